import PyProof.Rows.All
import Wide.All
import OpenK.AllK
import Wide.FinOn
import HandS.ForMost
import HandS.ForExc
import HandS.Exc
import HandS.ExcOwn
import HandS.ExcInit
import HandS.ExcField
import HandS.ExcIs
import KE.KExcIs
import HandS.TryOnly
import HandS.IsInst
import HandS.Slots
import HandS.SlotsOwn
import HandS.Defaults
import HandS.MakeKw
import HandS.MakeKwOnly
import HandS.CallSlots
import HandS.Walk
import HandS.Evl
import HandS.HeadWalk
import HandS.HeadHook4
import KE.KStateDown
import HandS.Head0
import HandS.Head1
import HandS.Head2
import HandS.HeadEnd
import HandS.Dict
import HandS.Iter
import HandS.WordsDict
import KE.GoesEnum
import HandS.Deep
import HandS.TupAny
import HandS.DictComp
import HandS.Finally
import HandS.Zip
import HandS.Conv
import KE.KDictList
import HandS.OwnEq
import KE.KEqDict
import KE.KIndexOf
import KE.DataFind
import HandS.TupMul
import HandS.Star
import HandS.More
import PyProof.WalksMore
import PyProof.SumWalkG
import PyProof.FactsAll.tuple_2
import KE.KDictKeyed
import HandS.Flow
import HandS.Nested
import KE.DataCmp
import PyProof.RulesMatch
import HandS.Property
import HandS.Strs
import PyProof.Rows.SetFrom
import KE.SortData
import HandS.Style
import PyProof.FactsAll.list_3
import KE.KDictDisplayH
import HandS.Rev
import KE.KOpsOwn
import KE.KWithOwn
import HandS.HotCalls
import PyProof.DictUpdate
import KE.KDictLaws
import HandS.TryMany
import PyProof.NeKinds
import HandS.StrMore
import HandS.NestedK
import PySem.Challenge.RW_linesharing_k37_desks_changed
set_option Elab.async false
set_option linter.all false
set_option maxRecDepth 100000
set_option maxHeartbeats 4000000
namespace DL
open PySem PySem.Spec PyProof.Rows L2

inductive D where
  | non | bl (b : Bool) | int (i : Int) | str (x : Str) | ty (n : String) | adr (a : Addr)
  | tup (ds : List D) | lst (ds : List D) | lsf (ds : List D) | slo (C : Addr) (ds : List D)
  | exc (a C dd : Addr) (ks : List Str) (ds : List D) | dic (ks : List Key) (ds : List D) | tub (ds : List D)

mutual
def Rep (K : PySem.W.Frag) (G : Hp) : D → V → Prop
  | .non, v => v = .non
  | .bl b, v => v = .bl b
  | .int i, v => v = .int i
  | .str x, v => v = .str x
  | .ty n, v => v = .ty n
  | .adr a, v => v = .ref a
  | .tup ds, v => ∃ (a : Addr) (vs : List V), v = .ref a ∧ SqT K G a vs ∧ Reps K G ds vs
  | .lst ds, v => ∃ (a : Addr) (vs : List V), v = .ref a ∧ G a = some (.lst vs) ∧ Reps K G ds vs
  | .lsf ds, v => ∃ (a : Addr) (vs : List V), v = .ref a ∧ SqL K G a vs ∧ Reps K G ds vs
  | .slo C ds, v => ∃ (a dx : Addr) (vs : List V), v = .ref a ∧ SlX.Slt G a C dx (vs.map some) ∧ Reps K G ds vs
  | .exc a _ dd ks ds, v => v = .ref a ∧ ∃ vs : List V, G dd = some (.xd (ks.zip vs)) ∧ Reps K G ds vs
  | .dic ks ds, v => ∃ (a : Addr) (od : Obj) (vs : List V), v = .ref a ∧ G a = some (.frz od (.dK (ks.zip vs))) ∧ ks.length = ds.length ∧ Reps K G ds vs
  | .tub ds, v => ∃ (a : Addr) (od : Obj) (vs : List V), v = .ref a ∧ G a = some (.frz od (.tup vs)) ∧ od.dict = none ∧ Reps K G ds vs
def Reps (K : PySem.W.Frag) (G : Hp) : List D → List V → Prop
  | [], vs => vs = []
  | d :: ds, vs => ∃ (v : V) (r : List V), vs = v :: r ∧ Rep K G d v ∧ Reps K G ds r
end

section
variable {K : PySem.W.Frag} {G G' H H' : Hp}
theorem sqT_mono {a : Addr} {xs : List V} (e : Same G H) (h : SqT K G a xs) : SqT K H a xs := Evl.ex_t e h
theorem sqL_mono {a : Addr} {xs : List V} (e : Same G H) (h : SqL K G a xs) : SqL K H a xs := e.seq h
theorem slt_mono {a C dx : Addr} {vs : List (Option V)} (e : Same G H) (h : SlX.Slt G a C dx vs) : SlX.Slt H a C dx vs := by
  rcases h with ⟨h1, h2⟩ | ⟨h1, h2⟩
  · exact .inl ⟨e _ _ h1, h2⟩
  · exact .inr ⟨e _ _ h1, e _ _ h2⟩
mutual
theorem Rep.mono (e : Same G H) : ∀ {d : D} {v : V}, Rep K G d v → Rep K H d v
  | .non, _, h => h
  | .bl _, _, h => h
  | .int _, _, h => h
  | .str _, _, h => h
  | .ty _, _, h => h
  | .adr _, _, h => h
  | .tup _, _, ⟨a, vs, h1, h2, h3⟩ => ⟨a, vs, h1, sqT_mono e h2, Reps.mono e h3⟩
  | .lst _, _, ⟨a, vs, h1, h2, h3⟩ => ⟨a, vs, h1, e _ _ h2, Reps.mono e h3⟩
  | .lsf _, _, ⟨a, vs, h1, h2, h3⟩ => ⟨a, vs, h1, sqL_mono e h2, Reps.mono e h3⟩
  | .slo _ _, _, ⟨a, dx, vs, h1, h2, h3⟩ => ⟨a, dx, vs, h1, slt_mono e h2, Reps.mono e h3⟩
  | .exc _ _ _ _ _, _, ⟨h1, vs, h2, h3⟩ => ⟨h1, vs, e _ _ h2, Reps.mono e h3⟩
  | .dic _ _, _, ⟨a, od, vs, h1, h2, h4, h3⟩ => ⟨a, od, vs, h1, e _ _ h2, h4, Reps.mono e h3⟩
  | .tub _, _, ⟨a, od, vs, h1, h2, h4, h3⟩ => ⟨a, od, vs, h1, e _ _ h2, h4, Reps.mono e h3⟩
theorem Reps.mono (e : Same G H) : ∀ {ds : List D} {vs : List V}, Reps K G ds vs → Reps K H ds vs
  | [], _, h => h
  | _ :: _, _, ⟨v, r, h1, h2, h3⟩ => ⟨v, r, h1, Rep.mono e h2, Reps.mono e h3⟩
end
theorem Reps.length : ∀ {ds : List D} {vs : List V}, Reps K G ds vs → vs.length = ds.length
  | [], _, h => by
    have h' : _ = [] := h
    subst h'
    rfl
  | _ :: _, _, ⟨v, r, h1, _, h3⟩ => by rw [h1, List.length_cons, List.length_cons, Reps.length h3]
theorem Reps.get : ∀ {ds : List D} {vs : List V} {i : Nat} {d : D}, Reps K G ds vs → ds[i]? = some d → ∃ v, vs[i]? = some v ∧ Rep K G d v
  | [], _, _, _, _, e => by simp at e
  | d :: ds, _, 0, d', ⟨v, r, h1, h2, h3⟩, e => by
    have e2 : d = d' := by simpa using e
    subst e2
    exact ⟨v, by rw [h1]; rfl, h2⟩
  | d :: ds, _, i + 1, d', ⟨v, r, h1, h2, h3⟩, e => by
    obtain ⟨w, e1, e2⟩ := Reps.get (i := i) h3 (by simpa using e)
    exact ⟨w, by rw [h1]; simpa using e1, e2⟩
theorem Reps.nil : Reps K G [] [] := rfl
theorem Reps.cons {d : D} {v : V} {ds : List D} {vs : List V} (h : Rep K G d v) (t : Reps K G ds vs) : Reps K G (d :: ds) (v :: vs) := ⟨v, vs, rfl, h, t⟩
theorem Reps.append : ∀ {ds es : List D} {vs ws : List V}, Reps K G ds vs → Reps K G es ws → Reps K G (ds ++ es) (vs ++ ws)
  | [], _, _, _, h, t => by rw [show _ = [] from h]; exact t
  | d :: ds, es, _, ws, ⟨v, r, h1, h2, h3⟩, t => by rw [h1]; exact ⟨v, r ++ ws, rfl, h2, Reps.append h3 t⟩
theorem Reps.one {d : D} {v : V} (h : Rep K G d v) : Reps K G [d] [v] := .cons h .nil
theorem Reps.set : ∀ {ds : List D} {vs : List V} {i : Nat} {d : D} {v : V}, Reps K G ds vs → Rep K G d v → Reps K G (ds.set i d) (vs.set i v)
  | [], _, _, _, _, h, _ => by rw [show _ = [] from h]; exact rfl
  | _ :: _, _, 0, d, v, ⟨w, r, h1, h2, h3⟩, q => by rw [h1]; exact ⟨v, r, rfl, q, h3⟩
  | _ :: _, _, i + 1, d, v, ⟨w, r, h1, h2, h3⟩, q => by rw [h1]; exact ⟨w, r.set i v, rfl, h2, Reps.set h3 q⟩

abbrev DEnv := List (Option D)
def EnvR (K : PySem.W.Frag) (G : Hp) (δ : DEnv) (σ : L2.St) : Prop := σ.length = δ.length ∧ ∀ (i : Nat) (d : D), δ[i]? = some (some d) → ∃ v, σ[i]? = some (some v) ∧ Rep K G d v
theorem EnvR.mono {δ : DEnv} {σ : L2.St} (e : Same G H) (h : EnvR K G δ σ) : EnvR K H δ σ := ⟨h.1, fun i d hd => by
  obtain ⟨v, h1, h2⟩ := h.2 i d hd
  exact ⟨v, h1, h2.mono e⟩⟩
theorem EnvR.set {δ : DEnv} {σ : L2.St} {i : Nat} {d : D} {v : V} (h : EnvR K G δ σ) (r : Rep K G d v) : EnvR K G (δ.set i (some d)) (σ.set i (some v)) := by
  refine ⟨by simp [h.1], fun j e he => ?_⟩
  by_cases hj : i = j
  · subst hj
    have hl : i < δ.length := by
      have := (List.getElem?_eq_some_iff.mp he).1
      simpa using this
    rw [List.getElem?_set_self hl] at he
    have e2 : d = e := by simpa using he
    subst e2
    exact ⟨v, List.getElem?_set_self (by rw [h.1]; exact hl), r⟩
  · rw [List.getElem?_set_ne hj] at he
    obtain ⟨w, h1, h2⟩ := h.2 j e he
    exact ⟨w, by rw [List.getElem?_set_ne hj]; exact h1, h2⟩
theorem EnvR.drop {δ : DEnv} {σ : L2.St} {i : Nat} (h : EnvR K G δ σ) (o : Option V) : EnvR K G (δ.set i none) (σ.set i o) := by
  refine ⟨by simp [h.1], fun j e he => ?_⟩
  by_cases hj : i = j
  · subst hj
    rw [List.getElem?_set] at he
    simp at he
  · rw [List.getElem?_set_ne hj] at he
    obtain ⟨w, h1, h2⟩ := h.2 j e he
    exact ⟨w, by rw [List.getElem?_set_ne hj]; exact h1, h2⟩
def dstart (N : List Str) (ds : List D) : DEnv := ds.map some ++ List.replicate (N.length - ds.length) none
theorem EnvR.start {N : List Str} {ds : List D} {vs : List V} (r : Reps K G ds vs) : EnvR K G (dstart N ds) (L2.start N vs) := by
  have hl := r.length
  refine ⟨by unfold L2.start dstart; simp [hl], fun i d hd => ?_⟩
  unfold dstart at hd
  by_cases hi : i < ds.length
  · rw [List.getElem?_append_left (by simpa using hi), List.getElem?_map] at hd
    have hd2 : ds[i]? = some d := by
      cases e : ds[i]? with
      | none => rw [e] at hd; cases hd
      | some x => rw [e] at hd; simpa using hd
    obtain ⟨v, h1, h2⟩ := r.get hd2
    refine ⟨v, ?_, h2⟩
    unfold L2.start
    rw [List.getElem?_append_left (by rw [List.length_map, hl]; exact hi), List.getElem?_map, h1]
    rfl
  · rw [List.getElem?_append_right (by simpa using hi), List.getElem?_replicate] at hd
    split at hd <;> cases hd
end

structure Iv (K : PySem.W.Frag) where
  F : Addr → Prop
  φ : Hp → Hp → Prop
  loc : ∀ G G' H H', Same G G' → (∀ a, F a → H' a = H a) → φ G H → φ G' H'
  dom : ∀ G H, φ G H → ∀ a, F a → H a ≠ none
structure Hd {K : PySem.W.Frag} (I : Iv K) (G H : Hp) : Prop where
  ph : I.φ G H
  fr : ∀ a, I.F a → G a = none
def iEmp (K : PySem.W.Frag) : Iv K := ⟨fun _ => False, fun _ _ => True, fun _ _ _ _ _ _ _ => trivial, fun _ _ _ _ h => h.elim⟩
def Iv.and {K : PySem.W.Frag} (I J : Iv K) : Iv K where
  F := fun a => I.F a ∨ J.F a
  φ := fun G H => I.φ G H ∧ J.φ G H ∧ ∀ a, ¬ (I.F a ∧ J.F a)
  loc := fun G G' H H' s k h => ⟨I.loc G G' H H' s (fun a ha => k a (.inl ha)) h.1, J.loc G G' H H' s (fun a ha => k a (.inr ha)) h.2.1, h.2.2⟩
  dom := fun G H h a ha => ha.elim (I.dom G H h.1 a) (J.dom G H h.2.1 a)
def iObj (K : PySem.W.Frag) (p : Addr) (R : Hp → HO → Prop) (mono : ∀ G G' o, Same G G' → R G o → R G' o) : Iv K where
  F := fun a => a = p
  φ := fun G H => ∃ o, H p = some o ∧ R G o
  loc := fun G G' H H' s k ⟨o, h1, h2⟩ => ⟨o, by rw [k p rfl]; exact h1, mono G G' o s h2⟩
  dom := fun G H ⟨o, h1, _⟩ a ha => by rw [show a = p from ha, h1]; simp
def iLst (K : PySem.W.Frag) (p : Addr) (ds : List D) : Iv K := iObj K p (fun G o => ∃ vs, o = .lst vs ∧ Reps K G ds vs) fun _ _ _ s ⟨vs, h1, h2⟩ => ⟨vs, h1, h2.mono s⟩
section
variable {K : PySem.W.Frag} {I J : Iv K} {G G' H H' : Hp}
theorem Hd.emp : Hd (iEmp K) G H := ⟨trivial, fun _ h => h.elim⟩
theorem Hd.left (h : Hd (I.and J) G H) : Hd I G H := ⟨h.ph.1, fun a ha => h.fr a (.inl ha)⟩
theorem Hd.right (h : Hd (I.and J) G H) : Hd J G H := ⟨h.ph.2.1, fun a ha => h.fr a (.inr ha)⟩
theorem Hd.apart (h : Hd (I.and J) G H) : ∀ a, ¬ (I.F a ∧ J.F a) := h.ph.2.2
theorem Hd.mk2 (h1 : Hd I G H) (h2 : Hd J G H) (d : ∀ a, ¬ (I.F a ∧ J.F a)) : Hd (I.and J) G H := ⟨⟨h1.ph, h2.ph, d⟩, fun a ha => ha.elim (h1.fr a) (h2.fr a)⟩
theorem Hd.dom (h : Hd I G H) {a : Addr} (ha : I.F a) : H a ≠ none := I.dom G H h.ph a ha
theorem Hd.keep (h : Hd I G H) {q : Addr} {o : HO} (hq : H q = none) (sG : Same G H) : Hd I (upd G q o) (upd H q o) := by
  have hg : G q = none := sG.free hq
  have nq : ∀ a, I.F a → a ≠ q := fun a ha e => h.dom ha (by rw [e]; exact hq)
  exact ⟨I.loc G _ H _ (Evl.Ex.new hg) (fun a ha => upd_ne (nq a ha)) h.ph, fun a ha => by rw [upd_ne (nq a ha)]; exact h.fr a ha⟩
theorem Hd.newp (h : Hd I G H) {q : Addr} {o : HO} (hq : H q = none) : Hd I G (upd H q o) := by
  have nq : ∀ a, I.F a → a ≠ q := fun a ha e => h.dom ha (by rw [e]; exact hq)
  exact ⟨I.loc G G H _ (Same.refl G) (fun a ha => upd_ne (nq a ha)) h.ph, h.fr⟩
theorem Hd.chg (h : Hd I G H) {q : Addr} {o : HO} (hq : ¬ I.F q) : Hd I G (upd H q o) :=
  ⟨I.loc G G H _ (Same.refl G) (fun a ha => upd_ne fun e => hq (by rw [← e]; exact ha)) h.ph, h.fr⟩
theorem same_upd {q : Addr} {o : HO} (s : Same G H) (hq : G q = none) : Same G (upd H q o) := fun a u e => by
  rw [upd_ne (ne_of_none e hq)]
  exact s a u e
theorem same_upd2 {q : Addr} {o : HO} (s : Same G H) : Same (upd G q o) (upd H q o) := fun a u e => by
  by_cases h : a = q
  · rw [h, upd_same] at e
    rw [h, upd_same]
    exact e
  · rw [upd_ne h] at e
    rw [upd_ne h]
    exact s a u e
theorem same_freeze {q : Addr} {o : HO} (s : Same G H) (hq : H q = some o) : Same (upd G q o) H := fun a u e => by
  by_cases h : a = q
  · rw [h, upd_same] at e
    rw [h, hq]
    exact e
  · rw [upd_ne h] at e
    exact s a u e
end

inductive Rc (K : PySem.W.Frag) where
  | here
  | l (c : Rc K) (J : Iv K)
  | r (J : Iv K) (c : Rc K)
def Rc.fill {K : PySem.W.Frag} : Rc K → Iv K → Iv K
  | .here, I => I
  | .l c J, I => (c.fill I).and J
  | .r J c, I => J.and (c.fill I)
structure Sub {K : PySem.W.Frag} (I I' : Iv K) : Prop where
  F : ∀ a, I'.F a ↔ I.F a
  φ : ∀ G H, I.φ G H → I'.φ G H
section
variable {K : PySem.W.Frag} {I I' J : Iv K} {G G' H H' : Hp}
theorem Hd.sub (s : Sub I I') (h : Hd I G H) : Hd I' G H := ⟨s.φ _ _ h.ph, fun a ha => h.fr a ((s.F a).mp ha)⟩
theorem Sub.refl : Sub I I := ⟨fun _ => Iff.rfl, fun _ _ h => h⟩
theorem Sub.andL (s : Sub I I') : Sub (I.and J) (I'.and J) := ⟨fun a => ⟨fun h => h.imp (s.F a).mp id, fun h => h.imp (s.F a).mpr id⟩, fun G H h => ⟨s.φ _ _ h.1, h.2.1, fun a ha => h.2.2 a ⟨(s.F a).mp ha.1, ha.2⟩⟩⟩
theorem Sub.andR (s : Sub I I') : Sub (J.and I) (J.and I') := ⟨fun a => ⟨fun h => h.imp id (s.F a).mp, fun h => h.imp id (s.F a).mpr⟩, fun G H h => ⟨h.1, s.φ _ _ h.2.1, fun a ha => h.2.2 a ⟨ha.1, (s.F a).mp ha.2⟩⟩⟩
theorem Sub.fill (s : Sub I I') : ∀ c : Rc K, Sub (c.fill I) (c.fill I')
  | .here => s
  | .l c J => (Sub.fill s c).andL
  | .r J c => (Sub.fill s c).andR
theorem Hd.inner : ∀ {c : Rc K}, Hd (c.fill I) G H → Hd I G H
  | .here, h => h
  | .l _ _, h => Hd.inner h.left
  | .r _ _, h => Hd.inner h.right
theorem fill_F (e : ∀ a, I'.F a ↔ I.F a) : ∀ (c : Rc K) (a : Addr), (c.fill I').F a ↔ (c.fill I).F a
  | .here, a => e a
  | .l c J, a => ⟨fun h => h.imp (fill_F e c a).mp id, fun h => h.imp (fill_F e c a).mpr id⟩
  | .r J c, a => ⟨fun h => h.imp id (fill_F e c a).mp, fun h => h.imp id (fill_F e c a).mpr⟩
theorem fill_in : ∀ (c : Rc K) (a : Addr), I.F a → (c.fill I).F a
  | .here, _, h => h
  | .l c _, a, h => .inl (fill_in c a h)
  | .r _ c, a, h => .inr (fill_in c a h)
theorem Hd.change (e : ∀ a, I'.F a ↔ I.F a) (k : ∀ a, ¬ I.F a → H' a = H a) (h' : Hd I' G H') : ∀ {c : Rc K}, Hd (c.fill I) G H → Hd (c.fill I') G H'
  | .here, _ => h'
  | .l c J, h => by
    have q := Hd.change e k h' h.left
    refine Hd.mk2 q ⟨J.loc G G H H' (Same.refl G) (fun a ha => k a fun z => h.apart a ⟨fill_in c a z, ha⟩) h.right.ph, h.right.fr⟩ fun a ha => h.apart a ⟨(fill_F e c a).mp ha.1, ha.2⟩
  | .r J c, h => by
    have q := Hd.change e k h' h.right
    refine Hd.mk2 ⟨J.loc G G H H' (Same.refl G) (fun a ha => k a fun z => h.apart a ⟨ha, fill_in c a z⟩) h.left.ph, h.left.fr⟩ q fun a ha => h.apart a ⟨ha.1, (fill_F e c a).mp ha.2⟩
theorem Hd.opens {α : Type} {f : α → Iv K} (e : ∀ x a, (f x).F a ↔ I.F a) (o : ∀ G H, I.φ G H → ∃ x, (f x).φ G H) : ∀ {c : Rc K}, Hd (c.fill I) G H → ∃ x, Hd (c.fill (f x)) G H
  | .here, h => by
    obtain ⟨x, hx⟩ := o _ _ h.ph
    exact ⟨x, hx, fun a ha => h.fr a ((e x a).mp ha)⟩
  | .l c J, h => by
    obtain ⟨x, hx⟩ := Hd.opens e o h.left
    exact ⟨x, Hd.mk2 hx h.right fun a ha => h.apart a ⟨(fill_F (e x) c a).mp ha.1, ha.2⟩⟩
  | .r J c, h => by
    obtain ⟨x, hx⟩ := Hd.opens e o h.right
    exact ⟨x, Hd.mk2 h.left hx fun a ha => h.apart a ⟨ha.1, (fill_F (e x) c a).mp ha.2⟩⟩
end
end DL
set_option Elab.async false
set_option linter.all false
set_option maxRecDepth 100000
set_option maxHeartbeats 4000000
namespace DL
open PySem PySem.Spec PyProof.Rows L2

structure wpE (X : Cx) (e : Expr) (σ : L2.St) (H : Hp) (Q : VK) : Prop where
  run : ∀ (pins : List (Addr × Obj)) (s : Shared), Inv X pins σ H s → wpAny (model X.prog X.w) X.A (eval e X.env) (EP X pins σ Q) X.xe s
structure wpT (X : Cx) (e : Expr) (σ : L2.St) (H : Hp) (Q : Bool → Hp → Prop) : Prop where
  run : ∀ (pins : List (Addr × Obj)) (s : Shared), Inv X pins σ H s → wpAny (model X.prog X.w) X.A (isTrue e X.env (eval e X.env)) (TP X pins σ Q) X.xe s
structure wpW (X : Cx) (e : Expr) (σ : L2.St) (H : Hp) (Q : Bool → Hp → Prop) : Prop where
  run : ∀ (whole : Sem Value) (pins : List (Addr × Obj)) (s : Shared), Inv X pins σ H s → wpAny (model X.prog X.w) X.A (isTrue e X.env whole) (TP X pins σ Q) X.xe s
structure wpA (X : Cx) (es : List Expr) (σ : L2.St) (H : Hp) (Q : List V → Hp → Prop) : Prop where
  run : ∀ (pos : Pos) (pins : List (Addr × Obj)) (s : Shared), Inv X pins σ H s → wpAny (model X.prog X.w) X.A (spliced (backTo pos (starEach es X.env))) (AP X pins σ Q) X.xe s
structure wpS (X : Cx) (st : Stmt) (D : Ends) (σ : L2.St) (H : Hp) : Prop where
  run : ∀ (pins : List (Addr × Obj)) (s : Shared), Inv X pins σ H s → wpAny (model X.prog X.w) X.A (exec st X.env) (SP X pins D) X.xe s
structure wpB (X : Cx) (sts : List Stmt) (D : Ends) (σ : L2.St) (H : Hp) : Prop where
  run : ∀ (pins : List (Addr × Obj)) (s : Shared), Inv X pins σ H s → wpAny (model X.prog X.w) X.A (execs sts X.env) (SP X pins D) X.xe s
section
variable {X : Cx} {e : Expr} {es : List Expr} {st : Stmt} {sts : List Stmt} {te : TE} {tt : TT} {ta : TA} {ts : TS} {σ : L2.St} {H : Hp}
theorem peC : PE X e (wpE X e) := ⟨fun pins s σ H Q I h => h.run pins s I⟩
theorem ptC : PT X e (wpT X e) := ⟨fun pins s σ H Q I h => h.run pins s I⟩
theorem pwC : PW X e (wpW X e) := ⟨fun whole pins s σ H Q I h => h.run whole pins s I⟩
theorem paC : PA X es (wpA X es) := ⟨fun pos pins s σ H Q I h => h.run pos pins s I⟩
theorem psC : PS X st (wpS X st) := ⟨fun pins s σ H D I h => h.run pins s I⟩
theorem pssC : PSs X sts (wpB X sts) := ⟨fun pins s σ H D I h => h.run pins s I⟩
theorem PE.wp (h : PE X e te) {Q : VK} (q : te σ H Q) : wpE X e σ H Q := ⟨fun pins s I => h.run pins s σ H Q I q⟩
theorem PT.wp (h : PT X e tt) {Q : Bool → Hp → Prop} (q : tt σ H Q) : wpT X e σ H Q := ⟨fun pins s I => h.run pins s σ H Q I q⟩
theorem PW.wp (h : PW X e tt) {Q : Bool → Hp → Prop} (q : tt σ H Q) : wpW X e σ H Q := ⟨fun w pins s I => h.run w pins s σ H Q I q⟩
theorem PA.wp (h : PA X es ta) {Q : List V → Hp → Prop} (q : ta σ H Q) : wpA X es σ H Q := ⟨fun pos pins s I => h.run pos pins s σ H Q I q⟩
theorem PS.wp (h : PS X st ts) {D : Ends} (q : ts D σ H) : wpS X st D σ H := ⟨fun pins s I => h.run pins s σ H D I q⟩
theorem PSs.wp (h : PSs X sts ts) {D : Ends} (q : ts D σ H) : wpB X sts D σ H := ⟨fun pins s I => h.run pins s σ H D I q⟩
end

section
variable {K : PySem.W.Frag}
def Kv (K : PySem.W.Frag) (Q : VK) (G : Hp) (P : D → Iv K → Prop) : Prop := ∀ (v : V) (d : D) (G' H' : Hp) (I' : Iv K), Same G G' → Same G' H' → Hd I' G' H' → Rep K G' d v → P d I' → Q v H'
def Kb (K : PySem.W.Frag) (Q : Bool → Hp → Prop) (G : Hp) (P : Bool → Iv K → Prop) : Prop := ∀ (b : Bool) (G' H' : Hp) (I' : Iv K), Same G G' → Same G' H' → Hd I' G' H' → P b I' → Q b H'
def Ka (K : PySem.W.Frag) (Q : List V → Hp → Prop) (G : Hp) (P : List D → Iv K → Prop) : Prop := ∀ (vs : List V) (ds : List D) (G' H' : Hp) (I' : Iv K), Same G G' → Same G' H' → Hd I' G' H' → Reps K G' ds vs → P ds I' → Q vs H'
theorem Kv.mono {Q : VK} {G G1 : Hp} {P : D → Iv K → Prop} (s : Same G G1) (h : Kv K Q G P) : Kv K Q G1 P := fun v d G' H' I' s1 => h v d G' H' I' (s.trans s1)
theorem Kb.mono {Q : Bool → Hp → Prop} {G G1 : Hp} {P : Bool → Iv K → Prop} (s : Same G G1) (h : Kb K Q G P) : Kb K Q G1 P := fun b G' H' I' s1 => h b G' H' I' (s.trans s1)
theorem Ka.mono {Q : List V → Hp → Prop} {G G1 : Hp} {P : List D → Iv K → Prop} (s : Same G G1) (h : Ka K Q G P) : Ka K Q G1 P := fun v d G' H' I' s1 => h v d G' H' I' (s.trans s1)
def Op2 (K : PySem.W.Frag) (r : R2) (x y : D) (I : Iv K) (P : D → Iv K → Prop) : Prop := ∀ (G H : Hp) (v w : V) (Q : VK), Same G H → Hd I G H → Rep K G x v → Rep K G y w → Kv K Q G P → r v w H Q
def Op1 (K : PySem.W.Frag) (r : V → Hp → VK → Prop) (x : D) (I : Iv K) (P : D → Iv K → Prop) : Prop := ∀ (G H : Hp) (v : V) (Q : VK), Same G H → Hd I G H → Rep K G x v → Kv K Q G P → r v H Q
def OpN (K : PySem.W.Frag) (r : List V → Hp → VK → Prop) (xs : List D) (I : Iv K) (P : D → Iv K → Prop) : Prop := ∀ (G H : Hp) (vs : List V) (Q : VK), Same G H → Hd I G H → Reps K G xs vs → Kv K Q G P → r vs H Q
end
abbrev Rx (K : PySem.W.Frag) := Addr → List (Str × D) → Iv K → Prop
def FRep (K : PySem.W.Frag) (G : Hp) : List (Str × D) → List (Str × V) → Prop
  | [], l => l = []
  | p :: ps, l => ∃ v r, l = (p.1, v) :: r ∧ Rep K G p.2 v ∧ FRep K G ps r
def Kx (K : PySem.W.Frag) (W : WX) (σ : L2.St) (G : Hp) (R : Rx K) : Prop := ∀ (C dd : Addr) (fs : List (Str × D)) (l : List (Str × V)) (G' H' : Hp) (I' : Iv K), Same G G' → Same G' H' → Hd I' G' H' → FRep K G' fs l → G' dd = some (.xd l) → R C fs I' → W (.ref C) (some dd) σ H'
theorem Kx.mono {K : PySem.W.Frag} {W : WX} {σ : L2.St} {G G1 : Hp} {R : Rx K} (s : Same G G1) (h : Kx K W σ G R) : Kx K W σ G1 R := fun C dd fs l G' H' I' s1 => h C dd fs l G' H' I' (s.trans s1)
def EvX (X : Cx) (W : WX) (R : Rx X.K) (e : Expr) (δ : DEnv) (I : Iv X.K) (P : D → Iv X.K → Prop) : Prop := ∀ (σ : L2.St) (G H : Hp) (Q : VK), EnvR X.K G δ σ → Same G H → Hd I G H → Kx X.K W σ G R → Kv X.K Q G P → wpE X e σ H Q
def EvT (X : Cx) (W : WX) (R : Rx X.K) (e : Expr) (δ : DEnv) (I : Iv X.K) (P : Bool → Iv X.K → Prop) : Prop := ∀ (σ : L2.St) (G H : Hp) (Q : Bool → Hp → Prop), EnvR X.K G δ σ → Same G H → Hd I G H → Kx X.K W σ G R → Kb X.K Q G P → wpT X e σ H Q
def EvW (X : Cx) (W : WX) (R : Rx X.K) (e : Expr) (δ : DEnv) (I : Iv X.K) (P : Bool → Iv X.K → Prop) : Prop := ∀ (σ : L2.St) (G H : Hp) (Q : Bool → Hp → Prop), EnvR X.K G δ σ → Same G H → Hd I G H → Kx X.K W σ G R → Kb X.K Q G P → wpW X e σ H Q
def EvA (X : Cx) (W : WX) (R : Rx X.K) (es : List Expr) (δ : DEnv) (I : Iv X.K) (P : List D → Iv X.K → Prop) : Prop := ∀ (σ : L2.St) (G H : Hp) (Q : List V → Hp → Prop), EnvR X.K G δ σ → Same G H → Hd I G H → Kx X.K W σ G R → Ka X.K Q G P → wpA X es σ H Q
def PV (X : Cx) (I : Iv X.K) (e : Expr) (δ : DEnv) (d : D) : Prop := ∀ (W : WX) (R : Rx X.K) (P : D → Iv X.K → Prop), P d I → EvX X W R e δ I P
def PVT (X : Cx) (I : Iv X.K) (e : Expr) (δ : DEnv) (b : Bool) : Prop := ∀ (W : WX) (R : Rx X.K) (P : Bool → Iv X.K → Prop), P b I → EvT X W R e δ I P
def PVW (X : Cx) (I : Iv X.K) (e : Expr) (δ : DEnv) (b : Bool) : Prop := ∀ (W : WX) (R : Rx X.K) (P : Bool → Iv X.K → Prop), P b I → EvW X W R e δ I P
def PVA (X : Cx) (I : Iv X.K) (es : List Expr) (δ : DEnv) (ds : List D) : Prop := ∀ (W : WX) (R : Rx X.K) (P : List D → Iv X.K → Prop), P ds I → EvA X W R es δ I P
def P2 (K : PySem.W.Frag) (I : Iv K) (r : R2) (x y z : D) : Prop := ∀ (P : D → Iv K → Prop), P z I → Op2 K r x y I P
def P1 (K : PySem.W.Frag) (I : Iv K) (r : V → Hp → VK → Prop) (x z : D) : Prop := ∀ (P : D → Iv K → Prop), P z I → Op1 K r x I P
def PN (K : PySem.W.Frag) (I : Iv K) (r : List V → Hp → VK → Prop) (xs : List D) (z : D) : Prop := ∀ (P : D → Iv K → Prop), P z I → OpN K r xs I P

section
variable {X : Cx} {a b c e : Expr} {es rest : List Expr} {δ : DEnv} {I : Iv X.K} {W : WX} {R : Rx X.K} {P P' : D → Iv X.K → Prop} {PB PB' : Bool → Iv X.K → Prop} {PA' : List D → Iv X.K → Prop} {pos p : Pos} {d x y z : D} {x' : Str}
theorem EvX.imp (h : EvX X W R e δ I P) (k : ∀ d I', P d I' → P' d I') : EvX X W R e δ I P' := fun σ G H Q hE s hI qx q => h σ G H Q hE s hI qx fun v d G' H' I' s1 s2 h1 r p => q v d G' H' I' s1 s2 h1 r (k d I' p)
theorem EvT.imp (h : EvT X W R e δ I PB) (k : ∀ d I', PB d I' → PB' d I') : EvT X W R e δ I PB' := fun σ G H Q hE s hI qx q => h σ G H Q hE s hI qx fun d G' H' I' s1 s2 h1 p => q d G' H' I' s1 s2 h1 (k d I' p)
theorem PV.is (h : PV X I e δ d) (q : d = z) : PV X I e δ z := q ▸ h
theorem PVT.is {b c : Bool} (h : PVT X I e δ b) (q : b = c) : PVT X I e δ c := q ▸ h
theorem P2.is {K : PySem.W.Frag} {I : Iv K} {r : R2} {x y z z' : D} (h : P2 K I r x y z) (q : z = z') : P2 K I r x y z' := q ▸ h
theorem pv_t {v : V} (h : PE X e (tC v)) (hr : ∀ G, Rep X.K G d v) : PV X I e δ d := fun W R P p σ G H Q _ s hI _ q => PE.wp h (q v d G H I (Same.refl G) s hI (hr G) p)
theorem pv_int {i : Int} {j} : PV X I (.Constant (.int i) j pos) δ (.int i) := pv_t pe_int fun _ => rfl
theorem pv_str {w : Str} {j} : PV X I (.Constant (.str w) j pos) δ (.str w) := pv_t pe_str fun _ => rfl
theorem pv_bl {k : Bool} {j} : PV X I (.Constant (.bool k) j pos) δ (.bl k) := pv_t pe_bl fun _ => rfl
theorem pv_non {j} : PV X I (.Constant .none j pos) δ .non := pv_t pe_non fun _ => rfl
theorem pv_v (i : Nat) (hd : δ[i]? = some (some d) := by rfl) (hN : X.N[i]? = some x' := by rfl) (hv : Vis X.env.scope x' := by first | exact Or.inl rfl | exact Or.inr (Or.inl rfl) | exact Or.inr (Or.inr rfl)) (hdb : (x' == ("__debug__" : Str)) = false := by decide)
    (hcd : (x' == ("__classdict__" : Str)) = false := by decide) : PV X I (.Name x' pos) δ d := fun W R P p σ G H Q hE s hI qx q => by
  obtain ⟨v, h1, h2⟩ := hE.2 i d hd
  exact PE.wp (pe_var hN hv hdb hcd) ⟨v, h1, q v d G H I (Same.refl G) s hI h2 p⟩
theorem pv_g {v : V} {u : Value} (hm : X.mg x' = some u) (r : RelV v u) (hr : ∀ G, Rep X.K G d v) (hg : Gl X x' := by rfl) (hdb : (x' == ("__debug__" : Str)) = false := by decide) : PV X I (.Name x' pos) δ d := pv_t (pe_glob hg hm r hdb) hr
theorem pv_gty {n : String} (hm : X.mg x' = none) (hv : bootBuiltins x' = some (.type n) := by decide +kernel) (hg : Gl X x' := by rfl) (hn : x' ≠ "__name__" := by decide) (hdb : (x' == ("__debug__" : Str)) = false := by decide) : PV X I (.Name x' pos) δ (.ty n) :=
  pv_t (v := .ty n) (pe_bltn hg hm hv rfl hn hdb) fun _ => rfl
theorem ev_op {op : Operator} {r : R2} (ho : OpR X (binaryOp op) r) (h : EvX X W R a δ I fun x I1 => EvX X W R b δ I1 fun y I2 => Op2 X.K r x y I2 P) : EvX X W R (.BinOp a op b pos) δ I P := fun σ G H Q hE s hI qx q =>
  PE.wp (pe_op ho peC peC) (h σ G H _ hE s hI qx fun v x G1 H1 I1 s1 t1 h1 r1 k1 => k1 σ G1 H1 _ (hE.mono s1) t1 h1 (qx.mono s1) fun w y G2 H2 I2 s2 t2 h2 r2 k2 => k2 G2 H2 v w Q t2 h2 (r1.mono s2) r2 (q.mono (s1.trans s2)))
theorem ev_cmp {op : CmpOp} {r : R2} (ho : OpR X (compareOp op) r) (h : EvX X W R a δ I fun x I1 => EvX X W R b δ I1 fun y I2 => Op2 X.K r x y I2 P) (hm : behindInMarks op b = false := by first | exact nomark _ | rfl) : EvX X W R (.Compare a [op] [b] pos) δ I P := fun σ G H Q hE s hI qx q =>
  PE.wp (pe_cmpR ho peC peC hm) (h σ G H _ hE s hI qx fun v x G1 H1 I1 s1 t1 h1 r1 k1 => k1 σ G1 H1 _ (hE.mono s1) t1 h1 (qx.mono s1) fun w y G2 H2 I2 s2 t2 h2 r2 k2 => k2 G2 H2 v w Q t2 h2 (r1.mono s2) r2 (q.mono (s1.trans s2)))
theorem et_cmp {op : CmpOp} {r : R2} (ho : OpR X (compareOp op) r) (h : EvX X W R a δ I fun x I1 => EvX X W R b δ I1 fun y I2 => Op2 X.K r x y I2 fun z I3 => ∃ k, z = .bl k ∧ PB k I3) (hm : behindInMarks op b = false := by first | exact nomark _ | rfl) : EvT X W R (.Compare a [op] [b] pos) δ I PB := fun σ G H Q hE s hI qx q =>
  PT.wp (pt_cmpR ho peC peC hm) (h σ G H _ hE s hI qx fun v x G1 H1 I1 s1 t1 h1 r1 k1 => k1 σ G1 H1 _ (hE.mono s1) t1 h1 (qx.mono s1) fun w y G2 H2 I2 s2 t2 h2 r2 k2 => k2 G2 H2 v w _ t2 h2 (r1.mono s2) r2 fun z d G3 H3 I3 s3 t3 h3 r3 ⟨k, e, p⟩ => ⟨k, by subst e; exact r3, q k G3 H3 I3 ((s1.trans s2).trans s3) t3 h3 p⟩)
theorem pv_op {op : Operator} {r : R2} (ho : OpR X (binaryOp op) r) (ha : PV X I a δ x) (hb : PV X I b δ y) (h : P2 X.K I r x y z) : PV X I (.BinOp a op b pos) δ z := fun W R P p => ev_op ho (ha W R _ (hb W R _ (h P p)))
theorem pv_cmp {op : CmpOp} {r : R2} (ho : OpR X (compareOp op) r) (ha : PV X I a δ x) (hb : PV X I b δ y) (h : P2 X.K I r x y z) (hm : behindInMarks op b = false := by first | exact nomark _ | rfl) : PV X I (.Compare a [op] [b] pos) δ z := fun W R P p => ev_cmp ho (ha W R _ (hb W R _ (h P p))) hm
theorem pt_cmp {op : CmpOp} {r : R2} {k : Bool} (ho : OpR X (compareOp op) r) (ha : PV X I a δ x) (hb : PV X I b δ y) (h : P2 X.K I r x y (.bl k)) (hm : behindInMarks op b = false := by first | exact nomark _ | rfl) : PVT X I (.Compare a [op] [b] pos) δ k := fun W R P p => et_cmp ho (ha W R _ (hb W R _ (h _ ⟨k, rfl, p⟩))) hm
theorem ev_ix {r : R2} (ho : IxR X r) (h : EvX X W R a δ I fun x I1 => EvX X W R b δ I1 fun y I2 => Op2 X.K r x y I2 P) (hs : PlainIx b := by exact fun _ _ => rfl) : EvX X W R (.Subscript a b pos) δ I P := fun σ G H Q hE s hI qx q =>
  PE.wp (pe_ix ho peC peC hs) (h σ G H _ hE s hI qx fun v x G1 H1 I1 s1 t1 h1 r1 k1 => k1 σ G1 H1 _ (hE.mono s1) t1 h1 (qx.mono s1) fun w y G2 H2 I2 s2 t2 h2 r2 k2 => k2 G2 H2 v w Q t2 h2 (r1.mono s2) r2 (q.mono (s1.trans s2)))
theorem pv_ix {r : R2} (ho : IxR X r) (ha : PV X I a δ x) (hb : PV X I b δ y) (h : P2 X.K I r x y z) (hs : PlainIx b := by exact fun _ _ => rfl) : PV X I (.Subscript a b pos) δ z := fun W R P p => ev_ix ho (ha W R _ (hb W R _ (h P p))) hs
theorem ev_un {op : UnaryOp} {r : V → Hp → VK → Prop} (ho : UnR X (unaryOp op) r) (h : EvX X W R a δ I fun x I1 => Op1 X.K r x I1 P) : EvX X W R (.UnaryOp op a pos) δ I P := fun σ G H Q hE s hI qx q =>
  PE.wp (pe_un ho peC) (h σ G H _ hE s hI qx fun v x G1 H1 I1 s1 t1 h1 r1 k1 => k1 G1 H1 v Q t1 h1 r1 (q.mono s1))
theorem pv_un {op : UnaryOp} {r : V → Hp → VK → Prop} (ho : UnR X (unaryOp op) r) (ha : PV X I a δ x) (h : P1 X.K I r x z) : PV X I (.UnaryOp op a pos) δ z := fun W R P p => ev_un ho (ha W R _ (h P p))
theorem et_val (h : EvX X W R e δ I fun z I1 => ∃ k, z = .bl k ∧ PB k I1) (he : ∀ whole, isTrue e X.env whole = (do let v ← whole; standAt e.pos; holding [v] (truthy v)) := by intro _; rfl) : EvT X W R e δ I PB := fun σ G H Q hE s hI qx q =>
  PT.wp (pt_val peC he) (h σ G H _ hE s hI qx fun v d G1 H1 I1 s1 t1 h1 r1 ⟨k, ek, p⟩ => ⟨k, by subst ek; exact r1, q k G1 H1 I1 s1 t1 h1 p⟩)
theorem pt_v {k : Bool} (h : PV X I e δ (.bl k)) (he : ∀ whole, isTrue e X.env whole = (do let v ← whole; standAt e.pos; holding [v] (truthy v)) := by intro _; rfl) : PVT X I e δ k := fun W R P p => et_val (h W R _ ⟨k, rfl, p⟩) he
theorem et_not (h : EvT X W R a δ I fun k I1 => PB (!k) I1) : EvT X W R (.UnaryOp .Not a pos) δ I PB := fun σ G H Q hE s hI qx q =>
  PT.wp (L2.pt_not ptC) (h σ G H _ hE s hI qx fun k G1 H1 I1 s1 t1 h1 p => q (!k) G1 H1 I1 s1 t1 h1 p)
theorem ptn {k : Bool} (h : PVT X I a δ k) : PVT X I (.UnaryOp .Not a pos) δ (!k) := fun W R P p => et_not (h W R _ p)
theorem ew_and (h : EvT X W R a δ I fun k I1 => if k = true then EvW X W R (.BoolOp .And (b :: rest) pos) δ I1 PB else PB false I1) : EvW X W R (.BoolOp .And (a :: b :: rest) pos) δ I PB := fun σ G H Q hE s hI qx q =>
  PW.wp (pw_and ptC pwC) (h σ G H _ hE s hI qx fun k G1 H1 I1 s1 t1 h1 p => by
    cases k with
    | true => exact (show EvW X W R (.BoolOp .And (b :: rest) pos) δ I1 PB from p) σ G1 H1 Q (hE.mono s1) t1 h1 (qx.mono s1) (q.mono s1)
    | false => exact q false G1 H1 I1 s1 t1 h1 p)
theorem ew_or (h : EvT X W R a δ I fun k I1 => if k = true then PB true I1 else EvW X W R (.BoolOp .Or (b :: rest) pos) δ I1 PB) : EvW X W R (.BoolOp .Or (a :: b :: rest) pos) δ I PB := fun σ G H Q hE s hI qx q =>
  PW.wp (pw_or ptC pwC) (h σ G H _ hE s hI qx fun k G1 H1 I1 s1 t1 h1 p => by
    cases k with
    | false => exact (show EvW X W R (.BoolOp .Or (b :: rest) pos) δ I1 PB from p) σ G1 H1 Q (hE.mono s1) t1 h1 (qx.mono s1) (q.mono s1)
    | true => exact q true G1 H1 I1 s1 t1 h1 p)
theorem ew_and1 (h : EvT X W R a δ I PB) : EvW X W R (.BoolOp .And [a] pos) δ I PB := fun σ G H Q hE s hI qx q => PW.wp (pw_and1 ptC) (h σ G H _ hE s hI qx q)
theorem ew_or1 (h : EvT X W R a δ I PB) : EvW X W R (.BoolOp .Or [a] pos) δ I PB := fun σ G H Q hE s hI qx q => PW.wp (pw_or1 ptC) (h σ G H _ hE s hI qx q)
theorem et_w (h : EvW X W R e δ I PB) : EvT X W R e δ I PB := fun σ G H Q hE s hI qx q => ⟨fun pins s1 J => (h σ G H Q hE s hI qx q).run _ pins s1 J⟩
theorem ww_and {k l : Bool} (h1 : PVT X I a δ k) (h2 : k = true → PVW X I (.BoolOp .And (b :: rest) pos) δ l) : PVW X I (.BoolOp .And (a :: b :: rest) pos) δ (k && l) := fun W R P p => ew_and (h1 W R _ (by
  cases k with
  | true => exact h2 rfl W R P p
  | false => exact p))
theorem ww_or {k l : Bool} (h1 : PVT X I a δ k) (h2 : k = false → PVW X I (.BoolOp .Or (b :: rest) pos) δ l) : PVW X I (.BoolOp .Or (a :: b :: rest) pos) δ (k || l) := fun W R P p => ew_or (h1 W R _ (by
  cases k with
  | false => exact h2 rfl W R P p
  | true => exact p))
theorem ww_and1 {k : Bool} (h : PVT X I a δ k) : PVW X I (.BoolOp .And [a] pos) δ k := fun W R P p => ew_and1 (h W R P p)
theorem ww_or1 {k : Bool} (h : PVT X I a δ k) : PVW X I (.BoolOp .Or [a] pos) δ k := fun W R P p => ew_or1 (h W R P p)
theorem ptw {k : Bool} (h : PVW X I e δ k) : PVT X I e δ k := fun W R P p => et_w (h W R P p)
theorem pv_and {k : Bool} (h1 : PV X I a δ (.bl k)) (h2 : k = true → PV X I (.BoolOp .And (b :: rest) pos) δ z) (h3 : k = false → z = .bl false) : PV X I (.BoolOp .And (a :: b :: rest) pos) δ z := fun W R P p σ G H Q hE s hI qx q =>
  PE.wp (pe_and peC peC) (h1 W R (fun z I1 => z = .bl k ∧ I1 = I) ⟨rfl, rfl⟩ σ G H _ hE s hI qx fun v d G1 H1 I1 s1 t1 e1 r1 ⟨ed, ei⟩ => by
    subst ed ei
    refine ⟨k, r1, ?_⟩
    cases k with
    | true => exact h2 rfl W R P p σ G1 H1 Q (hE.mono s1) t1 e1 (qx.mono s1) (q.mono s1)
    | false =>
      have ez := h3 rfl
      subst ez
      exact q (.bl false) (.bl false) G1 H1 _ s1 t1 e1 rfl p)
theorem pv_one {op} (h : PV X I a δ z) : PV X I (.BoolOp op [a] pos) δ z := fun W R P p σ G H Q hE s hI qx q => PE.wp (pe_one peC) (h W R P p σ G H Q hE s hI qx q)
theorem pv_andB {k l : Bool} (h1 : PV X I a δ (.bl k)) (h2 : k = true → PV X I (.BoolOp .And (b :: rest) pos) δ (.bl l)) : PV X I (.BoolOp .And (a :: b :: rest) pos) δ (.bl (k && l)) := by
  cases k with
  | true => exact pv_and h1 h2 (fun z => nomatch z)
  | false => exact pv_and h1 (fun z => nomatch z) (fun _ => rfl)
theorem pv_not {k : Bool} (h : PV X I a δ (.bl k)) : PV X I (.UnaryOp .Not a pos) δ (.bl (!k)) := fun W R P p σ G H Q hE s hI qx q =>
  PE.wp (pe_not peC) (h W R (fun z I1 => z = .bl k ∧ I1 = I) ⟨rfl, rfl⟩ σ G H _ hE s hI qx fun v d G1 H1 I1 s1 t1 e1 r1 ⟨ed, ei⟩ => by
    subst ed ei
    exact ⟨k, r1, q _ (.bl (!k)) G1 H1 _ s1 t1 e1 rfl p⟩)
theorem pv_if {k : Bool} (h : PVT X I c δ k) (h1 : k = true → PV X I a δ z) (h2 : k = false → PV X I b δ z) : PV X I (.IfExp c a b pos) δ z := fun W R P p σ G H Q hE s hI qx q =>
  PE.wp (pe_ifExp ptC peC peC) (h W R (fun l I1 => l = k ∧ I1 = I) ⟨rfl, rfl⟩ σ G H _ hE s hI qx fun l G1 H1 I1 s1 t1 e1 ⟨el, ei⟩ => by
    subst el ei
    cases l with
    | true => exact h1 rfl W R P p σ G1 H1 Q (hE.mono s1) t1 e1 (qx.mono s1) (q.mono s1)
    | false => exact h2 rfl W R P p σ G1 H1 Q (hE.mono s1) t1 e1 (qx.mono s1) (q.mono s1))
theorem ea_nil (p : PA' [] I) : EvA X W R [] δ I PA' := fun σ G H Q hE s hI qx q => PA.wp pa_nil (q [] [] G H I (Same.refl G) s hI rfl p)
theorem ea_cons (h : EvX X W R e δ I fun d I1 => EvA X W R es δ I1 fun ds I2 => PA' (d :: ds) I2) (hs : starEach (e :: es) X.env = (false, eval e X.env) :: starEach es X.env := by rfl) : EvA X W R (e :: es) δ I PA' := fun σ G H Q hE s hI qx q =>
  PA.wp (pa_cons peC paC hs) (h σ G H _ hE s hI qx fun v d G1 H1 I1 s1 t1 h1 r1 k => k σ G1 H1 _ (hE.mono s1) t1 h1 (qx.mono s1) fun vs ds G2 H2 I2 s2 t2 h2 r2 k2 => q (v :: vs) (d :: ds) G2 H2 I2 (s1.trans s2) t2 h2 ⟨v, vs, rfl, r1.mono s2, r2⟩ k2)
theorem va_nil : PVA X I [] δ [] := fun W R P p => ea_nil p
theorem va_cons {ds : List D} (h : PV X I e δ d) (t : PVA X I es δ ds) (hs : starEach (e :: es) X.env = (false, eval e X.env) :: starEach es X.env := by rfl) : PVA X I (e :: es) δ (d :: ds) := fun W R P p => ea_cons (h W R _ (t W R _ p)) hs
theorem ev_tup {x1} (h : EvA X W R es δ I fun ds I1 => ds.length ≤ 1000 ∧ P (.tup ds) I1) : EvX X W R (.Tuple es x1 pos) δ I P := fun σ G H Q hE s hI qx q =>
  PE.wp (pe_tup paC) (h σ G H _ hE s hI qx fun vs ds G1 H1 I1 s1 t1 h1 r1 ⟨hl, k⟩ => ⟨by rw [r1.length, sizeLine_eq]; omega, fun p hp => by
    have hg : G1 p = none := t1.free hp
    exact q (.ref p) (.tup ds) (upd G1 p (.tup vs)) _ I1 (s1.trans (Evl.Ex.new hg)) (same_upd2 t1) (h1.keep hp t1) ⟨p, vs, rfl, SqT.of upd_same, r1.mono (Evl.Ex.new hg)⟩ k⟩)
theorem ev_lst (h : EvA X W R es δ I fun ds I1 => ds.length ≤ 1000 ∧ P (.lst ds) I1) : EvX X W R (.List es pos) δ I P := fun σ G H Q hE s hI qx q =>
  PE.wp (pe_lst paC) (h σ G H _ hE s hI qx fun vs ds G1 H1 I1 s1 t1 h1 r1 ⟨hl, k⟩ => ⟨by rw [r1.length, sizeLine_eq]; omega, fun p hp => by
    have hg : G1 p = none := t1.free hp
    exact q (.ref p) (.lst ds) (upd G1 p (.lst vs)) _ I1 (s1.trans (Evl.Ex.new hg)) (same_upd2 t1) (h1.keep hp t1) ⟨p, vs, rfl, upd_same, r1.mono (Evl.Ex.new hg)⟩ k⟩)
theorem pv_tup {x1} {ds : List D} (h : PVA X I es δ ds) (hl : ds.length ≤ 1000 := by first | decide | simp) : PV X I (.Tuple es x1 pos) δ (.tup ds) := fun W R P p => ev_tup (h W R _ ⟨hl, p⟩)
theorem pv_lst {ds : List D} (h : PVA X I es δ ds) (hl : ds.length ≤ 1000 := by first | decide | simp) : PV X I (.List es pos) δ (.lst ds) := fun W R P p => ev_lst (h W R _ ⟨hl, p⟩)
theorem ev_lstM {ds : List D} (h : PVA X I es δ ds) (hl : ds.length ≤ 1000) (hp : ∀ p, (∀ a, ¬ (I.F a ∧ a = p)) → P (.adr p) (I.and (iLst X.K p ds))) : EvX X W R (.List es pos) δ I P := fun σ G H Q hE s hI qx q =>
  PE.wp (pe_lst paC) (h W R (fun es I1 => es = ds ∧ I1 = I) ⟨rfl, rfl⟩ σ G H _ hE s hI qx fun vs es G1 H1 I1 s1 t1 h1 r1 ⟨ee, ei⟩ => ⟨by rw [r1.length, ee, sizeLine_eq]; omega, fun p hq => by
    subst ee ei
    have hg : G1 p = none := t1.free hq
    have na : ∀ a, ¬ (I1.F a ∧ a = p) := fun a ha => h1.dom ha.1 (by rw [ha.2]; exact hq)
    exact q (.ref p) (.adr p) G1 _ (I1.and (iLst X.K p es)) s1 (same_upd t1 hg) (Hd.mk2 (h1.newp hq) ⟨⟨_, upd_same, vs, rfl, r1⟩, fun a ha => by rw [show a = p from ha]; exact hg⟩ na) rfl (hp p na)⟩)
theorem ev_cb {r : List V → Hp → VK → Prop} {id : String} (hc : CallR X (.builtin id) r) (hm : X.mg x' = none) (h : EvA X W R (e :: es) δ I fun ds I1 => OpN X.K r ds I1 P) (hv : bootBuiltins x' = some (.builtin id) := by decide +kernel) (hg : Gl X x' := by rfl) (hn : x' ≠ "__name__" := by decide) (hdb : (x' == ("__debug__" : Str)) = false := by decide)
    (he : starEach (e :: es) X.env = (false, eval e X.env) :: starEach es X.env := by rfl) (hpl : (backTo pos (starEach es X.env)).any (·.1) = false := by rfl) : EvX X W R (.Call (.Name x' p) (e :: es) [] pos) δ I P := fun σ G H Q hE s hI qx q =>
  PE.wp (pe_callB hc hg hm hv paC hn hdb he hpl) (h σ G H _ hE s hI qx fun vs ds G1 H1 I1 s1 t1 h1 r1 k => k G1 H1 vs Q t1 h1 r1 (q.mono s1))
theorem ev_ct {r : List V → Hp → VK → Prop} {T : String} (hc : CallR X (.type T) r) (hm : X.mg x' = none) (h : EvA X W R (e :: es) δ I fun ds I1 => OpN X.K r ds I1 P) (hv : bootBuiltins x' = some (.type T) := by decide +kernel) (hg : Gl X x' := by rfl) (hn : x' ≠ "__name__" := by decide) (hdb : (x' == ("__debug__" : Str)) = false := by decide)
    (he : starEach (e :: es) X.env = (false, eval e X.env) :: starEach es X.env := by rfl) (hpl : (backTo pos (starEach es X.env)).any (·.1) = false := by rfl) : EvX X W R (.Call (.Name x' p) (e :: es) [] pos) δ I P := fun σ G H Q hE s hI qx q =>
  PE.wp (pe_callTy hc hg hm hv paC hn hdb he hpl) (h σ G H _ hE s hI qx fun vs ds G1 H1 I1 s1 t1 h1 r1 k => k G1 H1 vs Q t1 h1 r1 (q.mono s1))
theorem pv_cb {r : List V → Hp → VK → Prop} {id : String} {ds : List D} (hc : CallR X (.builtin id) r) (hm : X.mg x' = none) (h : PVA X I (e :: es) δ ds) (k : PN X.K I r ds z) (hv : bootBuiltins x' = some (.builtin id) := by decide +kernel) (hg : Gl X x' := by rfl) (hn : x' ≠ "__name__" := by decide) (hdb : (x' == ("__debug__" : Str)) = false := by decide)
    (he : starEach (e :: es) X.env = (false, eval e X.env) :: starEach es X.env := by rfl) (hpl : (backTo pos (starEach es X.env)).any (·.1) = false := by rfl) : PV X I (.Call (.Name x' p) (e :: es) [] pos) δ z := fun W R P p => ev_cb hc hm (h W R _ (k P p)) hv hg hn hdb he hpl
theorem pv_ct {r : List V → Hp → VK → Prop} {T : String} {ds : List D} (hc : CallR X (.type T) r) (hm : X.mg x' = none) (h : PVA X I (e :: es) δ ds) (k : PN X.K I r ds z) (hv : bootBuiltins x' = some (.type T) := by decide +kernel) (hg : Gl X x' := by rfl) (hn : x' ≠ "__name__" := by decide) (hdb : (x' == ("__debug__" : Str)) = false := by decide)
    (he : starEach (e :: es) X.env = (false, eval e X.env) :: starEach es X.env := by rfl) (hpl : (backTo pos (starEach es X.env)).any (·.1) = false := by rfl) : PV X I (.Call (.Name x' p) (e :: es) [] pos) δ z := fun W R P p => ev_ct hc hm (h W R _ (k P p)) hv hg hn hdb he hpl
end
end DL
set_option Elab.async false
set_option linter.all false
set_option maxRecDepth 100000
set_option maxHeartbeats 4000000
namespace DL
open PySem PySem.Spec PyProof.Rows L2

structure Ko (K : PySem.W.Frag) where
  nx : DEnv → Iv K → Prop
  rt : D → Iv K → Prop
  bk : DEnv → Iv K → Prop := fun _ _ => False
  ct : DEnv → Iv K → Prop := fun _ _ => False
  ex : Addr → List (Str × D) → DEnv → Iv K → Prop := fun _ _ _ _ => False
def Ks (K : PySem.W.Frag) (N : L2.St → Hp → Prop) (G : Hp) (n : DEnv → Iv K → Prop) : Prop := ∀ (δ : DEnv) (σ : L2.St) (G' H' : Hp) (I' : Iv K), Same G G' → Same G' H' → Hd I' G' H' → EnvR K G' δ σ → n δ I' → N σ H'
def Ke (K : PySem.W.Frag) (W : WX) (G : Hp) (x : Addr → List (Str × D) → DEnv → Iv K → Prop) : Prop := ∀ (C dd : Addr) (fs : List (Str × D)) (l : List (Str × V)) (δ : DEnv) (σ : L2.St) (G' H' : Hp) (I' : Iv K), Same G G' → Same G' H' → Hd I' G' H' → EnvR K G' δ σ → FRep K G' fs l → G' dd = some (.xd l) → x C fs δ I' → W (.ref C) (some dd) σ H'
structure KoLe (K : PySem.W.Frag) (W : WX) (E : Ends) (G : Hp) (κ : Ko K) : Prop where
  nx : Ks K E.nx G κ.nx
  rt : Kv K E.rt G κ.rt
  bk : Ks K E.bk G κ.bk
  ct : Ks K E.ct G κ.ct
  ex : Ke K W G κ.ex
section
variable {K : PySem.W.Frag} {W : WX} {E : Ends} {G G1 : Hp} {κ : Ko K}
theorem Ks.mono {N : L2.St → Hp → Prop} {n : DEnv → Iv K → Prop} (s : Same G G1) (h : Ks K N G n) : Ks K N G1 n := fun δ σ G' H' I' s1 => h δ σ G' H' I' (s.trans s1)
theorem Ke.mono {x : Addr → List (Str × D) → DEnv → Iv K → Prop} (s : Same G G1) (h : Ke K W G x) : Ke K W G1 x := fun C dd fs l δ σ G' H' I' s1 => h C dd fs l δ σ G' H' I' (s.trans s1)
theorem KoLe.mono (s : Same G G1) (h : KoLe K W E G κ) : KoLe K W E G1 κ := ⟨h.nx.mono s, h.rt.mono s, h.bk.mono s, h.ct.mono s, h.ex.mono s⟩
theorem KoLe.kx {δ : DEnv} {σ : L2.St} (h : KoLe K W E G κ) (hE : EnvR K G δ σ) : Kx K W σ G (fun C fs I' => κ.ex C fs δ I') := fun C dd fs l G' H' I' s1 s2 h1 r hd p => h.ex C dd fs l δ σ G' H' I' s1 s2 h1 (hE.mono s1) r hd p
end
def SX (X : Cx) (W : WX) (sts : List Stmt) (δ : DEnv) (I : Iv X.K) (κ : Ko X.K) : Prop := ∀ (σ : L2.St) (G H : Hp) (E : Ends), EnvR X.K G δ σ → Same G H → Hd I G H → KoLe X.K W E G κ → wpB X sts E σ H
def S1 (X : Cx) (W : WX) (st : Stmt) (δ : DEnv) (I : Iv X.K) (κ : Ko X.K) : Prop := ∀ (σ : L2.St) (G H : Hp) (E : Ends), EnvR X.K G δ σ → Same G H → Hd I G H → KoLe X.K W E G κ → wpS X st E σ H
abbrev Ko.r {K : PySem.W.Frag} (κ : Ko K) (δ : DEnv) : Rx K := fun C fs I' => κ.ex C fs δ I'
structure wpG (X : Cx) (tg : Expr) (v : V) (σ : L2.St) (H : Hp) (Q : L2.St → Hp → Prop) : Prop where
  run : ∀ (pins : List (Addr × Obj)) (s : Shared) (u : Value), Inv X pins σ H s → RelV v u → wpAny (model X.prog X.w) X.A (assign tg X.env u) (fun _ s' => ∃ σ' H', Inv X pins σ' H' s' ∧ Q σ' H') X.xe s
def BindD (X : Cx) (tg : Expr) (d : D) (δ δ' : DEnv) (vs : List Nat) : Prop := ∀ (v : V) (σ : L2.St) (G H : Hp) (Q : L2.St → Hp → Prop), EnvR X.K G δ σ → Same G H → Rep X.K G d v → (∀ σ', EnvR X.K G δ' σ' → wipe σ' vs = wipe σ vs → Q σ' H) → wpG X tg v σ H Q
structure wpI (X : Cx) (tg iter : Expr) (σ : L2.St) (H : Hp) (RR : It → Hp → Prop) : Prop where
  run : ∀ (pins : List (Addr × Obj)) (s : Shared), Inv X pins σ H s → wpAny (model X.prog X.w) X.A (eval iter X.env) (fun v s1 => wpAny (model X.prog X.w) X.A (pyIter v) (PIE X pins σ tg RR) X.xe s1) X.xe s
structure WalkD (K : PySem.W.Frag) (J : It) (ds : List D) (G : Hp) : Prop where
  go : ∀ i G' H', Same G G' → Same G' H' → i < ds.length → J.go i H'
  stop : ∀ G' H', Same G G' → Same G' H' → J.stop ds.length H'
  yld : ∀ i G' H' (I : Iv K) x H'', Same G G' → Same G' H' → Hd I G' H' → i < ds.length → J.yld i H' x H'' → ∃ G'', Same G' G'' ∧ Same G'' H'' ∧ Hd I G'' H'' ∧ (∀ a o, H' a = some o → H'' a = some o) ∧ ∃ d, ds[i]? = some d ∧ Rep K G'' d x
theorem WalkD.mono {K : PySem.W.Frag} {J : It} {ds : List D} {G G1 : Hp} (h : WalkD K J ds G) (s : Same G G1) : WalkD K J ds G1 :=
  ⟨fun i G' H' s1 => h.go i G' H' (s.trans s1), fun G' H' s1 => h.stop G' H' (s.trans s1), fun i G' H' I x H'' s1 => h.yld i G' H' I x H'' (s.trans s1)⟩
def EvI (X : Cx) (W : WX) (R : Rx X.K) (tg iter : Expr) (δ : DEnv) (I : Iv X.K) (P : List D → Iv X.K → Prop) : Prop := ∀ (σ : L2.St) (G H : Hp) (RR : It → Hp → Prop), EnvR X.K G δ σ → Same G H → Hd I G H → Kx X.K W σ G R →
  (∀ (J : It) (ds : List D) (G' H' : Hp) (I' : Iv X.K), Same G G' → Same G' H' → Hd I' G' H' → WalkD X.K J ds G' → P ds I' → RR J H') → wpI X tg iter σ H RR
def PVI (X : Cx) (I : Iv X.K) (tg iter : Expr) (δ : DEnv) (ds : List D) : Prop := ∀ (W : WX) (R : Rx X.K) (P : List D → Iv X.K → Prop), P ds I → EvI X W R tg iter δ I P
section
variable {X : Cx} {tg iter : Expr} {wi : TI} {g : TG}
theorem piC : PI X tg iter (wpI X tg iter) := ⟨fun pins s σ H R I h => h.run pins s I⟩
theorem PI.wp (h : PI X tg iter wi) {σ : L2.St} {H : Hp} {RR : It → Hp → Prop} (q : wi σ H RR) : wpI X tg iter σ H RR := ⟨fun pins s I => h.run pins s σ H RR I q⟩
theorem pgC : PG X tg (wpG X tg) := ⟨fun pins s σ H v u Q I r h => h.run pins s u I r⟩
theorem PG.wp (h : PG X tg g) {v : V} {σ : L2.St} {H : Hp} {Q : L2.St → Hp → Prop} (q : g v σ H Q) : wpG X tg v σ H Q := ⟨fun pins s u I r => h.run pins s σ H v u Q I r q⟩
end
def wipeD (δ : DEnv) : List Nat → DEnv
  | [] => δ
  | v :: vs => (wipeD δ vs).set v none
theorem EnvR.wipe {K : PySem.W.Frag} {G : Hp} {δ : DEnv} {σ : L2.St} (h : EnvR K G δ σ) : ∀ vs, EnvR K G (wipeD δ vs) (L2.wipe σ vs)
  | [] => h
  | _ :: vs => (EnvR.wipe h vs).drop none
theorem wipe_get (σ : L2.St) (j : Nat) : ∀ vs : List Nat, (L2.wipe σ vs)[j]? = if j ∈ vs then (if j < σ.length then some none else none) else σ[j]?
  | [] => by simp [L2.wipe]
  | v :: vs => by
    unfold L2.wipe
    by_cases h : v = j
    · subst h
      rw [List.getElem?_set, wipe_length]
      simp
    · rw [List.getElem?_set_ne h, wipe_get σ j vs]
      have e : (j ∈ v :: vs) ↔ (j ∈ vs) := by
        simp only [List.mem_cons]
        exact ⟨fun z => z.elim (fun z => absurd z.symm h) id, .inr⟩
      by_cases q : j ∈ vs
      · rw [if_pos q, if_pos (e.mpr q)]
      · rw [if_neg q, if_neg (fun z => q (e.mp z))]
theorem wipe_set (σ : L2.St) {i : Nat} {x : Option V} {vs : List Nat} (h : i ∈ vs) : L2.wipe (σ.set i x) vs = L2.wipe σ vs := by
  apply List.ext_getElem?
  intro j
  rw [wipe_get, wipe_get]
  by_cases q : j ∈ vs
  · simp [q]
  · rw [if_neg q, if_neg q, List.getElem?_set_ne]
    intro e
    exact q (e ▸ h)
theorem wipe_wipe (σ : L2.St) (vs : List Nat) : L2.wipe (L2.wipe σ vs) vs = L2.wipe σ vs := by
  apply List.ext_getElem?
  intro j
  rw [wipe_get]
  by_cases q : j ∈ vs
  · rw [if_pos q, wipe_get, if_pos q, wipe_length]
  · rw [if_neg q]

section
variable {X : Cx} {W : WX} {a b c e : Expr} {es : List Expr} {st : Stmt} {sts rest : List Stmt} {δ : DEnv} {I : Iv X.K} {κ : Ko X.K} {pos p : Pos} {d x y z : D} {x' : Str} {i : Nat}
theorem s_nil (h : κ.nx δ I) : SX X W [] δ I κ := fun σ G H E hE s hI k => PSs.wp pss_nil (k.nx δ σ G H I (Same.refl G) s hI hE h)
theorem s_cons (h : S1 X W st δ I { κ with nx := fun δ' I' => SX X W rest δ' I' κ }) : SX X W (st :: rest) δ I κ := fun σ G H E hE s hI k =>
  PSs.wp (pss_cons psC pssC) (h σ G H _ hE s hI ⟨fun δ' σ' G' H' I' s1 t1 h1 r p => p σ' G' H' E r t1 h1 (k.mono s1), k.rt, k.bk, k.ct, k.ex⟩)
theorem s_one (h : S1 X W st δ I κ) : SX X W [st] δ I κ := fun σ G H E hE s hI k => PSs.wp (pss_one psC) (h σ G H E hE s hI k)
theorem S1.imp {κ' : Ko X.K} (h : S1 X W st δ I κ') (n : ∀ δ I, κ'.nx δ I → κ.nx δ I) (r : ∀ d I, κ'.rt d I → κ.rt d I) (b : ∀ δ I, κ'.bk δ I → κ.bk δ I) (c : ∀ δ I, κ'.ct δ I → κ.ct δ I) (x : ∀ C fs δ I, κ'.ex C fs δ I → κ.ex C fs δ I) : S1 X W st δ I κ := fun σ G H E hE s hI k =>
  h σ G H E hE s hI ⟨fun δ' σ' G' H' I' s1 t1 h1 r p => k.nx δ' σ' G' H' I' s1 t1 h1 r (n _ _ p), fun v d G' H' I' s1 t1 h1 r1 p => k.rt v d G' H' I' s1 t1 h1 r1 (r _ _ p), fun δ' σ' G' H' I' s1 t1 h1 r p => k.bk δ' σ' G' H' I' s1 t1 h1 r (b _ _ p), fun δ' σ' G' H' I' s1 t1 h1 r p => k.ct δ' σ' G' H' I' s1 t1 h1 r (c _ _ p),
    fun C dd fs l δ' σ' G' H' I' s1 t1 h1 r q hd p => k.ex C dd fs l δ' σ' G' H' I' s1 t1 h1 r q hd (x _ _ _ _ p)⟩
theorem SX.imp {κ' : Ko X.K} (h : SX X W sts δ I κ') (n : ∀ δ I, κ'.nx δ I → κ.nx δ I) (r : ∀ d I, κ'.rt d I → κ.rt d I) (b : ∀ δ I, κ'.bk δ I → κ.bk δ I) (c : ∀ δ I, κ'.ct δ I → κ.ct δ I) (x : ∀ C fs δ I, κ'.ex C fs δ I → κ.ex C fs δ I) : SX X W sts δ I κ := fun σ G H E hE s hI k =>
  h σ G H E hE s hI ⟨fun δ' σ' G' H' I' s1 t1 h1 r p => k.nx δ' σ' G' H' I' s1 t1 h1 r (n _ _ p), fun v d G' H' I' s1 t1 h1 r1 p => k.rt v d G' H' I' s1 t1 h1 r1 (r _ _ p), fun δ' σ' G' H' I' s1 t1 h1 r p => k.bk δ' σ' G' H' I' s1 t1 h1 r (b _ _ p), fun δ' σ' G' H' I' s1 t1 h1 r p => k.ct δ' σ' G' H' I' s1 t1 h1 r (c _ _ p),
    fun C dd fs l δ' σ' G' H' I' s1 t1 h1 r q hd p => k.ex C dd fs l δ' σ' G' H' I' s1 t1 h1 r q hd (x _ _ _ _ p)⟩
theorem s_set (i : Nat) (h : EvX X W (κ.r δ) e δ I fun d I1 => κ.nx (δ.set i (some d)) I1) {pos' : Pos} (hN : X.N.Nodup := by assumption) (hi : X.N[i]? = some x' := by rfl) (hx : Loc X.env.scope x' := by first | exact Or.inl rfl | exact Or.inr rfl) (hs : swapsWith e (some (.Name x' pos')) pos.line X.env = pure false := by rfl)
    (hf : X.fn x' = true ∨ X.env.scope.names.lookup x' = some .local := by first | exact .inl rfl | exact .inr rfl) : S1 X W (.Assign [.Name x' pos'] e pos) δ I κ := fun σ G H E hE s hI k =>
  PS.wp (ps_set hN hi hx peC hs hf) (h σ G H _ hE s hI (k.kx hE) fun v d G1 H1 I1 s1 t1 h1 r1 p => k.nx _ _ G1 H1 I1 s1 t1 h1 ((hE.mono s1).set r1) p)
theorem s_setP (i : Nat) (h : PV X I e δ d) (q : κ.nx (δ.set i (some d)) I) {pos' : Pos} (hN : X.N.Nodup := by assumption) (hi : X.N[i]? = some x' := by rfl) (hx : Loc X.env.scope x' := by first | exact Or.inl rfl | exact Or.inr rfl) (hs : swapsWith e (some (.Name x' pos')) pos.line X.env = pure false := by rfl)
    (hf : X.fn x' = true ∨ X.env.scope.names.lookup x' = some .local := by first | exact .inl rfl | exact .inr rfl) : S1 X W (.Assign [.Name x' pos'] e pos) δ I κ := s_set i (h W _ _ q) hN hi hx hs hf
theorem s_ret (h : EvX X W (κ.r δ) e δ I κ.rt) : S1 X W (.Return (some e) pos) δ I κ := fun σ G H E hE s hI k => PS.wp (ps_ret peC) (h σ G H _ hE s hI (k.kx hE) k.rt)
theorem s_retP (h : PV X I e δ d) (q : κ.rt d I) : S1 X W (.Return (some e) pos) δ I κ := s_ret (h W _ _ q)
theorem s_if (h : EvT X W (κ.r δ) c δ I fun b I1 => if b = true then SX X W sts δ I1 κ else SX X W rest δ I1 κ) : S1 X W (.If c sts rest pos) δ I κ := fun σ G H E hE s hI k =>
  PS.wp (ps_if ptC pssC pssC) (h σ G H _ hE s hI (k.kx hE) fun b G1 H1 I1 s1 t1 h1 p => by
    cases b with
    | true => exact (show SX X W sts δ I1 κ from p) σ G1 H1 E (hE.mono s1) t1 h1 (k.mono s1)
    | false => exact (show SX X W rest δ I1 κ from p) σ G1 H1 E (hE.mono s1) t1 h1 (k.mono s1))
theorem s_ifP {b : Bool} (h : PVT X I c δ b) (h1 : b = true → SX X W sts δ I κ) (h2 : b = false → SX X W rest δ I κ) : S1 X W (.If c sts rest pos) δ I κ := s_if (h W _ _ (by
  cases b with
  | true => exact h1 rfl
  | false => exact h2 rfl))
theorem s_expr (h : EvX X W (κ.r δ) e δ I fun _ I1 => κ.nx δ I1) (hs : swapsWith e none pos.line X.env = pure false := by rfl) : S1 X W (.Expr e pos) δ I κ := fun σ G H E hE s hI k =>
  PS.wp (ps_expr peC hs) (h σ G H _ hE s hI (k.kx hE) fun v d G1 H1 I1 s1 t1 h1 r1 p => k.nx _ _ G1 H1 I1 s1 t1 h1 (hE.mono s1) p)
theorem s_continue (h : κ.ct δ I) : S1 X W (.Continue pos) δ I κ := fun σ G H E hE s hI k => PS.wp ps_continue (k.ct δ σ G H I (Same.refl G) s hI hE h)
theorem bind_name (i : Nat) {vs : List Nat} {pos' : Pos} (hv : i ∈ vs := by decide) (hN : X.N.Nodup := by assumption) (hi : X.N[i]? = some x' := by rfl) (hx : Loc X.env.scope x' := by first | exact Or.inl rfl | exact Or.inr rfl) (hf : X.fn x' = true ∨ X.env.scope.names.lookup x' = some .local := by first | exact .inl rfl | exact .inr rfl) :
    BindD X (.Name x' pos') d δ (δ.set i (some d)) vs := fun v σ G H Q hE s r q => PG.wp (pg_name hN hi hx hf) (q _ (hE.set r) (wipe_set σ hv))
theorem s_for {iter tg : Expr} {body : List Stmt} (po : PassesOwn (model X.prog X.w) X.A X.env X.xe) (h : EvI X W (κ.r δ) tg iter δ I fun ds I1 => ∃ Nv : Nat → DEnv → Iv X.K → Prop, Nv 0 δ I1 ∧
      (∀ i d δ' I', ds[i]? = some d → Nv i δ' I' → ∃ δ'' vs, BindD X tg d δ' δ'' vs ∧ SX X W body δ'' I' { κ with nx := Nv (i + 1), ct := Nv (i + 1), bk := κ.nx }) ∧ ∀ δ' I', Nv ds.length δ' I' → κ.nx δ' I')
    (hc : X.calm = true := by rfl) (hs : ∀ x, foldedSetIterable iter X.env x = pure x := by intro _; rfl) : S1 X W (.For tg iter body [] pos) δ I κ := fun σ G H E hE s hI k =>
  PS.wp (ps_for po hc piC pgC pssC hs) (h σ G H _ hE s hI (k.kx hE) fun J ds G1 H1 I1 s1 t1 h1 wk ⟨Nv, i0, step, fin⟩ => by
    refine ⟨fun i m σ' H' => m = ds.length - i ∧ i ≤ ds.length ∧ ∃ δ' G' I', Same G1 G' ∧ Same G' H' ∧ Hd I' G' H' ∧ EnvR X.K G' δ' σ' ∧ Nv i δ' I', ⟨_, rfl, Nat.zero_le _, δ, G1, I1, Same.refl G1, t1, h1, hE.mono s1, i0⟩, ?_⟩
    rintro i m σ' H' ⟨rfl, hi, δ', G', I', s2, t2, h2, e2, iv⟩
    by_cases hlt : i < ds.length
    · refine .inr ⟨wk.go i G' H' s2 t2 hlt, fun σ3 H3 => ∃ δ3 G3 I3, Same G1 G3 ∧ Same G3 H3 ∧ Hd I3 G3 H3 ∧ EnvR X.K G3 δ3 σ3 ∧ Nv (i + 1) δ3 I3, fun σ3 H3 ⟨δ3, G3, I3, q1, q2, q3, q4, q5⟩ => ⟨ds.length - (i + 1), by omega, rfl, hlt, δ3, G3, I3, q1, q2, q3, q4, q5⟩, fun x H3 hy => ?_⟩
      obtain ⟨G3, s3, t3, h3, _, d, hd, rd⟩ := wk.yld i G' H' I' x H3 s2 t2 h2 hlt hy
      obtain ⟨δ'', vs, bd, bs⟩ := step i d δ' I' hd iv
      refine bd x σ' G3 H3 _ (e2.mono s3) t3 rd fun σ4 e4 _ => ?_
      have s13 : Same G1 G3 := s2.trans s3
      exact bs σ4 G3 H3 _ e4 t3 h3 ⟨fun δ5 σ5 G5 H5 I5 s5 t5 h5 r5 p5 => ⟨δ5, G5, I5, s13.trans s5, t5, h5, r5, p5⟩, k.rt.mono (s1.trans s13), k.nx.mono (s1.trans s13), fun δ5 σ5 G5 H5 I5 s5 t5 h5 r5 p5 => ⟨δ5, G5, I5, s13.trans s5, t5, h5, r5, p5⟩, k.ex.mono (s1.trans s13)⟩
    · have ei : i = ds.length := by omega
      subst ei
      exact .inl ⟨wk.stop G' H' s2 t2, k.nx δ' σ' G' H' I' (s1.trans s2) t2 h2 e2 (fin δ' I' iv)⟩)
theorem s_while {body : List Stmt} (po : PassesOwn (model X.prog X.w) X.A X.env X.xe) (Nv : Nat → DEnv → Iv X.K → Prop) (m : Nat) (i0 : Nv m δ I)
    (step : ∀ m δ' I', Nv m δ' I' → EvT X W (κ.r δ') c δ' I' fun b I1 => if b = true then SX X W body δ' I1 { κ with nx := fun δ'' I'' => ∃ m', m' < m ∧ Nv m' δ'' I'', ct := fun δ'' I'' => ∃ m', m' < m ∧ Nv m' δ'' I'', bk := κ.nx } else κ.nx δ' I1) : S1 X W (.While c body [] pos) δ I κ := fun σ G H E hE s hI k =>
  PS.wp (ps_while po ptC pssC) (by
    refine ⟨fun m σ' H' => ∃ δ' G' I', Same G G' ∧ Same G' H' ∧ Hd I' G' H' ∧ EnvR X.K G' δ' σ' ∧ Nv m δ' I', ⟨m, δ, G, I, Same.refl G, s, hI, hE, i0⟩, ?_⟩
    rintro m σ' H' ⟨δ', G', I', s2, t2, h2, e2, iv⟩
    refine step m δ' I' iv σ' G' H' _ e2 t2 h2 ((k.mono s2).kx e2) fun b G3 H3 I3 s3 t3 h3 p => ?_
    cases b with
    | true =>
      have s13 := s2.trans s3
      refine ⟨fun σ5 H5 => ∃ m', m' < m ∧ ∃ δ5 G5 I5, Same G G5 ∧ Same G5 H5 ∧ Hd I5 G5 H5 ∧ EnvR X.K G5 δ5 σ5 ∧ Nv m' δ5 I5, fun σ5 H5 q => q, ?_⟩
      exact (show SX X W body δ' I3 _ from p) σ' G3 H3 _ (e2.mono s3) t3 h3 ⟨fun δ5 σ5 G5 H5 I5 s5 t5 h5 r5 ⟨m', hm, p5⟩ => ⟨m', hm, δ5, G5, I5, s13.trans s5, t5, h5, r5, p5⟩, k.rt.mono s13, k.nx.mono s13, fun δ5 σ5 G5 H5 I5 s5 t5 h5 r5 ⟨m', hm, p5⟩ => ⟨m', hm, δ5, G5, I5, s13.trans s5, t5, h5, r5, p5⟩, k.ex.mono s13⟩
    | false => exact k.nx δ' σ' G3 H3 I3 (s2.trans s3) t3 h3 (e2.mono s3) p)
end
end DL
set_option Elab.async false
set_option linter.all false
set_option maxRecDepth 100000
set_option maxHeartbeats 4000000
namespace DL
open PySem PySem.Spec PyProof.Rows L2

abbrev Spec (K : PySem.W.Frag) := Iv K → List D → (D → Iv K → Prop) → Rx K → Prop
def spD (K : PySem.W.Frag) (S : Spec K) : Sp := fun vs H Q E => ∃ (I : Iv K) (G : Hp) (ds : List D) (P : D → Iv K → Prop) (R : Rx K), Same G H ∧ Hd I G H ∧ Reps K G ds vs ∧ S I ds P R ∧ Kv K Q G P ∧
  ∀ (C dd : Addr) (fs : List (Str × D)) (l : List (Str × V)) (G' H' : Hp) (I' : Iv K), Same G G' → Same G' H' → Hd I' G' H' → FRep K G' fs l → G' dd = some (.xd l) → R C fs I' → E (.ref C) (some dd) H'
section
variable {P : Program} {w : World} {K : PySem.W.Frag} {mg : Str → Option Value} {base : Heap} {x qual : Str} {params : Arguments} {body : List Stmt} {scope : Scope} {dvs : List V} {kws : List (Str × V)} {f : Addr} {fd : FuncData}
theorem fn_d {N ps : List Str} {k : Nat} {S : Spec K} (F : FunD K x qual params body scope dvs kws f fd) (sc : FnScope N ps scope) (len : ∀ I ds P R, S I ds P R → ds.length = ps.length)
    (h : ∀ (cdv : Value) (A : Around) (outer : List Env) (s : Shared) (H : Hp) (E : XK), Room k (A.deeper (envOfC qual scope s.heap.objs.size f cdv)) →
      Takes (cxOf (L2.CX P w) P w K mg base N qual scope f cdv A outer s H E) (fun cls d _ H => E cls d H) →
      PassesOwn (model P w) (A.deeper (envOfC qual scope s.heap.objs.size f cdv)) (envOfC qual scope s.heap.objs.size f cdv) (cxOf (L2.CX P w) P w K mg base N qual scope f cdv A outer s H E).xe →
      ∀ (I : Iv K) (ds : List D) (Q : D → Iv K → Prop) (R : Rx K), S I ds Q R →
      SX (cxOf (L2.CX P w) P w K mg base N qual scope f cdv A outer s H E) (fun cls d _ H => E cls d H) body (dstart N ds) I { nx := fun _ I' => Q .non I', rt := Q, ex := fun C fs _ I' => R C fs I' }) :
    FnOk P w K mg base (L2.CX P w) (k + 1) f fd ps (spD K S) := by
  refine F.ok sc (fun vs H Q E h => ?_) (fun cdv A outer s H vs Q E hr hq => ?_)
  · obtain ⟨I, G, ds, P', R, _, _, r, hS, _, _⟩ := h
    rw [r.length]
    exact len _ _ _ _ hS
  · obtain ⟨I, G, ds, P', R, sm, hI, r, hS, kv, ke⟩ := hq
    refine ⟨_, pssC, h cdv A outer s H E hr (takes_of rfl rfl rfl rfl) (passes_of rfl) I ds P' R hS _ G H _ (EnvR.start r) sm hI ?_⟩
    exact ⟨fun δ σ G' H' I' s1 s2 h1 _ p => kv .non .non G' H' I' s1 s2 h1 rfl p, kv, fun _ _ _ _ _ _ _ _ _ p => p.elim, fun _ _ _ _ _ _ _ _ _ p => p.elim,
      fun C dd fs l δ σ G' H' I' s1 s2 h1 _ r2 hd p => ke C dd fs l G' H' I' s1 s2 h1 r2 hd p⟩
end
section
variable {X : Cx} {W : WX} {R : Rx X.K} {e : Expr} {es : List Expr} {δ : DEnv} {I : Iv X.K} {P : D → Iv X.K → Prop} {pos p : Pos} {x : Str} {f : Addr} {fd : FuncData} {ps : List Str} {k : Nat} {S : Spec X.K} {dvs : List V} {dds : List D} {us : List Value} {d : D}
theorem ev_callD (tk : Takes X W) (F : FnOk X.prog X.w X.K X.mg X.base (L2.CX X.prog X.w) k f fd ps (spD X.K S)) (hr : Room k X.A) (hm : X.mg x = some (.ref f)) (hk : PySem.W.keepIn X.K (.ref f) = true) (hb : Binds X.K fd ps us) (hd : Vals dvs us) (hdd : ∀ G, Reps X.K G dds dvs)
    (h : EvA X W R (e :: es) δ I fun ds I1 => S I1 (ds ++ dds) P R) (hg : Gl X x := by rfl) (hdb : (x == ("__debug__" : Str)) = false := by decide)
    (he : starEach (e :: es) X.env = (false, eval e X.env) :: starEach es X.env := by rfl) (hpl : (backTo pos (starEach es X.env)).any (·.1) = false := by rfl) : EvX X W R (.Call (.Name x p) (e :: es) [] pos) δ I P := fun σ G H Q hE s hI qx q =>
  PE.wp (pe_callSD F hr hg hm hk hb hd (fun σ => passAt tk σ) paC hdb he hpl) (h σ G H _ hE s hI qx fun vs ds G1 H1 I1 s1 t1 h1 r1 k1 =>
    ⟨I1, G1, ds ++ dds, P, R, t1, h1, r1.append (hdd G1), k1, q.mono s1, fun C dd fs l G' H' I' s2 t2 h2 r2 hx p => qx C dd fs l G' H' I' (s1.trans s2) t2 h2 r2 hx p⟩)
end
theorem takesF {X : Cx} : Takes X (fun _ _ _ _ => False) := takes0
section
variable {X : Cx} {I : Iv X.K} {e : Expr} {es : List Expr} {δ : DEnv} {pos p : Pos} {x : Str} {f : Addr} {fd : FuncData} {ps : List Str} {k : Nat} {S : Spec X.K} {dvs : List V} {ds dds : List D} {us : List Value} {d : D}
theorem EvX.weak {W : WX} {R : Rx X.K} {P : D → Iv X.K → Prop} (h : EvX X (fun _ _ _ _ => False) (fun _ _ _ => False) e δ I P) : EvX X W R e δ I P := fun σ G H Q hE s hI qx q => h σ G H Q hE s hI (fun _ _ _ _ _ _ _ _ _ _ _ _ z => z.elim) q
theorem pv_callD (F : FnOk X.prog X.w X.K X.mg X.base (L2.CX X.prog X.w) k f fd ps (spD X.K S)) (hr : Room k X.A) (hm : X.mg x = some (.ref f)) (hk : PySem.W.keepIn X.K (.ref f) = true) (hb : Binds X.K fd ps us) (hd : Vals dvs us) (hdd : ∀ G, Reps X.K G dds dvs)
    (ha : PVA X I (e :: es) δ ds) (hS : ∀ (P : D → Iv X.K → Prop), P d I → S I (ds ++ dds) P (fun _ _ _ => False)) (hg : Gl X x := by rfl) (hdb : (x == ("__debug__" : Str)) = false := by decide)
    (he : starEach (e :: es) X.env = (false, eval e X.env) :: starEach es X.env := by rfl) (hpl : (backTo pos (starEach es X.env)).any (·.1) = false := by rfl) : PV X I (.Call (.Name x p) (e :: es) [] pos) δ d := fun W R P q =>
  EvX.weak (ev_callD takesF F hr hm hk hb hd hdd (ha _ _ _ (hS P q)) hg hdb he hpl)
end

section
variable {K : PySem.W.Frag} {I : Iv K} {x y z d : D} {i j : Int}
theorem p2_I0 {g : Int → Int → V} {z : D} (h : ∀ G, Rep K G z (g i j)) : P2 K I (rI0 g) (.int i) (.int j) z := fun P p G H v w Q s hI r1 r2 q => ⟨i, j, r1, r2, q _ z G H I (Same.refl G) s hI (h G) p⟩
theorem p2_I {C : Int → Int → Prop} {g : Int → Int → V} {z : D} (h : ∀ G, Rep K G z (g i j)) (c : C i j) : P2 K I (rI C g) (.int i) (.int j) z := fun P p G H v w Q s hI r1 r2 q => ⟨i, j, r1, r2, c, q _ z G H I (Same.refl G) s hI (h G) p⟩
theorem p2_add : P2 K I (rI0 fun i j => .int (i + j)) (.int i) (.int j) (.int (i + j)) := p2_I0 fun _ => rfl
theorem p2_sub : P2 K I (rI0 fun i j => .int (i - j)) (.int i) (.int j) (.int (i - j)) := p2_I0 fun _ => rfl
theorem p2_mul (h : CMul i j) : P2 K I (rI CMul fun i j => .int (i * j)) (.int i) (.int j) (.int (i * j)) := p2_I (fun _ => rfl) h
theorem p2_fdiv (h : CDivN i j) : P2 K I (rI CDivN fun i j => .int (i.fdiv j)) (.int i) (.int j) (.int (i.fdiv j)) := p2_I (fun _ => rfl) h
theorem p2_mod (h : j ≠ 0) : P2 K I (rI (fun _ j => j ≠ 0) fun i j => .int (i.fmod j)) (.int i) (.int j) (.int (i.fmod j)) := p2_I (fun _ => rfl) h
theorem p2_pow (h : CPow i j) : P2 K I (rI CPow fun i j => .int (i ^ j.toNat)) (.int i) (.int j) (.int (i ^ j.toNat)) := p2_I (fun _ => rfl) h
theorem p2_lt : P2 K I (rI0 fun i j => .bl (decide (i < j))) (.int i) (.int j) (.bl (decide (i < j))) := p2_I0 fun _ => rfl
theorem p2_le : P2 K I (rI0 fun i j => .bl (decide (i ≤ j))) (.int i) (.int j) (.bl (decide (i ≤ j))) := p2_I0 fun _ => rfl
theorem p2_gt : P2 K I (rI0 fun i j => .bl (decide (j < i))) (.int i) (.int j) (.bl (decide (j < i))) := p2_I0 fun _ => rfl
theorem p2_ge : P2 K I (rI0 fun i j => .bl (decide (j ≤ i))) (.int i) (.int j) (.bl (decide (j ≤ i))) := p2_I0 fun _ => rfl
def flatD : D → Option V
  | .non => some .non
  | .bl b => some (.bl b)
  | .int i => some (.int i)
  | .str s => some (.str s)
  | .ty n => some (.ty n)
  | _ => none
theorem Rep.flat {G : Hp} {v u : V} : ∀ {d : D}, Rep K G d v → flatD d = some u → v = u
  | .non, r, h => by cases h; exact r
  | .bl _, r, h => by cases h; exact r
  | .int _, r, h => by cases h; exact r
  | .str _, r, h => by cases h; exact r
  | .ty _, r, h => by cases h; exact r
  | .adr _, _, h => by cases h
  | .tup _, _, h => by cases h
  | .lst _, _, h => by cases h
  | .lsf _, _, h => by cases h
  | .tub _, _, h => by cases h
  | .slo _ _, _, h => by cases h
  | .exc _ _ _ _ _, _, h => by cases h
  | .dic _ _, _, h => by cases h
theorem p2_eq {v u : V} {b : Bool} (hx : flatD x = some v) (hy : flatD y = some u) (hs : scal v u = true) (hb : decide (v = u) = b) : P2 K I rEq x y (.bl b) := fun P p G H v' w Q s hI r1 r2 q => by
  rw [r1.flat hx, r2.flat hy]
  exact ⟨hs, by rw [hb]; exact q _ (.bl b) G H I (Same.refl G) s hI rfl p⟩
theorem p2_ne {v u : V} {b : Bool} (hx : flatD x = some v) (hy : flatD y = some u) (hs : scal v u = true) (hb : (!decide (v = u)) = b) : P2 K I rNe x y (.bl b) := fun P p G H v' w Q s hI r1 r2 q => by
  rw [r1.flat hx, r2.flat hy]
  exact ⟨hs, by rw [hb]; exact q _ (.bl b) G H I (Same.refl G) s hI rfl p⟩
theorem eqV_str (s t : Str) : P2 K I rEq (.str s) (.str t) (.bl (decide (s = t))) := p2_eq rfl rfl rfl (by simp)
theorem neV_str (s t : Str) : P2 K I rNe (.str s) (.str t) (.bl (!decide (s = t))) := p2_ne rfl rfl rfl (by simp)
theorem eqV_int (s t : Int) : P2 K I rEq (.int s) (.int t) (.bl (decide (s = t))) := p2_eq rfl rfl rfl (by simp)
theorem atI_rep {G : Hp} {ds : List D} {vs : List V} (r : Reps K G ds vs) (h : atI ds i = some d) : ∃ v, atI vs i = some v ∧ Rep K G d v := by
  unfold atI at h ⊢
  rw [r.length]
  cases e : ixN ds.length i with
  | none => rw [e] at h; cases h
  | some j =>
    rw [e] at h
    exact r.get (show ds[j]? = some d from h)
theorem p2_ixL {ds : List D} (h : atI ds i = some d) : P2 K I (rIxL K) (.lst ds) (.int i) d := fun P p G H v w Q s hI ⟨a, vs, e1, e2, e3⟩ r2 q => by
  obtain ⟨u, h1, h2⟩ := atI_rep e3 h
  exact ⟨a, vs, i, u, e1, r2, SqL.of (s _ _ e2), h1, q u d G H I (Same.refl G) s hI h2 p⟩
theorem p2_ixT {ds : List D} (h : atI ds i = some d) : P2 K I (rIxT K) (.tup ds) (.int i) d := fun P p G H v w Q s hI ⟨a, vs, e1, e2, e3⟩ r2 q => by
  obtain ⟨u, h1, h2⟩ := atI_rep e3 h
  exact ⟨a, vs, i, u, e1, r2, sqT_mono s e2, h1, q u d G H I (Same.refl G) s hI h2 p⟩
theorem p2_ixS {z : Str} {c : Nat} (hl : z.length ≤ sizeLine) (h : atI z.cps.toList i = some c) : P2 K I rIxS (.str z) (.int i) (.str ⟨#[c]⟩) := fun P p G H v w Q s hI r1 r2 q =>
  ⟨z, i, c, r1, r2, hl, h, q _ (.str ⟨#[c]⟩) G H I (Same.refl G) s hI rfl p⟩
def flatDs : List D → Option (List V)
  | [] => some []
  | d :: ds => match flatD d, flatDs ds with
    | some v, some vs => some (v :: vs)
    | _, _ => none
theorem Reps.flat {G : Hp} : ∀ {ds : List D} {vs us : List V}, Reps K G ds vs → flatDs ds = some us → vs = us
  | [], vs, us, r, h => by
    have e : ([] : List V) = us := Option.some.inj h
    rw [← e]
    exact r
  | d :: ds, vs, us, ⟨v, r, e1, e2, e3⟩, h => by
    unfold flatDs at h
    cases h1 : flatD d with
    | none => rw [h1] at h; cases h
    | some u =>
      cases h2 : flatDs ds with
      | none => rw [h1, h2] at h; cases h
      | some us' =>
        rw [h1, h2] at h
        have e := Option.some.inj h
        rw [← e, e1, e2.flat h1, Reps.flat e3 h2]
theorem p2_in {ds : List D} {v : V} {us : List V} {neg b : Bool} (hx : flatD x = some v) (hy : flatDs ds = some us) (h1 : flatV v = true) (h2 : us.all flatV = true) (hb : (if neg then !inV v us else inV v us) = b) (hc : y = .lst ds ∨ y = .tup ds) : P2 K I (rIn K neg) x y (.bl b) := fun P p G H v' w Q s hI r1 r2 q => by
  have e1 := r1.flat hx
  subst e1
  have r3 : ∃ a, w = .ref a ∧ (SqL K G a us ∨ SqT K G a us) := by
    rcases hc with e | e
    · subst e
      obtain ⟨a, vs, e1, e2, e3⟩ := r2
      rw [e3.flat hy] at e2
      exact ⟨a, e1, .inl (SqL.of e2)⟩
    · subst e
      obtain ⟨a, vs, e1, e2, e3⟩ := r2
      rw [e3.flat hy] at e2
      exact ⟨a, e1, .inr e2⟩
  obtain ⟨a, ea, sq⟩ := r3
  exact ⟨a, us, ea, sq.elim (fun z => .inl (sqL_mono s z)) (fun z => .inr (sqT_mono s z)), h1, h2, by rw [hb]; exact q _ (.bl b) G H I (Same.refl G) s hI rfl p⟩
theorem pn_int : PN K I (fun xs H Q => (∃ i, xs = [.int i] ∧ Q (.int i) H) ∨ ∃ k, xs = [.bl k] ∧ Q (.int (if k then 1 else 0)) H) [.int i] (.int i) := fun P p G H vs Q s hI ⟨v, r, e1, e2, e3⟩ q =>
  .inl ⟨i, by rw [e1, show v = .int i from e2, show r = [] from e3], q _ (.int i) G H I (Same.refl G) s hI rfl p⟩
theorem pn_intB {k : Bool} : PN K I (fun xs H Q => (∃ i, xs = [.int i] ∧ Q (.int i) H) ∨ ∃ k, xs = [.bl k] ∧ Q (.int (if k then 1 else 0)) H) [.bl k] (.int (if k then 1 else 0)) := fun P p G H vs Q s hI ⟨v, r, e1, e2, e3⟩ q =>
  .inr ⟨k, by rw [e1, show v = .bl k from e2, show r = [] from e3], q _ (.int (if k then 1 else 0)) G H I (Same.refl G) s hI rfl p⟩
theorem pn_max2 : PN K I (fun xs H Q => ∃ i j, xs = [.int i, .int j] ∧ Q (.int (if j > i then j else i)) H) [.int i, .int j] (.int (if j > i then j else i)) := fun P p G H vs Q s hI ⟨v, r, e1, e2, v2, r2, e3, e4, e5⟩ q =>
  ⟨i, j, by rw [e1, e3, show v = .int i from e2, show v2 = .int j from e4, show r2 = [] from e5], q _ (.int (if j > i then j else i)) G H I (Same.refl G) s hI rfl p⟩
theorem pn_lenL {ds : List D} : PN K I (fun xs H Q => ∃ p ys, xs = [.ref p] ∧ (SqL K H p ys ∨ SqT K H p ys) ∧ Q (.int ys.length) H) [.lst ds] (.int ds.length) := fun P p G H vs Q s hI ⟨v, r, e1, ⟨a, ws, e2, e3, e4⟩, e5⟩ q =>
  ⟨a, ws, by rw [e1, e2, show r = [] from e5], .inl (SqL.of (s _ _ e3)), by rw [e4.length]; exact q _ (.int ds.length) G H I (Same.refl G) s hI rfl p⟩
theorem pn_lenT {ds : List D} : PN K I (fun xs H Q => ∃ p ys, xs = [.ref p] ∧ (SqL K H p ys ∨ SqT K H p ys) ∧ Q (.int ys.length) H) [.tup ds] (.int ds.length) := fun P p G H vs Q s hI ⟨v, r, e1, ⟨a, ws, e2, e3, e4⟩, e5⟩ q =>
  ⟨a, ws, by rw [e1, e2, show r = [] from e5], .inr (sqT_mono s e3), by rw [e4.length]; exact q _ (.int ds.length) G H I (Same.refl G) s hI rfl p⟩
theorem pn_all {bs : List Bool} : PN K I (rAll K) [.lst (bs.map D.bl)] (.bl (bs.all id)) := fun P p G H vs Q s hI ⟨v, r, e1, ⟨a, ws, e2, e3, e4⟩, e5⟩ q => by
  have e6 : ∀ {bs : List Bool} {ws : List V}, Reps K G (bs.map D.bl) ws → ws = bs.map V.bl := by
    intro bs
    induction bs with
    | nil => intro ws h; exact h
    | cons b bs ih =>
      intro ws ⟨v, r, h1, h2, h3⟩
      rw [h1, show v = .bl b from h2, ih h3]
      rfl
  refine ⟨a, bs, by rw [e1, e2, show r = [] from e5], ?_, q _ (.bl (bs.all id)) G H I (Same.refl G) s hI rfl p⟩
  rw [e6 e4] at e3
  exact SqL.of (s _ _ e3)
def tyD : D → Option String
  | .non => some "NoneType"
  | .bl _ => some "bool"
  | .int _ => some "int"
  | .str _ => some "str"
  | .tup _ => some "tuple"
  | .lst _ => some "list"
  | .lsf _ => some "list"
  | .dic _ _ => some "dict"
  | _ => none
theorem tyX_of {G H : Hp} {v : V} {t : String} (s : Same G H) : ∀ {d : D}, Rep K G d v → tyD d = some t → TyX K H v (.type t)
  | .non, r, h => by cases h; rw [show v = .non from r]; exact .base .non
  | .bl _, r, h => by cases h; rw [show v = .bl _ from r]; exact .base (.bl _)
  | .int _, r, h => by cases h; rw [show v = .int _ from r]; exact .base (.int _)
  | .str _, r, h => by cases h; rw [show v = .str _ from r]; exact .base (.str _)
  | .ty _, _, h => by cases h
  | .adr _, _, h => by cases h
  | .slo _ _, _, h => by cases h
  | .tub _, _, h => by cases h
  | .exc _ _ _ _ _, _, h => by cases h
  | .dic _ _, ⟨a, od, vs, e1, e2, _, _⟩, h => by
    cases h
    rw [e1]
    exact .fDict (s _ _ e2)
  | .tup _, ⟨a, vs, e1, e2, _⟩, h => by
    cases h
    rw [e1]
    rcases e2 with (e2 | ⟨o, e2⟩) | ⟨o, its, n, e2, e3, _⟩
    · exact .base (.tup (s _ _ e2))
    · exact .fTuple (s _ _ e2)
    · exact .kTuple e2 e3
  | .lst _, ⟨a, vs, e1, e2, _⟩, h => by
    cases h
    rw [e1]
    exact .base (.lst (s _ _ e2))
  | .lsf _, ⟨a, vs, e1, e2, _⟩, h => by
    cases h
    rw [e1]
    rcases e2 with (e2 | ⟨o, e2⟩) | ⟨o, its, n, e2, e3, _⟩
    · exact .base (.lst (s _ _ e2))
    · exact .base (.frz (s _ _ e2))
    · exact .kList e2 e3
theorem pn_isi {t u : String} {b : Bool} (h : tyD d = some t) (hb : kitB t u = some b := by decide +kernel) : PN K I (rIsi K) [d, .ty u] (.bl b) := fun P p G H vs Q s hI ⟨v, r, e1, e2, v2, r2, e3, e4, e5⟩ q =>
  ⟨v, .ty u, .type t, .type u, b, by rw [e1, e3, show v2 = .ty u from e4, show r2 = [] from e5], .ty u, tyX_of s e2 h, kit_ty hb, q _ (.bl b) G H I (Same.refl G) s hI rfl p⟩
end
end DL
set_option Elab.async false
set_option linter.all false
set_option maxRecDepth 100000
set_option maxHeartbeats 4000000
namespace DL
open PySem PySem.Spec PyProof.Rows L2

def rAddS' : R2 := fun x y H Q => ∃ i j, x = .str i ∧ y = .str j ∧ i.length + j.length ≤ sizeLine ∧ Q (.str (i ++ j)) H
theorem op_addT {X : Cx} : OpR X (binaryOp .Add) rAddS' := op_add_str
def rSignIn : R2 := fun x y H Q => ∃ (c : Nat) (z : Str), x = .str ⟨#[c]⟩ ∧ y = .str z ∧ Q (.bl (decide (c ∈ z.cps.toList))) H
theorem op_signIn {X : Cx} : OpR X (compareOp .In) rSignIn := op_in_sign
section
variable {K : PySem.W.Frag} {I : Iv K} {x y z d : D} {i j : Int}
theorem p2_addT {s t : Str} (h : s.length + t.length ≤ 100000) : P2 K I rAddS' (.str s) (.str t) (.str (s ++ t)) := fun P p G H v w Q sm hI r1 r2 q => ⟨s, t, r1, r2, by rw [sizeLine_eq]; omega, q _ (.str (s ++ t)) G H I (Same.refl G) sm hI rfl p⟩
theorem p2_signIn {c : Nat} {s : Str} : P2 K I rSignIn (.str ⟨#[c]⟩) (.str s) (.bl (decide (c ∈ s.cps.toList))) := fun P p G H v w Q sm hI r1 r2 q => ⟨c, s, r1, r2, q _ (.bl (decide (c ∈ s.cps.toList))) G H I (Same.refl G) sm hI rfl p⟩
theorem pn_lenS {s : Str} (h : s.length ≤ 100000) : PN K I (fun xs H Q => ∃ z, xs = [.str z] ∧ z.length ≤ sizeLine ∧ Q (.int z.length) H) [.str s] (.int s.length) := fun P p G H vs Q sm hI ⟨v, r, e1, e2, e5⟩ q =>
  ⟨s, by rw [e1, show v = .str s from e2, show r = [] from e5], by rw [sizeLine_eq]; omega, q _ (.int s.length) G H I (Same.refl G) sm hI rfl p⟩
end
section
variable {X : Cx} {W : WX} {R : Rx X.K} {a b e o tg iter : Expr} {es : List Expr} {δ : DEnv} {I : Iv X.K} {P : D → Iv X.K → Prop} {pos p apos : Pos} {x : Str} {d z : D}
theorem repsStr {K : PySem.W.Frag} {G : Hp} : ∀ {ss : List Str} {vs : List V}, Reps K G (ss.map D.str) vs → vs = ss.map V.str
  | [], vs, h => h
  | s :: ss, vs, ⟨v, r, e1, e2, e3⟩ => by rw [e1, show v = .str s from e2, repsStr e3]; rfl
theorem ev_join {sep : Str} (ho : PV X I o δ (.str sep)) (h : EvX X W R e δ I fun d I1 => ∃ ss : List Str, d = .lst (ss.map D.str) ∧ (ss.map (·.length)).sum + ss.length * sep.length ≤ 16777216 ∧ P (.str (Txt.join sep ss)) I1)
    (hs : starEach [e] X.env = [(false, eval e X.env)] := by rfl) (hbase : attributeBase o "join" X.env (eval o X.env) = eval o X.env := by rfl) (hline : (apos.endLine == pos.line) = true := by rfl) : EvX X W R (.Call (.Attribute o "join" apos) [e] [] pos) δ I P := fun σ G H Q hE s hI qx q =>
  PE.wp (pe_join peC peC hs hbase hline) (ho W R (fun z I1 => z = .str sep ∧ I1 = I) ⟨rfl, rfl⟩ σ G H _ hE s hI qx fun v d G1 H1 I1 s1 t1 h1 r1 ⟨ed, ei⟩ => by
    subst ed ei
    obtain rfl : v = .str sep := r1
    refine ⟨⟨sep, rfl⟩, h σ G1 H1 _ (hE.mono s1) t1 h1 (qx.mono s1) fun w d2 G2 H2 I2 s2 t2 h2 r2 ⟨ss, e2, hz, p2⟩ => ?_⟩
    subst e2
    obtain ⟨a, vs, e3, e4, e5⟩ := r2
    have e6 := repsStr e5
    subst e6
    exact ⟨sep, a, ss, rfl, by rw [e3], .inl (SqL.of (t2 _ _ e4)), hz, q _ (.str (Txt.join sep ss)) G2 H2 I2 (s1.trans s2) t2 h2 rfl p2⟩)
theorem walk_dL {K : PySem.W.Frag} {a : Addr} {ds : List D} {vs : List V} {G : Hp} (h : SqL K G a vs) (r : Reps K G ds vs) : WalkD K (Itl K a) ds G := by
  have hl := r.length
  refine ⟨fun i G' H' s1 s2 hi => (walk_list (K := K) (a := a) (xs := vs)).goes i H' (by omega) (sqL_mono (s1.trans s2) h), fun G' H' s1 s2 => by rw [← hl]; exact walk_list.stops H' (sqL_mono (s1.trans s2) h), fun i G' H' I x H'' s1 s2 hI hi y => ?_⟩
  obtain ⟨eH, ex⟩ := (walk_list (K := K) (a := a) (xs := vs)).yields i H' x H'' (by omega) (sqL_mono (s1.trans s2) h) y
  subst eH
  obtain ⟨d, hd⟩ : ∃ d, ds[i]? = some d := ⟨ds[i], by simp [hi]⟩
  obtain ⟨v, h1, h2⟩ := r.get hd
  rw [ex] at h1
  cases h1
  exact ⟨G', Same.refl _, s2, hI, fun _ _ z => z, d, hd, h2.mono s1⟩
theorem walk_dT {K : PySem.W.Frag} {a : Addr} {ds : List D} {vs : List V} {G : Hp} (h : SqT K G a vs) (r : Reps K G ds vs) : WalkD K (Itt K a) ds G := by
  have hl := r.length
  refine ⟨fun i G' H' s1 s2 hi => (walk_tup (K := K) (a := a) (xs := vs)).goes i H' (by omega) (sqT_mono (s1.trans s2) h), fun G' H' s1 s2 => by rw [← hl]; exact walk_tup.stops H' (sqT_mono (s1.trans s2) h), fun i G' H' I x H'' s1 s2 hI hi y => ?_⟩
  obtain ⟨eH, ex⟩ := (walk_tup (K := K) (a := a) (xs := vs)).yields i H' x H'' (by omega) (sqT_mono (s1.trans s2) h) y
  subst eH
  obtain ⟨d, hd⟩ : ∃ d, ds[i]? = some d := ⟨ds[i], by simp [hi]⟩
  obtain ⟨v, h1, h2⟩ := r.get hd
  rw [ex] at h1
  cases h1
  exact ⟨G', Same.refl _, s2, hI, fun _ _ z => z, d, hd, h2.mono s1⟩
theorem ei_lst (h : EvX X W R iter δ I fun d I1 => ∃ ds, (d = .lst ds ∨ d = .lsf ds) ∧ PP ds I1) : EvI X W R tg iter δ I PP := fun σ G H RR hE s hI qx q =>
  PI.wp (pi_list peC) (h σ G H _ hE s hI qx fun v d G1 H1 I1 s1 t1 h1 r1 ⟨ds, ed, pp⟩ => by
    have k : ∃ a vs, v = .ref a ∧ SqL X.K G1 a vs ∧ Reps X.K G1 ds vs := by
      rcases ed with e | e
      · subst e
        obtain ⟨a, vs, e1, e2, e3⟩ := r1
        exact ⟨a, vs, e1, SqL.of e2, e3⟩
      · subst e
        exact r1
    obtain ⟨a, vs, e1, e2, e3⟩ := k
    exact ⟨a, e1, ⟨vs, sqL_mono t1 e2⟩, q _ ds G1 H1 I1 s1 t1 h1 (walk_dL e2 e3) pp⟩)
theorem ei_tup (h : EvX X W R iter δ I fun d I1 => ∃ ds, d = .tup ds ∧ PP ds I1) : EvI X W R tg iter δ I PP := fun σ G H RR hE s hI qx q =>
  PI.wp (pi_tup peC) (h σ G H _ hE s hI qx fun v d G1 H1 I1 s1 t1 h1 r1 ⟨ds, ed, pp⟩ => by
    subst ed
    obtain ⟨a, vs, e1, e2, e3⟩ := r1
    exact ⟨a, e1, ⟨vs, sqT_mono t1 e2⟩, q _ ds G1 H1 I1 s1 t1 h1 (walk_dT e2 e3) pp⟩)
theorem ei_str (h : EvX X W R iter δ I fun d I1 => ∃ w : Str, d = .str w ∧ PP (w.cps.toList.map fun c => D.str ⟨#[c]⟩) I1) : EvI X W R tg iter δ I PP := fun σ G H RR hE s hI qx q =>
  PI.wp (pi_str peC) (h σ G H _ hE s hI qx fun v d G1 H1 I1 s1 t1 h1 r1 ⟨w, ed, pp⟩ => by
    subst ed
    refine ⟨w, r1, q _ _ G1 H1 I1 s1 t1 h1 ⟨fun i G' H' _ _ hi => walk_str.goes i H' (by simpa using hi) trivial, fun G' H' _ _ => by rw [List.length_map, Array.length_toList]; exact walk_str.stops H' trivial, fun i G' H' I x H'' s1 s2 hI hi y => ?_⟩ pp⟩
    obtain ⟨eH, c, ec, ex⟩ := (walk_str (z := w)).yields i H' x H'' (by simpa using hi) trivial y
    subst eH ex
    exact ⟨G', Same.refl _, s2, hI, fun _ _ z => z, .str ⟨#[c]⟩, by rw [List.getElem?_map, Array.getElem?_toList, ec]; rfl, rfl⟩)
def intsFrom (lo : Int) (n : Nat) : List D := (List.range n).map fun i => D.int (lo + (i : Nat))
theorem walk_dR {K : PySem.W.Frag} {lo : Int} {n : Nat} {G : Hp} : WalkD K (Itr lo n) (intsFrom lo n) G := by
  have hl : (intsFrom lo n).length = n := by unfold intsFrom; simp
  refine ⟨fun i G' H' _ _ hi => walk_range.goes i H' (by omega) trivial, fun G' H' _ _ => by rw [hl]; exact walk_range.stops H' trivial, fun i G' H' I x H'' s1 s2 hI hi y => ?_⟩
  obtain ⟨eH, ex⟩ := (walk_range (lo := lo) (n := n)).yields i H' x H'' (by omega) trivial y
  subst eH ex
  exact ⟨G', Same.refl _, s2, hI, fun _ _ z => z, .int (lo + (i : Nat)), by unfold intsFrom; rw [List.getElem?_map, List.getElem?_range (by omega)]; rfl, rfl⟩
theorem ei_range1 (hm : X.mg "range" = none) (h : EvX X W R a δ I fun d I1 => ∃ n : Int, d = .int n ∧ n < 1000000 ∧ -1000000 < n ∧ PP (intsFrom 0 n.toNat) I1) (hg : Gl X "range" := by rfl) (hst : starEach [a] X.env = [(false, eval a X.env)] := by rfl) (hpl : (backTo pos (starEach [] X.env)).any (·.1) = false := by rfl) : EvI X W R tg (.Call (.Name "range" p) [a] [] pos) δ I PP := fun σ G H RR hE s hI qx q =>
  PI.wp (pi_range1 hg hm (pa_cons peC pa_nil hst) (hs := hst)) (h σ G H _ hE s hI qx fun v d G1 H1 I1 s1 t1 h1 r1 ⟨n, ed, b1, b2, pp⟩ => by
    subst ed
    exact ⟨n, by rw [show v = .int n from r1], by omega, by omega, q _ _ G1 H1 I1 s1 t1 h1 walk_dR pp⟩)
theorem ei_range2 (hm : X.mg "range" = none) (h : EvX X W R a δ I fun d I1 => EvX X W R b δ I1 fun d2 I2 => ∃ n m : Int, d = .int n ∧ d2 = .int m ∧ (n < 1000000 ∧ -1000000 < n ∧ m < 1000000 ∧ -1000000 < m) ∧ PP (intsFrom n (m - n).toNat) I2) (hg : Gl X "range" := by rfl) (hst : starEach [a, b] X.env = [(false, eval a X.env), (false, eval b X.env)] := by rfl) (hst2 : starEach [b] X.env = [(false, eval b X.env)] := by rfl) (hpl : (backTo pos (starEach [b] X.env)).any (·.1) = false := by rfl) : EvI X W R tg (.Call (.Name "range" p) [a, b] [] pos) δ I PP := fun σ G H RR hE s hI qx q =>
  PI.wp (pi_range2 hg hm (pa_cons peC (pa_cons peC pa_nil hst2) (by rw [hst, hst2])) (hs := hst) (hs2 := hst2)) (h σ G H _ hE s hI qx fun v d G1 H1 I1 s1 t1 h1 r1 k => k σ G1 H1 _ (hE.mono s1) t1 h1 (qx.mono s1) fun v2 d2 G2 H2 I2 s2 t2 h2 r2 ⟨n, m, ed, ed2, b1, pp⟩ => by
    subst ed ed2
    exact ⟨n, m, by rw [show v = .int n from r1, show v2 = .int m from r2], by omega, q _ _ G2 H2 I2 (s1.trans s2) t2 h2 walk_dR pp⟩)
theorem vi_lst {ds : List D} (h : PV X I iter δ (.lst ds)) : PVI X I tg iter δ ds := fun W R P p => ei_lst (h W R _ ⟨ds, .inl rfl, p⟩)
theorem vi_tup {ds : List D} (h : PV X I iter δ (.tup ds)) : PVI X I tg iter δ ds := fun W R P p => ei_tup (h W R _ ⟨ds, rfl, p⟩)
theorem vi_str {w : Str} (h : PV X I iter δ (.str w)) : PVI X I tg iter δ (w.cps.toList.map fun c => D.str ⟨#[c]⟩) := fun W R P p => ei_str (h W R _ ⟨w, rfl, p⟩)
structure wpTs (X : Cx) (ifs : List Expr) (σ : L2.St) (H : Hp) (Q : Bool → Hp → Prop) : Prop where
  run : ∀ (pins : List (Addr × Obj)) (s : Shared), Inv X pins σ H s → wpAny (model X.prog X.w) X.A (forIn ifs true fun c r => if r = true then do let ok ← isTrue c X.env (eval c X.env); pure (ForInStep.yield ok) else pure (ForInStep.yield r)) (TP X pins σ Q) X.xe s
def EvTs (X : Cx) (W : WX) (R : Rx X.K) (ifs : List Expr) (δ : DEnv) (I : Iv X.K) (P : Bool → Iv X.K → Prop) : Prop := ∀ (σ : L2.St) (G H : Hp) (Q : Bool → Hp → Prop), EnvR X.K G δ σ → Same G H → Hd I G H → Kx X.K W σ G R → Kb X.K Q G P → wpTs X ifs σ H Q
theorem ets_nil {PB : Bool → Iv X.K → Prop} (p : PB true I) : EvTs X W R [] δ I PB := fun σ G H Q hE s hI qx q => ⟨fun pins s1 J => pts_nil.run pins s1 σ H Q J (q true G H I (Same.refl G) s hI p)⟩
theorem ets_one {c : Expr} {PB : Bool → Iv X.K → Prop} (h : EvT X W R c δ I PB) : EvTs X W R [c] δ I PB := fun σ G H Q hE s hI qx q => ⟨fun pins s1 J => (pts_one ptC).run pins s1 σ H Q J (h σ G H Q hE s hI qx q)⟩
abbrev W0 : WX := fun _ _ _ _ => False
abbrev R0 {K : PySem.W.Frag} : Rx K := fun _ _ _ => False
theorem kx0 {K : PySem.W.Frag} {σ : L2.St} {G : Hp} : Kx K W0 σ G R0 := fun _ _ _ _ _ _ _ _ _ _ _ _ z => z.elim
theorem ev_lc {elt : Expr} {ifs : List Expr} {scope : Scope} (own : List (Str × Nat)) (hN : X.N.Nodup) (ok : BlkOk X.N X.env.scope scope own)
    (h : EvI X W R tg iter δ I fun ds I1 => ds.length ≤ 1000000 ∧ ∃ (Nv : Nat → List D → Prop) (δ' : D → DEnv), Nv 0 [] ∧ (∀ i d ys, ds[i]? = some d → Nv i ys → ∃ T : Bool → Prop, (∀ (J : Iv X.K) (s : Shared) (H : Hp) (C : Addr) (cl : List (Str × Addr)) (fp : List Addr),
        BindD (X.blk s H scope (compEnvC scope cl C X.env) fp) tg d (wipeD δ (own.map (·.2))) (δ' d) (own.map (·.2)) ∧
        EvTs (X.blk s H scope (compEnvC scope cl C X.env) fp) W0 R0 ifs (δ' d) (I1.and J) fun b I2 => I2 = I1.and J ∧ T b) ∧
        (T true → ∀ (J : Iv X.K) (s : Shared) (H : Hp) (C : Addr) (cl : List (Str × Addr)) (fp : List Addr), EvX (X.blk s H scope (compEnvC scope cl C X.env) fp) W0 R0 elt (δ' d) (I1.and J) fun y I3 => I3 = I1.and J ∧ Nv (i + 1) (ys ++ [y])) ∧ (T false → Nv (i + 1) ys)) ∧
      ∀ ys, Nv ds.length ys → P (.lst ys) I1)
    (hc : X.calm = true := by rfl) (hs : ∀ x, foldedSetIterable iter X.env x = pure x := by intro _; rfl) : EvX X W R (.ListComp elt [⟨tg, iter, ifs, 0⟩] scope pos) δ I P := fun σ G H Q hE s hI qx q => by
  refine PE.wp (pe_lc (wi := wpI X tg iter) (g := fun v σ H Q => ∀ s0 H0 C cl fp, wpG (X.blk s0 H0 scope (compEnvC scope cl C X.env) fp) tg v σ H Q) (tt := fun σ H Q => ∀ s0 H0 C cl fp, wpTs (X.blk s0 H0 scope (compEnvC scope cl C X.env) fp) ifs σ H Q)
    (te := fun σ H Q => ∀ s0 H0 C cl fp, wpE (X.blk s0 H0 scope (compEnvC scope cl C X.env) fp) elt σ H Q) hc hN piC ok
    (fun s0 H0 C cl fp => ⟨fun pins s σ H v u Q J r k => (k s0 H0 C cl fp).run pins s u J r⟩) (fun s0 H0 C cl fp => ⟨fun pins s σ H Q J k => (k s0 H0 C cl fp).run pins s J⟩) (fun s0 H0 C cl fp => ⟨fun pins s σ H Q J k => (k s0 H0 C cl fp).run pins s J⟩) hs) ?_
  refine h σ G H _ hE s hI qx fun J ds G1 H1 I1 s1 t1 h1 wk ⟨hz, Nv, δ', n0, step, fin⟩ D hD => ?_
  have gD : G1 D = none := t1.free hD
  have apart : ∀ a, ¬ (I1.F a ∧ a = D) := fun a ha => h1.dom ha.1 (by rw [ha.2]; exact hD)
  refine ⟨fun i m H' => m = ds.length - i ∧ i ≤ ds.length ∧ ∃ ys G', Nv i ys ∧ ys.length ≤ i ∧ Same G1 G' ∧ Same G' H' ∧ Hd (I1.and (iLst X.K D ys)) G' H', ⟨_, rfl, Nat.zero_le _, [], G1, n0, Nat.le_refl _, Same.refl _, same_upd t1 gD, ?_⟩, ?_⟩
  · exact Hd.mk2 (h1.newp hD) ⟨⟨_, upd_same, [], rfl, rfl⟩, fun a ha => by rw [show a = D from ha]; exact gD⟩ apart
  · rintro i m H' ⟨rfl, hi, ys, G', nv, hy, s2, t2, hd2⟩
    by_cases hlt : i < ds.length
    · refine .inr ⟨wk.go i G' H' s2 t2 hlt, fun H3 => ∃ ys3 G3, Nv (i + 1) ys3 ∧ ys3.length ≤ i + 1 ∧ Same G1 G3 ∧ Same G3 H3 ∧ Hd (I1.and (iLst X.K D ys3)) G3 H3, fun H3 ⟨ys3, G3, q1, q2, q3, q4, q5⟩ => ⟨ds.length - (i + 1), by omega, rfl, hlt, ys3, G3, q1, q2, q3, q4, q5⟩, fun x H3 hyl => ?_⟩
      obtain ⟨G3, s3, t3, h3, _, d, hd, rd⟩ := wk.yld i G' H' _ x H3 s2 t2 hd2 hlt hyl
      obtain ⟨T, stA, stB, stC⟩ := step i d ys hd nv
      intro s0 H0 C cl fp
      refine (stA (iLst X.K D ys) s0 H0 C cl fp).1 x _ G3 H3 _ (((hE.mono s1).mono (s2.trans s3)).wipe _) t3 rd fun σ4 e4 ew => ⟨by rw [ew, wipe_wipe], ?_⟩
      intro s0 H0 C cl fp
      refine (stA (iLst X.K D ys) s0 H0 C cl fp).2 σ4 G3 H3 _ e4 t3 h3 kx0 fun b G4 H4 I4 s4 t4 h4 ⟨eI, pb⟩ => ?_
      subst eI
      cases b with
      | false => exact ⟨ys, G4, stC pb, by omega, (s2.trans s3).trans s4, t4, h4⟩
      | true =>
        intro s0 H0 C cl fp
        refine stB pb (iLst X.K D ys) s0 H0 C cl fp σ4 G4 H4 _ (e4.mono s4) t4 h4 kx0 fun y dy G5 H5 I5 s5 t5 h5 r5 ⟨eI, nv5⟩ => ?_
        subst eI
        obtain ⟨o, ho, vs, ev, rv⟩ := h5.right.ph
        subst ev
        have g5 : G5 D = none := h5.right.fr D rfl
        refine ⟨vs, ho, ?_, ys ++ [dy], G5, nv5, by simp; omega, ((s2.trans s3).trans s4).trans s5, same_upd t5 g5, ?_⟩
        · rw [rv.length, sizeLine_eq]; omega
        · refine Hd.mk2 (h5.left.chg fun hf => apart D ⟨hf, rfl⟩) ⟨⟨_, upd_same, _, rfl, rv.append (Reps.one r5)⟩, h5.right.fr⟩ apart
    · have ei : i = ds.length := by omega
      subst ei
      obtain ⟨o, ho, vs, ev, rv⟩ := hd2.right.ph
      subst ev
      have g5 : G' D = none := hd2.right.fr D rfl
      refine .inl ⟨wk.stop G' H' s2 t2, q (.ref D) (.lst ys) (upd G' D (.lst vs)) H' I1 ((s1.trans s2).trans (Evl.Ex.new g5)) (same_freeze t2 ho) ?_ ⟨D, vs, rfl, upd_same, rv.mono (Evl.Ex.new g5)⟩ (fin ys nv)⟩
      exact ⟨I1.loc G' _ H' H' (Evl.Ex.new g5) (fun _ _ => rfl) hd2.left.ph, fun a ha => by rw [upd_ne fun e => apart a ⟨ha, e⟩]; exact hd2.left.fr a ha⟩
end
end DL
set_option Elab.async false
set_option linter.all false
set_option maxRecDepth 100000
set_option maxHeartbeats 4000000
namespace DL
open PySem PySem.Spec PyProof.Rows L2

section
variable {K : PySem.W.Frag} {G H : Hp} {p : Addr} {ds : List D} {c : Rc K}
theorem Hd.lst (h : Hd (c.fill (iLst K p ds)) G H) : ∃ vs, H p = some (.lst vs) ∧ Reps K G ds vs ∧ G p = none := by
  have q := h.inner
  obtain ⟨o, ho, vs, ev, r⟩ := q.ph
  subst ev
  exact ⟨vs, ho, r, q.fr p rfl⟩
theorem Hd.lstSet {es : List D} {ws : List V} (h : Hd (c.fill (iLst K p ds)) G H) (r : Reps K G es ws) : Hd (c.fill (iLst K p es)) G (upd H p (.lst ws)) :=
  Hd.change (I := iLst K p ds) (I' := iLst K p es) (fun _ => Iff.rfl) (fun a ha => upd_ne ha) ⟨⟨_, upd_same, ws, rfl, r⟩, h.inner.fr⟩ h
end
section
variable {X : Cx} {W : WX} {R : Rx X.K} {a b e o : Expr} {es : List Expr} {δ : DEnv} {I : Iv X.K} {P : D → Iv X.K → Prop} {pos q' : Pos} {x : Str} {d z : D} {p : Addr} {ds : List D} {i : Int} {κ : Ko X.K}
theorem p2_ixM {K : PySem.W.Frag} {I : Iv K} (c : Rc K) (h : atI ds i = some d) (eI : I = c.fill (iLst K p ds) := by rfl) : P2 K I (rIxL K) (.adr p) (.int i) d := fun P pp G H v w Q s hI r1 r2 q => by
  subst eI
  obtain ⟨vs, ho, r, _⟩ := hI.lst
  obtain ⟨u, h1, h2⟩ := atI_rep r h
  exact ⟨p, vs, i, u, r1, r2, SqL.of ho, h1, q u d G H _ (Same.refl G) s hI h2 pp⟩
theorem pn_lenM {K : PySem.W.Frag} {I : Iv K} (c : Rc K) (eI : I = c.fill (iLst K p ds) := by rfl) : PN K I (fun xs H Q => ∃ p ys, xs = [.ref p] ∧ (SqL K H p ys ∨ SqT K H p ys) ∧ Q (.int ys.length) H) [.adr p] (.int ds.length) := fun P pp G H vs Q s hI ⟨v, r, e1, e2, e3⟩ q => by
  subst eI
  obtain ⟨ws, ho, rw', _⟩ := hI.lst
  exact ⟨p, ws, by rw [e1, show v = .ref p from e2, show r = [] from e3], .inl (SqL.of ho), by rw [rw'.length]; exact q _ (.int ds.length) G H _ (Same.refl G) s hI rfl pp⟩
theorem p2_catMK {K : PySem.W.Frag} {I : Iv K} (c : Rc K) {es : List D} (hz : ds.length + es.length ≤ 100000) (eI : I = c.fill (iLst K p ds) := by rfl) : P2 K I rCat (.adr p) (.lst es) (.lst (ds ++ es)) := fun P pp G H v w Q s hI r1 ⟨b, zs, e1, e2, e3⟩ q => by
  subst eI
  obtain ⟨vs, ho, r, _⟩ := hI.lst
  refine ⟨p, b, vs, zs, r1, e1, ho, s _ _ e2, by rw [r.length, e3.length, sizeLine_eq]; omega, fun n hn => ?_⟩
  have hg : G n = none := s.free hn
  exact q (.ref n) (.lst (ds ++ es)) (upd G n (.lst (vs ++ zs))) _ _ (Evl.Ex.new hg) (same_upd2 s) (hI.keep hn s) ⟨n, vs ++ zs, rfl, upd_same, (r.append e3).mono (Evl.Ex.new hg)⟩ pp
theorem p2_catKK {K : PySem.W.Frag} {I : Iv K} {fs es : List D} (hz : fs.length + es.length ≤ 100000) : P2 K I rCat (.lst fs) (.lst es) (.lst (fs ++ es)) := fun P pp G H v w Q s hI ⟨a, vs, h1, h2, r⟩ ⟨b, zs, e1, e2, e3⟩ q => by
  refine ⟨a, b, vs, zs, h1, e1, s _ _ h2, s _ _ e2, by rw [r.length, e3.length, sizeLine_eq]; omega, fun n hn => ?_⟩
  have hg : G n = none := s.free hn
  exact q (.ref n) (.lst (fs ++ es)) (upd G n (.lst (vs ++ zs))) _ _ (Evl.Ex.new hg) (same_upd2 s) (hI.keep hn s) ⟨n, vs ++ zs, rfl, upd_same, (r.append e3).mono (Evl.Ex.new hg)⟩ pp
theorem on_listK {K : PySem.W.Frag} {I : Iv K} {P : D → Iv K → Prop} {fs : List D} (hd : d = .lst fs ∨ d = .lsf fs ∨ d = .tup fs) (pp : P (.lst fs) I) : OpN K (fun xs H Q => ∃ p ys, xs = [.ref p] ∧ (SqL K H p ys ∨ SqT K H p ys) ∧ ∀ l, H l = none → Q (.ref l) (upd H l (.lst ys))) [d] I P := fun G H vs Q s hI ⟨v, r, e1, e2, e3⟩ q => by
  have k : ∃ a ws, v = .ref a ∧ (SqL K H a ws ∨ SqT K H a ws) ∧ Reps K G fs ws := by
    rcases hd with e | e | e <;> subst e
    · obtain ⟨a, ws, h1, h2, h3⟩ := e2
      exact ⟨a, ws, h1, .inl (SqL.of (s _ _ h2)), h3⟩
    · obtain ⟨a, ws, h1, h2, h3⟩ := e2
      exact ⟨a, ws, h1, .inl (sqL_mono s h2), h3⟩
    · obtain ⟨a, ws, h1, h2, h3⟩ := e2
      exact ⟨a, ws, h1, .inr (sqT_mono s h2), h3⟩
  obtain ⟨a, ws, h1, h2, h3⟩ := k
  refine ⟨a, ws, by rw [e1, h1, show r = [] from e3], h2, fun n hn => ?_⟩
  have hg : G n = none := s.free hn
  exact q (.ref n) (.lst fs) (upd G n (.lst ws)) _ _ (Evl.Ex.new hg) (same_upd2 s) (hI.keep hn s) ⟨n, ws, rfl, upd_same, h3.mono (Evl.Ex.new hg)⟩ pp
theorem on_listM {K : PySem.W.Frag} {I : Iv K} {P : D → Iv K → Prop} {fs : List D} (hd : d = .lst fs ∨ d = .lsf fs ∨ d = .tup fs) (pp : ∀ n, (∀ a, ¬ (I.F a ∧ a = n)) → P (.adr n) (I.and (iLst K n fs))) : OpN K (fun xs H Q => ∃ p ys, xs = [.ref p] ∧ (SqL K H p ys ∨ SqT K H p ys) ∧ ∀ l, H l = none → Q (.ref l) (upd H l (.lst ys))) [d] I P := fun G H vs Q s hI ⟨v, r, e1, e2, e3⟩ q => by
  have k : ∃ a ws, v = .ref a ∧ (SqL K H a ws ∨ SqT K H a ws) ∧ Reps K G fs ws := by
    rcases hd with e | e | e <;> subst e
    · obtain ⟨a, ws, h1, h2, h3⟩ := e2
      exact ⟨a, ws, h1, .inl (SqL.of (s _ _ h2)), h3⟩
    · obtain ⟨a, ws, h1, h2, h3⟩ := e2
      exact ⟨a, ws, h1, .inl (sqL_mono s h2), h3⟩
    · obtain ⟨a, ws, h1, h2, h3⟩ := e2
      exact ⟨a, ws, h1, .inr (sqT_mono s h2), h3⟩
  obtain ⟨a, ws, h1, h2, h3⟩ := k
  refine ⟨a, ws, by rw [e1, h1, show r = [] from e3], h2, fun n hn => ?_⟩
  have hg : G n = none := s.free hn
  have na : ∀ a, ¬ (I.F a ∧ a = n) := fun a ha => hI.dom ha.1 (by rw [ha.2]; exact hn)
  exact q (.ref n) (.adr n) G _ (I.and (iLst K n fs)) (Same.refl G) (same_upd s hg) (Hd.mk2 (hI.newp hn) ⟨⟨_, upd_same, ws, rfl, h3⟩, fun a ha => by rw [show a = n from ha]; exact hg⟩ na) rfl (pp n na)
theorem s_setItem (c : Rc X.K) {j : Nat} (ho : PV X I o δ (.adr p)) (hi : PV X I b δ (.int i)) (he : PV X I e δ d) (hj : ixN ds.length i = some j) (q : κ.nx δ (c.fill (iLst X.K p (ds.set j d)))) {ps : Pos} (eI : I = c.fill (iLst X.K p ds) := by rfl)
    (hs : swapsWithSole [.Subscript o b ps] e pos.line X.env = pure false := by rfl) (hw : swappedStores [.Subscript o b ps] e X.env = pure none := by rfl) (h1 : (assignEach [.Subscript o b ps] X.env).map (·.2) = [assign (.Subscript o b ps) X.env] := by rfl)
    (hasg : ∀ v, assign (.Subscript o b ps) X.env v = (do
      let ov ← holding [v] (eval o X.env)
      let iv ← holding [v, ov] (eval b X.env)
      standAt ps
      holding [v, ov, iv] (setItem ov iv v)
      release [v, ov, iv] []) := by intro _; rfl) :
    S1 X W (.Assign [.Subscript o b ps] e pos) δ I κ := fun σ G H E hE s hI k => by
  subst eI
  exact PS.wp (ps_asg peC (pg_sub peC peC set_list (ha := hasg)) hs hw h1) (he W _ (fun z I1 => z = d ∧ I1 = c.fill (iLst X.K p ds)) ⟨rfl, rfl⟩ σ G H _ hE s hI (k.kx hE) fun v d1 G1 H1 I1 s1 t1 h1 r1 ⟨ed, ei⟩ => by
    subst ed ei
    refine ho W (κ.r δ) (fun z I1 => z = .adr p ∧ I1 = c.fill (iLst X.K p ds)) ⟨rfl, rfl⟩ σ G1 H1 _ (hE.mono s1) t1 h1 ((k.kx hE).mono s1) fun ov d2 G2 H2 I2 s2 t2 h2 r2 ⟨ed, ei⟩ => ?_
    subst ed ei
    refine hi W (κ.r δ) (fun z I1 => z = .int i ∧ I1 = c.fill (iLst X.K p ds)) ⟨rfl, rfl⟩ σ G2 H2 _ (hE.mono (s1.trans s2)) t2 h2 ((k.kx hE).mono (s1.trans s2)) fun iv d3 G3 H3 I3 s3 t3 h3 r3 ⟨ed, ei⟩ => ?_
    subst ed ei
    obtain ⟨vs, hp, rv, gp⟩ := h3.lst
    refine ⟨p, vs, i, j, r2, r3, hp, by rw [rv.length]; exact hj, ?_⟩
    exact k.nx δ σ G3 _ _ ((s1.trans s2).trans s3) (same_upd t3 gp) (h3.lstSet (rv.set ((r1.mono s2).mono s3))) (hE.mono ((s1.trans s2).trans s3)) q)
theorem s_append (c : Rc X.K) {apos ep : Pos} (ho : PV X I o δ (.adr p)) (hI0 : I = c.fill (iLst X.K p ds)) (h : EvX X W (κ.r δ) e δ I fun d I1 => I1 = c.fill (iLst X.K p ds) ∧ ds.length < 1000000 ∧ κ.nx δ (c.fill (iLst X.K p (ds ++ [d]))))
    (hbase : attributeBase o "append" X.env (eval o X.env) = eval o X.env := by rfl)
    (hfew : ((backTo pos (starEach [e] X.env)).all (fun x => !x.1) && (backToKw pos (keywordEach [] X.env)).all (fun x => x.1.isSome) && decide ([e].length + ([] : List Keyword).length + (if ([] : List Keyword).isEmpty then 0 else 1) < 30)) = true := by rfl)
    (hline : (apos.endLine == pos.line) = true := by rfl) (hst : starEach [e] X.env = (false, eval e X.env) :: starEach [] X.env := by rfl) (hpl : (backTo pos (starEach [] X.env)).any (·.1) = false := by rfl)
    (hs : swapsWith (.Call (.Attribute o "append" apos) [e] [] pos) none ep.line X.env = pure false := by rfl) : S1 X W (.Expr (.Call (.Attribute o "append" apos) [e] [] pos) ep) δ I κ := fun σ G H E hE s hI k =>
  PS.wp (ps_expr (pe_bm PySem.F.plainAttrs_list PySem.F.slot_list_append PySem.F.type_list_append mt_append peC (pa_cons peC pa_nil hst) hbase hfew hline hst hpl) hs) (ho W (κ.r δ) (fun z I1 => z = .adr p ∧ I1 = I) ⟨rfl, rfl⟩ σ G H _ hE s hI (k.kx hE) fun v d1 G1 H1 I1 s1 t1 h1 r1 ⟨ed, ei⟩ => by
    subst ed ei hI0
    obtain ⟨vs, hp, rv, gp⟩ := h1.lst
    obtain rfl : v = .ref p := r1
    refine ⟨.inl ⟨rfl, _, .inl (.inl hp)⟩, ?_⟩
    refine h σ G1 H1 _ (hE.mono s1) t1 h1 ((k.kx hE).mono s1) fun w d2 G2 H2 I2 s2 t2 h2 r2 ⟨ei, hz, nx⟩ => ?_
    subst ei
    obtain ⟨vs2, hp2, rv2, gp2⟩ := h2.lst
    refine ⟨p, vs2, w, rfl, rfl, hp2, by rw [rv2.length, sizeLine_eq]; omega, ?_⟩
    exact k.nx δ σ G2 _ _ (s1.trans s2) (same_upd t2 gp2) (h2.lstSet (rv2.append (Reps.one r2))) (hE.mono (s1.trans s2)) nx)
theorem freeze_lst {K : PySem.W.Frag} {I : Iv K} {G H : Hp} (s : Same G H) (h : Hd (I.and (iLst K p ds)) G H) : ∃ G', Same G G' ∧ Same G' H ∧ Hd I G' H ∧ Rep K G' (.lst ds) (.ref p) := by
  obtain ⟨o, ho, vs, ev, rv⟩ := h.right.ph
  subst ev
  have gp : G p = none := h.right.fr p rfl
  refine ⟨upd G p (.lst vs), Evl.Ex.new gp, same_freeze s ho, ⟨I.loc G _ H H (Evl.Ex.new gp) (fun _ _ => rfl) h.left.ph, fun a ha => ?_⟩, ⟨p, vs, rfl, upd_same, rv.mono (Evl.Ex.new gp)⟩⟩
  rw [upd_ne fun e => h.apart a ⟨ha, e⟩]
  exact h.left.fr a ha
end
def iDrC (K : PySem.W.Frag) (a b : Addr) (s k m : Int) (ns : List Int) : Iv K := (iLst K a [.int s, .adr b, .int k, .int m]).and (iLst K b (ns.map D.int))
def iDr (K : PySem.W.Frag) (a b : Addr) : Iv K where
  F := fun x => x = a ∨ x = b
  φ := fun G H => ∃ q : Int × Int × Int × List Int, (iDrC K a b q.1 q.2.1 q.2.2.1 q.2.2.2).φ G H ∧ q.2.2.2.length ≤ 63
  loc := fun G G' H H' s k ⟨q, h, hl⟩ => ⟨q, (iDrC K a b q.1 q.2.1 q.2.2.1 q.2.2.2).loc G G' H H' s k h, hl⟩
  dom := fun G H ⟨q, h, _⟩ x hx => (iDrC K a b q.1 q.2.1 q.2.2.1 q.2.2.2).dom G H h x hx
theorem iDr_of {K : PySem.W.Frag} {a b : Addr} {s k m : Int} {ns : List Int} (hl : ns.length ≤ 63) : Sub (iDrC K a b s k m ns) (iDr K a b) := ⟨fun _ => Iff.rfl, fun _ _ h => ⟨(s, k, m, ns), h, hl⟩⟩
theorem iDr_open {X : Cx} {W : WX} {a b : Addr} {sts : List Stmt} {δ : DEnv} {κ : Ko X.K} {c : Rc X.K} (h : ∀ s k m ns, ns.length ≤ 63 → SX X W sts δ (c.fill (iDrC X.K a b s k m ns)) κ) : SX X W sts δ (c.fill (iDr X.K a b)) κ := fun σ G H E hE s hI kk => by
  obtain ⟨⟨q, hq⟩, hx⟩ := Hd.opens (I := iDr X.K a b) (f := fun x : { q : Int × Int × Int × List Int // q.2.2.2.length ≤ 63 } => iDrC X.K a b x.1.1 x.1.2.1 x.1.2.2.1 x.1.2.2.2) (fun _ _ => Iff.rfl) (fun _ _ ⟨q, h, hl⟩ => ⟨⟨q, hl⟩, h⟩) hI
  exact h _ _ _ _ hq σ G H E hE s hx kk
def Ko.sub {K : PySem.W.Frag} (κ : Ko K) (I I' : Iv K) : Ko K := κ
end DL
set_option Elab.async false
set_option linter.all false
set_option maxRecDepth 100000
set_option maxHeartbeats 4000000
namespace DL
open PySem PySem.Spec PyProof.Rows L2

theorem FRep.of {K : PySem.W.Frag} {G : Hp} : ∀ {fs : List (Str × D)} {l : List (Str × V)}, FRep K G fs l → l.map (·.1) = fs.map (·.1) ∧ ∀ f d, fs.lookup f = some d → ∃ v, l.lookup f = some v ∧ Rep K G d v
  | [], l, h => by
    have e : l = [] := h
    subst e
    exact ⟨rfl, fun f d z => by cases z⟩
  | (x, d0) :: fs, l, ⟨v, r, e, r1, r2⟩ => by
    subst e
    obtain ⟨h1, h2⟩ := FRep.of r2
    refine ⟨by rw [List.map_cons, List.map_cons, h1], fun f d z => ?_⟩
    by_cases hf : f = x
    · subst hf
      simp [List.lookup] at z
      subst z
      exact ⟨v, by simp [List.lookup], r1⟩
    · have e : (f == x) = false := by simpa using hf
      simp only [List.lookup, e] at z ⊢
      exact h2 f d z
theorem FRep.mono {K : PySem.W.Frag} {G G' : Hp} (s : Same G G') : ∀ {fs : List (Str × D)} {l : List (Str × V)}, FRep K G fs l → FRep K G' fs l
  | [], _, h => h
  | _ :: _, _, ⟨v, r, e, r1, r2⟩ => ⟨v, r, e, r1.mono s, FRep.mono s r2⟩
def spXIC (C : Addr) (ks : List Str) : Sp := fun vs H Q _ => ∃ (a : Addr) (ws : List V), vs = .ref a :: ws ∧ ws.length = ks.length ∧ H a = some (exo a C none) ∧ ∀ (d : Addr) (H' : Hp), H d = none → d ≠ a → H' a = some (exo a C (some d)) → H' d = some (exd d (ks.zip ws).reverse) → (∀ b, b ≠ a → b ≠ d → H' b = H b) → Q .non H'
section
variable {X : Cx} {W : WX} {es : List Expr} {e : Expr} {δ : DEnv} {I : Iv X.K} {κ : Ko X.K} {pos p pos2 : Pos} {x : Str} {C fI : Addr} {fd : FuncData} {ps ks : List Str} {k : Nat}
theorem frep_zip {K : PySem.W.Frag} {G : Hp} : ∀ {ks : List Str} {ds : List D} {vs : List V}, Reps K G ds vs → ks.length = ds.length → FRep K G (ks.zip ds) (ks.zip vs)
  | [], _, _, _, _ => by simp [FRep]
  | k :: ks, [], _, _, h => by simp at h
  | k :: ks, d :: ds, _, ⟨v, r, e, r1, r2⟩, h => by
    subst e
    exact ⟨v, ks.zip r, rfl, r1, frep_zip r2 (by simpa using h)⟩
theorem frep_append {K : PySem.W.Frag} {G : Hp} : ∀ {fs gs : List (Str × D)} {l m : List (Str × V)}, FRep K G fs l → FRep K G gs m → FRep K G (fs ++ gs) (l ++ m)
  | [], _, l, m, h, t => by
    have e : l = [] := h
    subst e
    exact t
  | f :: fs, gs, l, m, ⟨v, r, e, r1, r2⟩, t => by
    subst e
    exact ⟨v, r ++ m, rfl, r1, frep_append r2 t⟩
theorem frep_rev {K : PySem.W.Frag} {G : Hp} : ∀ {fs : List (Str × D)} {l : List (Str × V)}, FRep K G fs l → FRep K G fs.reverse l.reverse
  | [], l, h => by
    have e : l = [] := h
    subst e
    exact rfl
  | f :: fs, l, ⟨v, r, e, r1, r2⟩ => by
    subst e
    rw [List.reverse_cons, List.reverse_cons]
    exact frep_append (frep_rev r2) ⟨v, [], rfl, r1, rfl⟩
theorem s_raise (tk : Takes X W) (T : OexC X.K C) (iC : PySem.W.findIn X.K (.ref C) "__init__" = some (some (.ref fI))) (tI : PySem.W.typeIn X.K (.ref fI) = some (.type "function"))
    (F1 : FnOk X.prog X.w X.K X.mg X.base (L2.CX X.prog X.w) k fI fd ps (spXIC C ks)) (hr : Room (k + 1) X.A) (hb : Binds X.K fd ps []) (hm : X.mg x = some (.ref C))
    (h : EvA X W (κ.r δ) (e :: es) δ I fun ds I1 => ks.length = ds.length ∧ ds.length ≤ 10 ∧ κ.ex C (ks.zip ds).reverse δ I1) (hc : X.calm = true := by rfl) (hg : Gl X x := by rfl) (hdb : (x == ("__debug__" : Str)) = false := by decide)
    (he : starEach (e :: es) X.env = (false, eval e X.env) :: starEach es X.env := by rfl) (hpl : (backTo pos (starEach es X.env)).any (·.1) = false := by rfl) : S1 X W (.Raise (some (.Call (.Name x p) (e :: es) [] pos)) none pos2) δ I κ := fun σ G H E hE s hI kk =>
  PS.wp (ps_raise hc tk (pmk_oex T iC tI F1 hr hb .nil passL hg hm paC hdb he hpl)) (h σ G H _ hE s hI (kk.kx hE) fun vs ds G1 H1 I1 s1 t1 h1 r1 ⟨hl, hz, xx⟩ => by
    refine ⟨by rw [r1.length]; omega, fun a ha => ?_⟩
    refine ⟨a, vs ++ [], rfl, by rw [List.append_nil, r1.length, hl], upd_same, fun d H2 hd hda e1 e2 e3 => ?_⟩
    rw [upd_ne hda] at hd
    refine ⟨rfl, d, _, e1, e2, hd, ?_⟩
    have eH : upd (L2.del H2 a) d (.xd (ks.zip (vs ++ [])).reverse) = upd H1 d (.xd (ks.zip (vs ++ [])).reverse) := by
      funext b
      by_cases hb : b = d
      · subst hb; rw [upd_same, upd_same]
      · rw [upd_ne hb, upd_ne hb]
        by_cases hba : b = a
        · subst hba; rw [del_same, ha]
        · rw [del_ne hba, e3 b hba hb, upd_ne hba]
    rw [eH]
    have gd : G1 d = none := t1.free hd
    refine kk.ex C d (ks.zip ds).reverse _ δ σ (upd G1 d (.xd (ks.zip (vs ++ [])).reverse)) _ I1 (s1.trans (Evl.Ex.new gd)) (same_upd2 t1) (h1.keep hd t1) (hE.mono (s1.trans (Evl.Ex.new gd))) ?_ upd_same xx
    rw [List.append_nil]
    exact (frep_rev (frep_zip r1 hl)).mono (Evl.Ex.new gd))
end
theorem frep_split {K : PySem.W.Frag} {G : Hp} : ∀ {fs : List (Str × D)} {l : List (Str × V)}, FRep K G fs l → l = (fs.map (·.1)).zip (l.map (·.2)) ∧ Reps K G (fs.map (·.2)) (l.map (·.2))
  | [], l, h => by
    have e : l = [] := h
    subst e
    exact ⟨rfl, rfl⟩
  | f :: fs, l, ⟨v, r, e, r1, r2⟩ => by
    subst e
    obtain ⟨h1, h2⟩ := frep_split r2
    refine ⟨?_, ⟨v, _, rfl, r1, h2⟩⟩
    show (f.1, v) :: r = (f.1, v) :: (fs.map (·.1)).zip (r.map (·.2))
    rw [← h1]
theorem lookup_zip {K : PySem.W.Frag} {G : Hp} {f : Str} {d : D} : ∀ {ks : List Str} {ds : List D} {vs : List V}, Reps K G ds vs → (ks.zip ds).lookup f = some d → ∃ v, (ks.zip vs).lookup f = some v ∧ Rep K G d v
  | [], _, _, _, h => by simp at h
  | k :: ks, [], _, _, h => by simp at h
  | k :: ks, d0 :: ds, _, ⟨v, r, e, r1, r2⟩, h => by
    subst e
    by_cases hk : f = k
    · subst hk
      simp [List.lookup] at h
      subst h
      exact ⟨v, by simp [List.lookup], r1⟩
    · have e : (f == k) = false := by simpa using hk
      simp only [List.zip_cons_cons, List.lookup, e] at h ⊢
      exact lookup_zip r2 h
section
variable {X : Cx} {I : Iv X.K} {δ : DEnv} {e : Expr} {pos : Pos} {d : D}
theorem pv_xf {a C dd : Addr} {oe : Obj} {pn : List (Addr × Obj)} {n : Str} {ks : List Str} {ds : List D} {I : Iv (X.suite a ((a, oe) :: pn)).K} (T : XfC X.K C) (hno : PySem.W.findIn X.K (.ref C) n = some none) (hz : Zc (.ref C) (some dd) oe) (hf : ∃ vs, oe.data = .fields vs)
    (he : PV (X.suite a ((a, oe) :: pn)) I e δ (.exc a C dd ks ds)) (hl : (ks.zip ds).lookup n = some d) (hb : attributeBase e n (X.suite a ((a, oe) :: pn)).env (eval e (X.suite a ((a, oe) :: pn)).env) = eval e (X.suite a ((a, oe) :: pn)).env := by rfl) : PV (X.suite a ((a, oe) :: pn)) I (.Attribute e n pos) δ d := fun W R P p σ G H Q hE s hI qx q =>
  PE.wp (pe_xf T hno hz hf peC hb) (he W R (fun z I1 => z = .exc a C dd ks ds ∧ I1 = I) ⟨rfl, rfl⟩ σ G H _ hE s hI qx fun v d1 G1 H1 I1 s1 t1 h1 r1 ⟨ed, ei⟩ => by
    subst ed ei
    obtain ⟨ev, vs, h2, h3⟩ := r1
    obtain ⟨u, h4, h5⟩ := lookup_zip h3 hl
    exact ⟨ev, rfl, dd, _, u, rfl, t1 _ _ h2, h4, q u d G1 H1 _ s1 t1 h1 h5 p⟩)
end
end DL
set_option Elab.async false
set_option linter.all false
set_option maxRecDepth 100000
set_option maxHeartbeats 4000000
namespace DL
open PySem PySem.Spec PyProof.Rows L2

def ORep (K : PySem.W.Frag) (G : Hp) (os : List (Option D)) (vs : List (Option V)) : Prop := vs.length = os.length ∧ ∀ (i : Nat) (d : D), os[i]? = some (some d) → ∃ v, vs[i]? = some (some v) ∧ Rep K G d v
theorem ORep.mono {K : PySem.W.Frag} {G G' : Hp} {os : List (Option D)} {vs : List (Option V)} (s : Same G G') (h : ORep K G os vs) : ORep K G' os vs := ⟨h.1, fun i d e => by
  obtain ⟨v, h1, h2⟩ := h.2 i d e
  exact ⟨v, h1, h2.mono s⟩⟩
def iSl (K : PySem.W.Frag) (x C dx : Addr) (os : List (Option D)) : Iv K where
  F := fun a => a = x ∨ a = dx
  φ := fun G H => H dx ≠ none ∧ dx ≠ x ∧ ∃ vs, SlX.Slt H x C dx vs ∧ ORep K G os vs
  loc := fun G G' H H' s k ⟨h1, h0, vs, h2, h3⟩ => ⟨by rw [k dx (.inr rfl)]; exact h1, h0, vs, by
    have e1 := k x (.inl rfl)
    have e2 := k dx (.inr rfl)
    rcases h2 with ⟨q1, q2⟩ | ⟨q1, q2⟩
    · exact .inl ⟨by rw [e1]; exact q1, q2⟩
    · exact .inr ⟨by rw [e1]; exact q1, by rw [e2]; exact q2⟩, h3.mono s⟩
  dom := fun G H ⟨h1, _, vs, h2, _⟩ a ha => by
    rcases ha with e | e
    · subst e
      rcases h2 with ⟨q, _⟩ | ⟨q, _⟩ <;> rw [q] <;> simp
    · subst e
      exact h1
def putO (i : Nat) (d : D) (os : List (Option D)) : List (Option D) := (os ++ List.replicate (i + 1 - os.length) none).set i (some d)
theorem ORep.put {K : PySem.W.Frag} {G : Hp} {os : List (Option D)} {vs : List (Option V)} (h : ORep K G os vs) (i : Nat) {d : D} {v : V} (r : Rep K G d v) : ORep K G (putO i d os) (SlX.putS i v vs) := by
  unfold putO SlX.putS
  refine ⟨by simp [h.1], fun j e he => ?_⟩
  have hl : i < (os ++ List.replicate (i + 1 - os.length) none).length := by simp; omega
  by_cases hj : i = j
  · subst hj
    rw [List.getElem?_set_self hl] at he
    have e2 : d = e := by simpa using he
    subst e2
    exact ⟨v, List.getElem?_set_self (by simp; omega), r⟩
  · rw [List.getElem?_set_ne hj] at he
    by_cases ho : j < os.length
    · rw [List.getElem?_append_left ho] at he
      obtain ⟨w, h1, h2⟩ := h.2 j e he
      exact ⟨w, by rw [List.getElem?_set_ne hj, List.getElem?_append_left (by rw [h.1]; exact ho)]; exact h1, h2⟩
    · rw [List.getElem?_append_right (by omega), List.getElem?_replicate] at he
      split at he <;> cases he
section
variable {K : PySem.W.Frag} {G H : Hp} {x C dx : Addr} {os : List (Option D)} {c : Rc K} {I : Iv K}
theorem Hd.sl (h : Hd (c.fill (iSl K x C dx os)) G H) : ∃ vs, SlX.Slt H x C dx vs ∧ ORep K G os vs ∧ dx ≠ x ∧ G x = none ∧ G dx = none := by
  obtain ⟨_, h0, vs, h2, h3⟩ := h.inner.ph
  exact ⟨vs, h2, h3, h0, h.inner.fr x (.inl rfl), h.inner.fr dx (.inr rfl)⟩
theorem slH_same {vs : List (Option V)} (s : Same G H) (h1 : G x = none) (h2 : G dx = none) : Same G (SlX.slH H x C dx vs) := fun a u e => by
  rw [SlX.slH_ne (ne_of_none e h1) (ne_of_none e h2)]
  exact s a u e
theorem Hd.slSet {os' : List (Option D)} {vs' : List (Option V)} (h : Hd (c.fill (iSl K x C dx os)) G H) (r : ORep K G os' vs') : Hd (c.fill (iSl K x C dx os')) G (SlX.slH H x C dx vs') := by
  obtain ⟨_, h0, _⟩ := h.inner.ph
  refine Hd.change (I := iSl K x C dx os) (I' := iSl K x C dx os') (fun _ => Iff.rfl) (fun a ha => SlX.slH_ne (fun e => ha (.inl e)) (fun e => ha (.inr e))) ⟨⟨?_, h0, vs', SlX.slH_slt h0, r⟩, h.inner.fr⟩ h
  show SlX.slH H x C dx vs' dx ≠ none
  unfold SlX.slH
  rw [upd_ne h0, upd_same]
  simp
theorem freeze_sl {ds : List D} (s : Same G H) (h : Hd (I.and (iSl K x C dx (ds.map some))) G H) : ∃ G', Same G G' ∧ Same G' H ∧ Hd I G' H ∧ Rep K G' (.slo C ds) (.ref x) := by
  obtain ⟨hd, h0, vs, h2, h3⟩ := h.right.ph
  have gx : G x = none := h.right.fr x (.inl rfl)
  have gd : G dx = none := h.right.fr dx (.inr rfl)
  obtain ⟨ox, ex⟩ : ∃ o, H x = some o := by
    rcases h2 with ⟨q, _⟩ | ⟨q, _⟩ <;> exact ⟨_, q⟩
  obtain ⟨od, ed⟩ : ∃ o, H dx = some o := Option.ne_none_iff_exists'.mp hd
  have g2 : upd G dx od x = none := by rw [upd_ne (Ne.symm h0)]; exact gx
  have sA : Same G (upd (upd G dx od) x ox) := (Evl.Ex.new gd).trans (Evl.Ex.new g2)
  have sB : Same (upd (upd G dx od) x ox) H := same_freeze (same_freeze s ed) ex
  have slt : SlX.Slt (upd (upd G dx od) x ox) x C dx vs := by
    rcases h2 with ⟨q1, q2⟩ | ⟨q1, q2⟩
    · exact .inl ⟨by rw [upd_same, ← ex]; exact q1, q2⟩
    · exact .inr ⟨by rw [upd_same, ← ex]; exact q1, by rw [upd_ne h0, upd_same, ← ed]; exact q2⟩
  -- the slots as values
  have key : ∀ {ds : List D} {vs : List (Option V)}, ORep K G (ds.map some) vs → ∃ ws, vs = ws.map some ∧ Reps K G ds ws := by
    intro ds
    induction ds with
    | nil =>
      intro vs ⟨hl, _⟩
      have e : vs = [] := List.length_eq_zero_iff.mp (by simpa using hl)
      exact ⟨[], by rw [e]; rfl, rfl⟩
    | cons d ds ih =>
      intro vs ⟨hl, hg⟩
      cases vs with
      | nil => simp at hl
      | cons v vs =>
        obtain ⟨w, h1, h2⟩ := hg 0 d rfl
        obtain ⟨ws, e1, e2⟩ := ih (vs := vs) ⟨by simpa using hl, fun i e he => by
          obtain ⟨w, q1, q2⟩ := hg (i + 1) e (by simpa using he)
          exact ⟨w, by simpa using q1, q2⟩⟩
        have e3 : v = some w := by simpa using h1
        exact ⟨w :: ws, by rw [e3, e1]; rfl, ⟨w, ws, rfl, h2, e2⟩⟩
  obtain ⟨ws, e1, e2⟩ := key h3
  subst e1
  refine ⟨_, sA, sB, ⟨I.loc G _ H H sA (fun _ _ => rfl) h.left.ph, fun a ha => ?_⟩, ⟨x, dx, ws, rfl, slt, e2.mono sA⟩⟩
  rw [upd_ne fun e => h.apart a ⟨ha, .inl e⟩, upd_ne fun e => h.apart a ⟨ha, .inr e⟩]
  exact h.left.fr a ha
end
section
variable {X : Cx} {W : WX} {R : Rx X.K} {a b e o : Expr} {es : List Expr} {δ : DEnv} {I : Iv X.K} {P : D → Iv X.K → Prop} {pos q' p : Pos} {n : Str} {d z : D} {x C dx pd : Addr} {ds : List D} {os : List (Option D)} {i : Nat} {κ : Ko X.K}
theorem pv_sl (c : SlX.SCls X.K C) (t : SlX.Slot1 X.K C n pd i) (ho : PV X I o δ (.slo C ds)) (hd : ds[i]? = some d) (hb : attributeBase o n X.env (eval o X.env) = eval o X.env := by rfl) : PV X I (.Attribute o n pos) δ d := fun W R P p σ G H Q hE s hI qx q =>
  PE.wp (SlX.pe_sl peC hb) (ho W R (fun z I1 => z = .slo C ds ∧ I1 = I) ⟨rfl, rfl⟩ σ G H _ hE s hI qx fun v d1 G1 H1 I1 s1 t1 h1 r1 ⟨ed, ei⟩ => by
    subst ed ei
    obtain ⟨y, dy, vs, e1, e2, e3⟩ := r1
    obtain ⟨u, h2, h3⟩ := e3.get hd
    exact ⟨y, C, dy, pd, vs.map some, i, u, e1, slt_mono t1 e2, c, t, by rw [List.getElem?_map, h2]; rfl, q u d G1 H1 _ s1 t1 h1 h3 p⟩)
theorem s_slot (k : Rc X.K) (c : SlX.SCls X.K C) (t : SlX.Slot1 X.K C n pd i) (ho : PV X I o δ (.adr x)) (he : PV X I e δ d) (nx : κ.nx δ (k.fill (iSl X.K x C dx (putO i d os))))
    (hs : swapsWith e (some (.Attribute o n q')) pos.line X.env = pure false := by rfl) (eI : I = k.fill (iSl X.K x C dx os) := by rfl) : S1 X W (.Assign [.Attribute o n q'] e pos) δ I κ := fun σ G H E hE s hI kk => by
  subst eI
  exact PS.wp (SlX.ps_sl peC peC hs) (he W _ (fun z I1 => z = d ∧ I1 = k.fill (iSl X.K x C dx os)) ⟨rfl, rfl⟩ σ G H _ hE s hI (kk.kx hE) fun v d1 G1 H1 I1 s1 t1 h1 r1 ⟨ed, ei⟩ => by
    subst ed ei
    refine ho W (κ.r δ) (fun z I1 => z = .adr x ∧ I1 = k.fill (iSl X.K x C dx os)) ⟨rfl, rfl⟩ σ G1 H1 _ (hE.mono s1) t1 h1 ((kk.kx hE).mono s1) fun ov d2 G2 H2 I2 s2 t2 h2 r2 ⟨ed, ei⟩ => ?_
    subst ed ei
    obtain ⟨vs, h4, h5, h6, h7, h8⟩ := h2.sl
    exact ⟨x, C, dx, pd, vs, i, r2, h4, c, t, kk.nx δ σ G2 _ _ (s1.trans s2) (slH_same t2 h7 h8) (h2.slSet (h5.put i (r1.mono s2))) (hE.mono (s1.trans s2)) nx⟩)
structure wpK (X : Cx) (kws : List Keyword) (σ : L2.St) (H : Hp) (Q : List V → Hp → Prop) : Prop where
  run : ∀ (pos : Pos) (pins : List (Addr × Obj)) (s : Shared), Inv X pins σ H s → wpAny (model X.prog X.w) X.A (evalAll ((backToKw pos (keywordEach kws X.env)).map (·.2))) (AP X pins σ Q) X.xe s
def EvK (X : Cx) (W : WX) (R : Rx X.K) (kws : List Keyword) (δ : DEnv) (I : Iv X.K) (P : List D → Iv X.K → Prop) : Prop := ∀ (σ : L2.St) (G H : Hp) (Q : List V → Hp → Prop), EnvR X.K G δ σ → Same G H → Hd I G H → Kx X.K W σ G R → Ka X.K Q G P → wpK X kws σ H Q
theorem pkC {kws : List Keyword} : PK X kws (wpK X kws) := ⟨fun pos pins s σ H Q I h => h.run pos pins s I⟩
theorem ek_nil {PP : List D → Iv X.K → Prop} (p : PP [] I) : EvK X W R [] δ I PP := fun σ G H Q hE s hI qx q => ⟨fun pos pins s1 J => pk_nil.run pos pins s1 σ H Q J (q [] [] G H I (Same.refl G) s hI rfl p)⟩
theorem ek_cons {PP : List D → Iv X.K → Prop} {nm : Option Str} {kpos : Pos} {kws : List Keyword} (h : EvX X W R e δ I fun d I1 => EvK X W R kws δ I1 fun ds I2 => PP (d :: ds) I2) : EvK X W R (⟨nm, e, kpos⟩ :: kws) δ I PP := fun σ G H Q hE s hI qx q => ⟨fun pos pins s1 J =>
  (pk_cons peC pkC).run pos pins s1 σ H Q J (h σ G H _ hE s hI qx fun v d G1 H1 I1 s1 t1 h1 r1 k => k σ G1 H1 _ (hE.mono s1) t1 h1 (qx.mono s1) fun vs ds G2 H2 I2 s2 t2 h2 r2 k2 => q (v :: vs) (d :: ds) G2 H2 I2 (s1.trans s2) t2 h2 ⟨v, vs, rfl, r1.mono s2, r2⟩ k2)⟩
theorem ev_makeSl {x' : Str} {f : Addr} {fd : FuncData} {ps ks : List Str} {j m : Nat} {S : Spec X.K} {kws : List Keyword} {g : List Value → List Value → List Value} {gV : List V → List V → List V} (gD : List D → List D → List D) (tk : Takes X W) (M : Mk X.K C f) (F : FnOk X.prog X.w X.K X.mg X.base (L2.CX X.prog X.w) j f fd ps (spD X.K S))
    (hr : Room (j + 1) X.A) (hm : X.mg x' = some (.ref C)) (hb : KBn X.K fd ps (m + 1) ks g gV) (hgD : ∀ {G : Hp} {ds zs : List D} {vs ws : List V}, Reps X.K G ds vs → Reps X.K G zs ws → Reps X.K G (gD ds zs) (gV vs ws))
    (h : EvA X W R (e :: es) δ I fun ds I1 => EvK X W R kws δ I1 fun zs I2 => ds.length = m ∧ zs.length = ks.length ∧ ∀ y dy, (∀ a, ¬ (I2.F a ∧ (a = y ∨ a = dy))) → S (I2.and (iSl X.K y C dy [])) (gD (.adr y :: ds) zs)
      (fun v I3 => v = .non ∧ ∃ fs : List D, I3 = I2.and (iSl X.K y C dy (fs.map some)) ∧ P (.slo C fs) I2) (fun C' fs I3 => ∃ os, I3 = I2.and (iSl X.K y C dy os) ∧ R C' fs I2))
    (hg : Gl X x' := by rfl) (hdb : (x' == ("__debug__" : Str)) = false := by decide) (hall : (backToKw pos (keywordEach kws X.env)).all (·.1.isSome) = true := by rfl) (hks : (backToKw pos (keywordEach kws X.env)).filterMap (·.1) = ks := by rfl)
    (he : starEach (e :: es) X.env = (false, eval e X.env) :: starEach es X.env := by rfl) (hpl : ((backTo pos (starEach (e :: es) X.env)).any (·.1) || (backToKw pos (keywordEach kws X.env)).any (·.1.isNone)) = false := by rfl) : EvX X W R (.Call (.Name x' p) (e :: es) kws pos) δ I P := fun σ G H Q hE s hI qx q => ⟨fun pins s0 J0 => by
  refine wpAny_Call_Name_kw (ld_glob J0 hg hm ?_ hdb)
  refine PySem.W.callWith_KW (h₀ := X.base) J0.ok.mod.kin M.kp hall ?_ hpl he
  refine thn ((h σ G H (fun vs H1 => ∀ (st : Shared) (us : List Value), Inv X pins σ H1 st → Vals vs us → wpAny (model X.prog X.w) X.A (evalAll ((backToKw pos (keywordEach kws X.env)).map (·.2)))
    (fun ws st2 => X.K.In st2.heap ∧ wpAny (model X.prog X.w) X.A (call (.ref C) us (((backToKw pos (keywordEach kws X.env)).filterMap (·.1)).zip ws)) (EP X pins σ Q) X.xe st2) X.xe st) hE s hI qx ?_).run pos pins s0 J0) fun us s1 ⟨vs, H1, J1, rv, z⟩ => z s1 us J1 rv
  intro vs ds G1 H1 I1 s1 t1 h1 r1 k st1 us J1 rv
  refine thn ((k σ G1 H1 (fun zs H2 => ∀ (st : Shared) (ws : List Value), Inv X pins σ H2 st → Vals zs ws → X.K.In st.heap ∧ wpAny (model X.prog X.w) X.A (call (.ref C) us (((backToKw pos (keywordEach kws X.env)).filterMap (·.1)).zip ws)) (EP X pins σ Q) X.xe st)
    (hE.mono s1) t1 h1 (qx.mono s1) ?_).run pos pins st1 J1) fun ws s2 ⟨zs, H2, J2, rz, z⟩ => z s2 ws J2 rz
  intro zs dz G2 H2 I2 s2 t2 h2 r2 ⟨hn, hk, hS⟩ st2 ws J2 rz
  refine ⟨J2.kIn, ?_⟩
  rw [hks]
  have J3 := Inv.made (C := C) J2
  have nd : H2 st2.heap.objs.size = none := J2.hok.fresh (Nat.le_refl _)
  have ny : H2 (st2.heap.objs.size + 1) = none := J2.hok.fresh (Nat.le_succ _)
  have dn : st2.heap.objs.size ≠ st2.heap.objs.size + 1 := Nat.ne_of_lt (Nat.lt_succ_self _)
  have rs : Vals (V.ref (st2.heap.objs.size + 1) :: vs) (Value.ref (st2.heap.objs.size + 1) :: us) := .cons rfl rv
  have rel := hb.rel rs rz
  have gd : G2 st2.heap.objs.size = none := t2.free nd
  have gy : G2 (st2.heap.objs.size + 1) = none := t2.free ny
  have ny2 : upd H2 st2.heap.objs.size (.own (st2.heap.objs.size + 1)) (st2.heap.objs.size + 1) = none := by rw [upd_ne (Ne.symm dn)]; exact ny
  have na : ∀ a, ¬ (I2.F a ∧ (a = st2.heap.objs.size + 1 ∨ a = st2.heap.objs.size)) := fun a ha => ha.2.elim (fun e => h2.dom ha.1 (by rw [e]; exact ny)) (fun e => h2.dom ha.1 (by rw [e]; exact nd))
  have hd3 : Hd (I2.and (iSl X.K (st2.heap.objs.size + 1) C st2.heap.objs.size [])) G2 (upd (upd H2 st2.heap.objs.size (.own (st2.heap.objs.size + 1))) (st2.heap.objs.size + 1) (.ins C st2.heap.objs.size [])) := by
    refine Hd.mk2 ((h2.newp nd).newp ny2) ⟨⟨by rw [upd_ne dn, upd_same]; simp, dn, [], .inl ⟨upd_same, rfl⟩, rfl, fun i d z => by simp at z⟩, fun a ha => ?_⟩ na
    rcases ha with e | e
    · subst e; exact gy
    · subst e; exact gd
  refine wpAny_call (make_map (f := f) J2.kIn M.makes M.init (beq_iff_eq.mp M.fn) (codeAny_mono (F.run _ X.stack _ _ ⟨Value.ref (st2.heap.objs.size + 1) :: us, ks.zip ws⟩ _ _ (fun v H3 => v = .non ∧ Q (.ref (st2.heap.objs.size + 1)) H3) (WE W σ) (hr.make C us (ks.zip ws))
    (J3.env0.make C us (ks.zip ws)) (hb.to _ _ ws J3.kIn ?_ ?_) rel ⟨_, G2, gD (.adr (st2.heap.objs.size + 1) :: ds) dz, _, _, same_upd (same_upd t2 gd) gy, hd3, hgD (.cons rfl (r1.mono s2)) r2, hS _ _ na, ?_, ?_⟩) fun r s' hq => ?_))
  · rw [List.length_cons, ← rv.length, r1.length, hn]
  · rw [← rz.length, r2.length, hk]
  · intro v d G' H' I' s3 t3 h3 r3 ⟨ed, fs, eI, pp⟩
    subst ed eI
    obtain ⟨G4, s4, t4, h4, r4⟩ := freeze_sl t3 h3
    exact ⟨r3, q (.ref _) (.slo C fs) G4 H' I2 ((s1.trans s2).trans (s3.trans s4)) t4 h4 r4 pp⟩
  · intro C' dd fs l G' H' I' s3 t3 h3 r3 hx ⟨os, eI, pp⟩
    subst eI
    exact qx C' dd fs l G' H' I2 ((s1.trans s2).trans s3) t3 h3.left r3 hx pp
  · cases r with
    | error e => exact passAt tk σ pins _ _ e s' J3 hq
    | ok fl =>
      cases fl with
      | ret u =>
        obtain ⟨v, H', J4, rv', ev, q3⟩ := J3.after hq
        subst ev
        exact ⟨rv', ⟨V.ref (st2.heap.objs.size + 1), H', J4, rfl, q3⟩⟩
      | next => exact False.elim hq
      | brk => exact False.elim hq
      | cont => exact False.elim hq⟩
end
end DL
set_option Elab.async false
set_option linter.all false
set_option maxRecDepth 100000
set_option maxHeartbeats 4000000
namespace DL
open PySem PySem.Spec PyProof.Rows L2

def Rc.comp {K : PySem.W.Frag} : Rc K → Rc K → Rc K
  | .here, c' => c'
  | .l c J, c' => .l (c.comp c') J
  | .r J c, c' => .r J (c.comp c')
theorem fill_comp {K : PySem.W.Frag} {I : Iv K} (c' : Rc K) : ∀ c : Rc K, (c.comp c').fill I = c.fill (c'.fill I)
  | .here => rfl
  | .l c J => by show ((c.comp c').fill I).and J = _; rw [fill_comp c' c]; rfl
  | .r J c => by show J.and ((c.comp c').fill I) = _; rw [fill_comp c' c]; rfl
theorem Sub.trans {K : PySem.W.Frag} {I J L : Iv K} (a : Sub I J) (b : Sub J L) : Sub I L := ⟨fun x => (b.F x).trans (a.F x), fun G H h => b.φ G H (a.φ G H h)⟩
theorem Sub.assoc {K : PySem.W.Frag} {I J L : Iv K} : Sub ((I.and J).and L) (I.and (J.and L)) := ⟨fun a => ⟨fun h => h.elim (fun z => .inl (.inl z)) fun z => z.elim (fun z => .inl (.inr z)) .inr, fun h => h.elim (fun z => z.elim .inl fun z => .inr (.inl z)) fun z => .inr (.inr z)⟩,
  fun G H h => ⟨h.1.1, ⟨h.1.2.1, h.2.1, fun a ha => h.2.2 a ⟨.inr ha.1, ha.2⟩⟩, fun a ha => ha.2.elim (fun z => h.1.2.2 a ⟨ha.1, z⟩) fun z => h.2.2 a ⟨.inl ha.1, z⟩⟩⟩
theorem Sub.comm {K : PySem.W.Frag} {I J : Iv K} : Sub (I.and J) (J.and I) := ⟨fun a => ⟨Or.symm, Or.symm⟩, fun G H h => ⟨h.2.1, h.1, fun a ha => h.2.2 a ⟨ha.2, ha.1⟩⟩⟩
section
variable {X : Cx} {W : WX} {R : Rx X.K} {a b e o : Expr} {es : List Expr} {sts : List Stmt} {st : Stmt} {δ : DEnv} {I I' : Iv X.K} {P P' : D → Iv X.K → Prop} {pos p : Pos} {d z : D} {x' : Str} {κ : Ko X.K}
theorem EvX.sub (s : Sub I I') (h : EvX X W R e δ I' P) : EvX X W R e δ I P := fun σ G H Q hE sm hI qx q => h σ G H Q hE sm (hI.sub s) qx q
theorem SX.sub (s : Sub I I') (h : SX X W sts δ I' κ) : SX X W sts δ I κ := fun σ G H E hE sm hI k => h σ G H E hE sm (hI.sub s) k
theorem EvX.reg (h : EvX X W R e δ I P') (k : ∀ d I', P' d I' → ∃ I'', Sub I' I'' ∧ P d I'') : EvX X W R e δ I P := fun σ G H Q hE sm hI qx q => h σ G H Q hE sm hI qx fun v d G' H' I' s1 s2 h1 r p => by
  obtain ⟨I'', s3, p'⟩ := k d I' p
  exact q v d G' H' I'' s1 s2 (h1.sub s3) r p'
theorem SX.eq (e : I = I') (h : SX X W sts δ I' κ) : SX X W sts δ I κ := e ▸ h
theorem ev_lstMM (h : EvA X W R es δ I fun ds I1 => ds.length ≤ 1000 ∧ ∀ p, (∀ a, ¬ (I1.F a ∧ a = p)) → P (.adr p) (I1.and (iLst X.K p ds))) : EvX X W R (.List es pos) δ I P := fun σ G H Q hE s hI qx q =>
  PE.wp (pe_lst paC) (h σ G H _ hE s hI qx fun vs ds G1 H1 I1 s1 t1 h1 r1 ⟨hl, hp⟩ => ⟨by rw [r1.length, sizeLine_eq]; omega, fun p hq => by
    have hg : G1 p = none := t1.free hq
    have na : ∀ a, ¬ (I1.F a ∧ a = p) := fun a ha => h1.dom ha.1 (by rw [ha.2]; exact hq)
    exact q (.ref p) (.adr p) G1 _ (I1.and (iLst X.K p ds)) s1 (same_upd t1 hg) (Hd.mk2 (h1.newp hq) ⟨⟨_, upd_same, vs, rfl, r1⟩, fun a ha => by rw [show a = p from ha]; exact hg⟩ na) rfl (hp p na)⟩)
theorem pv_gint {i : Int} (hm : ∃ t, X.mg x' = some (.int i t)) (hg : Gl X x' := by rfl) (hdb : (x' == ("__debug__" : Str)) = false := by decide) : PV X I (.Name x' pos) δ (.int i) := by
  obtain ⟨t, ht⟩ := hm
  exact pv_g (v := .int i) ht ⟨t, rfl⟩ (fun _ => rfl) hg hdb
theorem pv_gstr {w : Str} (hm : ∃ t, X.mg x' = some (.str w t)) (hg : Gl X x' := by rfl) (hdb : (x' == ("__debug__" : Str)) = false := by decide) : PV X I (.Name x' pos) δ (.str w) := by
  obtain ⟨t, ht⟩ := hm
  exact pv_g (v := .str w) ht ⟨t, rfl⟩ (fun _ => rfl) hg hdb
structure GTup (K : PySem.W.Frag) (mg : Str → Option Value) (x : Str) (ds : List D) : Prop where
  ex : ∃ a vs, mg x = some (.ref a) ∧ flatDs ds = some vs ∧ ∀ G, SqT K G a vs
theorem reps_flat {K : PySem.W.Frag} {G : Hp} : ∀ {ds : List D} {vs : List V}, flatDs ds = some vs → Reps K G ds vs
  | [], vs, h => by
    have e : ([] : List V) = vs := Option.some.inj h
    rw [← e]
    exact rfl
  | d :: ds, vs, h => by
    unfold flatDs at h
    cases h1 : flatD d with
    | none => rw [h1] at h; cases h
    | some u =>
      cases h2 : flatDs ds with
      | none => rw [h1, h2] at h; cases h
      | some us =>
        rw [h1, h2] at h
        have e := Option.some.inj h
        rw [← e]
        refine ⟨u, us, rfl, ?_, reps_flat h2⟩
        cases d <;> first | (cases h1; rfl) | cases h1
theorem pv_gtup {ds : List D} (hm : GTup X.K X.mg x' ds) (hg : Gl X x' := by rfl) (hdb : (x' == ("__debug__" : Str)) = false := by decide) : PV X I (.Name x' pos) δ (.tup ds) := by
  obtain ⟨a, vs, h1, h2, h3⟩ := hm.ex
  exact pv_g (v := .ref a) h1 rfl (fun G => ⟨a, vs, rfl, h3 G, reps_flat h2⟩) hg hdb
theorem pv_gref {a : Addr} (hm : X.mg x' = some (.ref a)) (hg : Gl X x' := by rfl) (hdb : (x' == ("__debug__" : Str)) = false := by decide) : PV X I (.Name x' pos) δ (.adr a) := pv_g (v := .ref a) hm rfl (fun _ => rfl) hg hdb
end
theorem str_or (d : D) {t : String} (h : tyD d = some t) : (∃ s, d = .str s) ∨ (kitB t "str" = some false ∧ ∀ s, d ≠ .str s) := by
  cases d with
  | str s => exact .inl ⟨s, rfl⟩
  | non => cases h; exact .inr ⟨by decide +kernel, fun s z => nomatch z⟩
  | bl b => cases h; exact .inr ⟨by decide +kernel, fun s z => nomatch z⟩
  | int i => cases h; exact .inr ⟨by decide +kernel, fun s z => nomatch z⟩
  | tup _ => cases h; exact .inr ⟨by decide +kernel, fun s z => nomatch z⟩
  | lst _ => cases h; exact .inr ⟨by decide +kernel, fun s z => nomatch z⟩
  | lsf _ => cases h; exact .inr ⟨by decide +kernel, fun s z => nomatch z⟩
  | dic _ _ => cases h; exact .inr ⟨by decide +kernel, fun s z => nomatch z⟩
  | _ => cases h
def sMix {K : PySem.W.Frag} (m : Int) : Spec K := fun I ds P _ => ∃ (ns : List Int) (seed : Int), ds = [.lsf (ns.map D.int), .int seed] ∧ ns.length ≤ 63 ∧ ∀ a b, P (.adr a) (I.and (iDr K a b))
def sNext {K : PySem.W.Frag} : Spec K := fun I ds P _ => ∃ (a b : Addr) (c : Rc K) (n : Int), ds = [.adr a, .int n] ∧ I = c.fill (iDr K a b) ∧ 0 < n ∧ n < 1000000000 ∧ ∀ k : Int, 0 ≤ k → k < n → P (.int k) I
end DL
namespace DL
open PySem PySem.Spec PyProof.Rows L2
section
variable {X : Cx} {W : WX} {R : Rx X.K} {elt tg iter c : Expr} {ifs : List Expr} {scope : Scope} {δ : DEnv} {I : Iv X.K} {pos : Pos} {ds : List D}
theorem take_snoc {α : Type} {l : List α} {i : Nat} {x : α} (h : l[i]? = some x) : l.take (i + 1) = l.take i ++ [x] := by
  have hl := (List.getElem?_eq_some_iff.mp h).1
  rw [List.take_succ, h]
  rfl
theorem m_more (f : D → D) {i : Nat} {d : D} {ys : List D} (hd : ds[i]? = some d) (e : ys = (ds.take i).map f) : ys ++ [f d] = (ds.take (i + 1)).map f := by
  rw [take_snoc hd, List.map_append, ← e]
  rfl
theorem m_end (f : D → D) {ys : List D} (e : ys = (ds.take ds.length).map f) : ys = ds.map f := by
  rw [List.take_length] at e
  exact e
theorem pv_lcMap (f : D → D) (own : List (Str × Nat)) (δ' : D → DEnv) (hi : PVI X I tg iter δ ds) (hz : ds.length ≤ 1000000)
    (hb : ∀ (d : D) (s : Shared) (H : Hp) (C : Addr) (cl : List (Str × Addr)) (fp : List Addr), BindD (X.blk s H scope (compEnvC scope cl C X.env) fp) tg d (wipeD δ (own.map (·.2))) (δ' d) (own.map (·.2)))
    (he : ∀ d, d ∈ ds → ∀ (J : Iv X.K) (s : Shared) (H : Hp) (C : Addr) (cl : List (Str × Addr)) (fp : List Addr), PV (X.blk s H scope (compEnvC scope cl C X.env) fp) (I.and J) elt (δ' d) (f d))
    (hN : X.N.Nodup := by assumption) (ok : blkC X.N X.env.scope scope own = true := by rfl)
    (hc : X.calm = true := by rfl) (hs : ∀ x, foldedSetIterable iter X.env x = pure x := by intro _; rfl) : PV X I (.ListComp elt [⟨tg, iter, [], 0⟩] scope pos) δ (.lst (ds.map f)) := fun W R P p =>
  ev_lc own hN (blkOk_by ok) (hi W R _ ⟨hz, fun i ys => ys = (ds.take i).map f, δ', rfl, fun i d ys hd e => ⟨fun b => b = true, fun J s H C cl fp => ⟨hb d s H C cl fp, ets_nil ⟨rfl, rfl⟩⟩, fun _ J s H C cl fp => he d (List.mem_of_getElem? hd) J s H C cl fp _ _ _ ⟨rfl, m_more f hd e⟩, fun e2 => nomatch (show false = true from e2)⟩, fun ys e => m_end f e ▸ p⟩) hc hs
end
theorem pn_isiT {K : PySem.W.Frag} {I : Iv K} {d : D} {t u : String} (h : tyD d = some t) (hb : kitB t u = some true := by decide +kernel) : PN K I (rIsi K) [d, .ty u] (.bl true) := pn_isi h hb
theorem pn_isiF {K : PySem.W.Frag} {I : Iv K} {d : D} {t u : String} (h : tyD d = some t) (hb : kitB t u = some false) : PN K I (rIsi K) [d, .ty u] (.bl false) := pn_isi h hb
end DL
namespace DL
open PySem PySem.Spec PyProof.Rows L2
section
variable {X : Cx} {W : WX} {a b c : Expr} {rest : List Expr} {sts els : List Stmt} {δ : DEnv} {I : Iv X.K} {pos : Pos} {κ : Ko X.K}
theorem ww_orT (h : PVT X I a δ true) : PVW X I (.BoolOp .Or (a :: b :: rest) pos) δ true := fun W R P p => ew_or (h W R _ p)
theorem ww_orF {k : Bool} (h : PVT X I a δ false) (h2 : PVW X I (.BoolOp .Or (b :: rest) pos) δ k) : PVW X I (.BoolOp .Or (a :: b :: rest) pos) δ k := fun W R P p => ew_or (h W R _ (h2 W R P p))
theorem ww_andF (h : PVT X I a δ false) : PVW X I (.BoolOp .And (a :: b :: rest) pos) δ false := fun W R P p => ew_and (h W R _ p)
theorem pv_andF (h : PV X I a δ (.bl false)) : PV X I (.BoolOp .And (a :: b :: rest) pos) δ (.bl false) := pv_and h (fun z => nomatch z) fun _ => rfl
theorem pv_andT {z : D} (h : PV X I a δ (.bl true)) (h2 : PV X I (.BoolOp .And (b :: rest) pos) δ z) : PV X I (.BoolOp .And (a :: b :: rest) pos) δ z := pv_and h (fun _ => h2) fun z => nomatch z
theorem s_ifT (h : PVT X I c δ true) (h1 : SX X W sts δ I κ) : S1 X W (.If c sts els pos) δ I κ := s_ifP h (fun _ => h1) fun z => nomatch z
theorem s_ifF (h : PVT X I c δ false) (h1 : SX X W els δ I κ) : S1 X W (.If c sts els pos) δ I κ := s_ifP h (fun z => nomatch z) fun _ => h1
end
end DL
set_option Elab.async false
set_option linter.all false
set_option maxRecDepth 100000
set_option maxHeartbeats 4000000
namespace DL
open PySem PySem.Spec PyProof.Rows L2

def oeB (K : PySem.W.Frag) (C : Addr) : Bool := (match K.lookup C with
  | some ⟨.type "type", _, .cls cd, sl⟩ => (match cd.mro, sl.toList with
    | .ref C' :: bm, [_, _, _, _, some (.builtin n), _] => C' == C && n == "ValueError.__new__" && !cd.hasDel && cd.hasDict && HandSPX.refsVE bm
    | _, _ => false)
  | _ => false) && He.eqO (PySem.W.findIn K (.ref C) "__setattr__") (some (some (.builtin "object.__setattr__"))) && decide (PySem.W.subIn K (.ref C) (.type "BaseException") = some true) && decide (PySem.W.typeIn K (.ref C) = some (.type "type")) && PySem.W.keepIn K (.ref C)
theorem oeB_ok {K : PySem.W.Frag} {C : Addr} (h : oeB K C = true) : OexC K C := by
  unfold oeB at h
  obtain ⟨h, h5⟩ := Bool.and_eq_true_iff.mp h
  obtain ⟨h, h4⟩ := Bool.and_eq_true_iff.mp h
  obtain ⟨h, h3⟩ := Bool.and_eq_true_iff.mp h
  obtain ⟨h1, h2⟩ := Bool.and_eq_true_iff.mp h
  refine ⟨?_, He.eqO_ok h2, of_decide_eq_true h3, of_decide_eq_true h4, h5⟩
  split at h1
  · rename_i dd cd sl e
    split at h1
    · rename_i C' bm k0 k1 k2 k3 n k5 em es
      simp only [Bool.and_eq_true, beq_iff_eq, Bool.not_eq_true'] at h1
      obtain ⟨⟨⟨⟨e1, e2⟩, e3⟩, e4⟩, e5⟩ := h1
      obtain ⟨nm, bs, mro, ns, qn, hd, sn, sb, ab, col, del⟩ := cd
      dsimp only at em e3 e4
      subst e1 e2 e3 e4 em
      have esl : sl = #[k0, k1, k2, k3, some (.builtin "ValueError.__new__"), k5] := by
        apply Array.ext'
        rw [es]
      subst esl
      exact ⟨_, _, _, _, bm, _, _, _, _, _, _, _, _, _, _, e, e5⟩
    · cases h1
  · cases h1
def scB (K : PySem.W.Frag) (C : Addr) : Bool := PySem.W.plainGet K C Str.empty && PySem.W.isClsIn K C && PySem.W.plainOver K C && He.eqO (PySem.W.findIn K (.ref C) "__setattr__") (some (some (.builtin "object.__setattr__")))
theorem scB_ok {K : PySem.W.Frag} {C : Addr} (h : scB K C = true) : SlX.SCls K C := by
  obtain ⟨h, h4⟩ := Bool.and_eq_true_iff.mp h
  obtain ⟨h, h3⟩ := Bool.and_eq_true_iff.mp h
  obtain ⟨h1, h2⟩ := Bool.and_eq_true_iff.mp h
  exact ⟨h1, h2, h3, He.eqO_ok h4⟩
def slB (K : PySem.W.Frag) (C : Addr) (f : Str) (i : Nat) : Bool := He.eqO (PySem.W.findIn K (.ref C) f) (some (some (.ref (He.ma K C f)))) && He.eqO (PySem.W.specialIn K (.ref (He.ma K C f)) "__get__") (some (some (.builtin "member_descriptor.__get__"))) &&
  decide (PySem.W.takesIn K (.ref (He.ma K C f)) = some true) && decide (PySem.W.typeIn K (.ref (He.ma K C f)) = some (.type "member_descriptor")) && decide (PySem.W.slotIn K (He.ma K C f) C = some i) && decide (i < 1000)
theorem slB_ok {K : PySem.W.Frag} {C : Addr} {f : Str} {i : Nat} (h : slB K C f i = true) : SlX.Slot1 K C f (He.ma K C f) i := by
  obtain ⟨h, h6⟩ := Bool.and_eq_true_iff.mp h
  obtain ⟨h, h5⟩ := Bool.and_eq_true_iff.mp h
  obtain ⟨h, h4⟩ := Bool.and_eq_true_iff.mp h
  obtain ⟨h, h3⟩ := Bool.and_eq_true_iff.mp h
  obtain ⟨h1, h2⟩ := Bool.and_eq_true_iff.mp h
  exact ⟨He.eqO_ok h1, He.eqO_ok h2, of_decide_eq_true h3, of_decide_eq_true h4, of_decide_eq_true h5, of_decide_eq_true h6⟩
structure TExc (K : PySem.W.Frag) (mg : Str → Option Value) (x : Str) : Prop where
  g : mg x = some (.ref (He.ga K x))
  oe : OexC K (He.ga K x)
  iC : PySem.W.findIn K (.ref (He.ga K x)) "__init__" = some (some (.ref (He.ma K (He.ga K x) "__init__")))
  tI : PySem.W.typeIn K (.ref (He.ma K (He.ga K x) "__init__")) = some (.type "function")
def exB (K : PySem.W.Frag) (x : Str) : Bool := He.eqO (PySem.W.nsIn K mainGlobals x) (some (some (.ref (He.ga K x)))) && oeB K (He.ga K x) && He.eqO (PySem.W.findIn K (.ref (He.ga K x)) "__init__") (some (some (.ref (He.ma K (He.ga K x) "__init__")))) && decide (PySem.W.typeIn K (.ref (He.ma K (He.ga K x) "__init__")) = some (.type "function"))
theorem exB_ok {K : PySem.W.Frag} {h : Heap} {mg : Str → Option Value} (X : K.In h) (G : h.Ns mainGlobals mg) {x : Str} (q : exB K x = true) : TExc K mg x := by
  obtain ⟨q, h4⟩ := Bool.and_eq_true_iff.mp q
  obtain ⟨q, h3⟩ := Bool.and_eq_true_iff.mp q
  obtain ⟨h1, h2⟩ := Bool.and_eq_true_iff.mp q
  exact ⟨PySem.W.mg_of X G (He.eqO_ok h1), oeB_ok h2, He.eqO_ok h3, of_decide_eq_true h4⟩
theorem gtup_of {K : PySem.W.Frag} {h : Heap} {mg : Str → Option Value} (X : K.In h) (G : h.Ns mainGlobals mg) {x : Str} {ds : List D} {vs : List He.Dv} (q : He.tupB K x vs = true) (g : He.eqO (PySem.W.nsIn K mainGlobals x) (some (some (.ref (He.ga K x)))) = true) (e : flatDs ds = some (vs.map (He.Dv.v K))) : GTup K mg x ds :=
  ⟨_, _, PySem.W.mg_of X G (He.eqO_ok g), e, fun H => He.tupB_ok q H⟩
theorem flatDs_str : ∀ ws : List Str, flatDs (ws.map D.str) = some (ws.map V.str)
  | [] => rfl
  | w :: ws => by
    have ih := flatDs_str ws
    show (match flatD (D.str w), flatDs (ws.map D.str) with | some v, some vs => some (v :: vs) | _, _ => none) = _
    rw [ih]
    rfl
theorem inV_str (s : Str) : ∀ ws : List Str, inV (.str s) (ws.map V.str) = decide (s ∈ ws)
  | [] => by simp [inV]
  | w :: ws => by
    have ih := inV_str s ws
    unfold inV at ih ⊢
    rw [List.map_cons, List.any_cons, ih]
    show (w == s || decide (s ∈ ws)) = decide (s ∈ w :: ws)
    by_cases h : w = s
    · subst h; simp
    · have h2 : ¬ s = w := fun e => h e.symm
      simp [h, h2]
theorem allflat_str (ws : List Str) : (ws.map V.str).all flatV = true := by
  rw [List.all_map]
  exact List.all_eq_true.mpr fun _ _ => rfl
theorem p2_inStr {K : PySem.W.Frag} {I : Iv K} {s : Str} {ws : List Str} : P2 K I (rIn K false) (.str s) (.tup (ws.map D.str)) (.bl (decide (s ∈ ws))) :=
  p2_in rfl (flatDs_str ws) rfl (allflat_str ws) (by rw [if_neg Bool.false_ne_true]; exact inV_str s ws) (.inr rfl)
theorem p2_ninStr {K : PySem.W.Frag} {I : Iv K} {s : Str} {ws : List Str} : P2 K I (rIn K true) (.str s) (.tup (ws.map D.str)) (.bl (!decide (s ∈ ws))) :=
  p2_in rfl (flatDs_str ws) rfl (allflat_str ws) (by rw [if_pos rfl, inV_str s ws]) (.inr rfl)
theorem p2_inStrL {K : PySem.W.Frag} {I : Iv K} {s : Str} {ws : List Str} : P2 K I (rIn K false) (.str s) (.lst (ws.map D.str)) (.bl (decide (s ∈ ws))) :=
  p2_in rfl (flatDs_str ws) rfl (allflat_str ws) (by rw [if_neg Bool.false_ne_true]; exact inV_str s ws) (.inl rfl)
theorem p2_ninStrL {K : PySem.W.Frag} {I : Iv K} {s : Str} {ws : List Str} : P2 K I (rIn K true) (.str s) (.lst (ws.map D.str)) (.bl (!decide (s ∈ ws))) :=
  p2_in rfl (flatDs_str ws) rfl (allflat_str ws) (by rw [if_pos rfl, inV_str s ws]) (.inl rfl)
end DL
namespace DL
open PySem PySem.Spec PyProof.Rows L2
structure Def (P : Program) (w : World) (K : PySem.W.Frag) (mg : Str → Option Value) (base : Heap) (x : Str) (k : Nat) (ps : List Str) (dds : List D) (S : Spec K) : Prop where
  ex : ∃ (f : Addr) (fd : FuncData) (dvs : List V) (us : List Value), mg x = some (.ref f) ∧ PySem.W.keepIn K (.ref f) = true ∧ FnOk P w K mg base (L2.CX P w) k f fd ps (spD K S) ∧ L2.Binds K fd ps us ∧ Vals dvs us ∧ ∀ G, Reps K G dds dvs
section
variable {P : Program} {w : World} {K : PySem.W.Frag} {mg : Str → Option Value} {base : Heap} {x qual : Str} {params : Arguments} {body : List Stmt} {scope : Scope} {f : Addr} {fd : FuncData} {ps : List Str} {k : Nat} {S : Spec K}
theorem Def.of (g : mg x = some (.ref f)) (F : FunD K x qual params body scope [] [] f fd) (ok : FnOk P w K mg base (L2.CX P w) k f fd ps (spD K S))
    (h : ∀ (kV doc pm : Value) (an : Option Addr) (cdv ct : Value) (us : List Value), us.length = ps.length → bindArgs (PySem.W.fnOf x qual params body scope .none kV doc pm an cdv ct) ⟨us, []⟩ = pure (ps.zip us)) : Def P w K mg base x k ps [] S :=
  ⟨f, fd, [], [], g, F.kp, ok, F.bindsN h, .nil, fun _ => rfl⟩
end
section
variable {X : Cx} {W : WX} {R : Rx X.K} {e : Expr} {es : List Expr} {δ : DEnv} {I : Iv X.K} {P : D → Iv X.K → Prop} {pos p : Pos} {x : Str} {ps : List Str} {k : Nat} {S : Spec X.K} {dds : List D} {ds : List D} {d : D}
theorem ev_def (tk : Takes X W) (F : Def X.prog X.w X.K X.mg X.base x k ps dds S) (hr : Room k X.A) (h : EvA X W R (e :: es) δ I fun ds I1 => S I1 (ds ++ dds) P R) (hg : Gl X x := by rfl) (hdb : (x == ("__debug__" : Str)) = false := by decide)
    (he : starEach (e :: es) X.env = (false, eval e X.env) :: starEach es X.env := by rfl) (hpl : (backTo pos (starEach es X.env)).any (·.1) = false := by rfl) : EvX X W R (.Call (.Name x p) (e :: es) [] pos) δ I P := by
  obtain ⟨f, fd, dvs, us, g, kp, ok, b, v, r⟩ := F.ex
  exact ev_callD tk ok hr g kp b v r h hg hdb he hpl
theorem pv_def (F : Def X.prog X.w X.K X.mg X.base x k ps dds S) (hr : Room k X.A) (ha : PVA X I (e :: es) δ ds) (hS : ∀ (P : D → Iv X.K → Prop), P d I → S I (ds ++ dds) P (fun _ _ _ => False)) (hg : Gl X x := by rfl) (hdb : (x == ("__debug__" : Str)) = false := by decide)
    (he : starEach (e :: es) X.env = (false, eval e X.env) :: starEach es X.env := by rfl) (hpl : (backTo pos (starEach es X.env)).any (·.1) = false := by rfl) : PV X I (.Call (.Name x p) (e :: es) [] pos) δ d := by
  obtain ⟨f, fd, dvs, us, g, kp, ok, b, v, r⟩ := F.ex
  exact pv_callD ok hr g kp b v r ha hS hg hdb he hpl
end
end DL
namespace DL
open PySem PySem.Spec PyProof.Rows L2
section
variable {X : Cx} {W : WX} {R : Rx X.K} {e : Expr} {es : List Expr} {δ : DEnv} {I : Iv X.K} {P : D → Iv X.K → Prop} {d : D} {ds : List D}
theorem PV.ev (h : PV X I e δ d) (p : P d I) : EvX X W R e δ I P := h W R P p
theorem PVA.ev {P : List D → Iv X.K → Prop} (h : PVA X I es δ ds) (p : P ds I) : EvA X W R es δ I P := h W R P p
theorem PVT.ev {P : Bool → Iv X.K → Prop} {b : Bool} (h : PVT X I e δ b) (p : P b I) : EvT X W R e δ I P := h W R P p
end
end DL
namespace DL
open PySem PySem.Spec PyProof.Rows L2
section
variable {X : Cx} {W : WX} {R : Rx X.K} {e : Expr} {es : List Expr} {δ : DEnv} {I : Iv X.K} {P : D → Iv X.K → Prop} {d : D} {ds : List D}
theorem ev_reg (h : EvX X W R e δ I fun d I' => ∃ I'', Sub I' I'' ∧ P d I'') : EvX X W R e δ I P := EvX.reg h fun _ _ z => z
theorem iDr_of2 {K : PySem.W.Frag} {J : Iv K} {a b : Addr} {s k m : Int} {ns : List Int} (hl : ns.length ≤ 63) : Sub ((J.and (iLst K b (ns.map D.int))).and (iLst K a [.int s, .adr b, .int k, .int m])) (J.and (iDr K a b)) :=
  Sub.assoc.trans (Sub.andR (Sub.comm.trans (iDr_of hl)))
end
end DL
set_option Elab.async false
set_option linter.all false
set_option maxRecDepth 100000
set_option maxHeartbeats 4000000
namespace DL
open PySem PySem.Spec PyProof.Rows L2

theorem str_ext {s t : Str} (h : s.cps.toList = t.cps.toList) : s = t := by
  obtain ⟨a⟩ := s
  obtain ⟨b⟩ := t
  exact congrArg Str.mk (Array.ext' h)
theorem str_app (s t : Str) : (s ++ t).cps.toList = s.cps.toList ++ t.cps.toList := by
  show (s.cps ++ t.cps).toList = _
  simp
theorem str_len (s : Str) : s.length = s.cps.toList.length := by
  show s.cps.size = _
  simp
def one (c : Nat) : Str := ⟨#[c]⟩
theorem join_ones (e : Str) (he : e.cps.toList = []) : ∀ cs : List Nat, Txt.join e (cs.map one) = ⟨cs.toArray⟩ := by
  intro cs
  rw [TL.join_eq]
  induction cs with
  | nil => rfl
  | cons c cs ih =>
    cases cs with
    | nil => rfl
    | cons d ds =>
      have e1 : Str.join e ((c :: d :: ds).map one) = one c ++ e ++ Str.join e ((d :: ds).map one) := by
        first
          | rfl
          | (simp only [List.map_cons, Str.join]; rfl)
      rw [e1, ih]
      apply str_ext
      rw [str_app, str_app, he]
      show [c] ++ [] ++ _ = _
      simp
section
variable {X : Cx} {W : WX} {R : Rx X.K} {e e0 e1 : Expr} {es : List Expr} {δ : DEnv} {I : Iv X.K} {P : D → Iv X.K → Prop} {d : D} {ds : List D} {pos p : Pos} {a b : Addr} {n k : Int} {K : PySem.W.Frag}
theorem o2_ixL {K : PySem.W.Frag} {I : Iv K} {P : D → Iv K → Prop} {ds : List D} {k : Int} (h0 : 0 ≤ k) (h1 : k < ds.length) (hp : ∀ d ∈ ds, P d I) : Op2 K (rIxL K) (.lst ds) (.int k) I P := by
  obtain ⟨j, rfl⟩ : ∃ j : Nat, k = j := ⟨k.toNat, by omega⟩
  have hj : j < ds.length := by omega
  exact p2_ixL (d := ds[j]) (by unfold atI ixN; rw [if_pos h0, if_pos h1]; simp [hj]) P (hp _ (List.getElem_mem hj))
theorem ev_next {x : Str} (tk : Takes X W) (F : Def X.prog X.w X.K X.mg X.base x 1 ["_law_h", "_law_bound"] [] sNext) (hr : Room 1 X.A) (c : Rc X.K) (h0 : PV X I e0 δ (.adr a)) (h1 : EvX X W R e1 δ I fun d I1 => ∃ n, d = .int n ∧ I1 = I ∧ 0 < n ∧ n < 1000000000 ∧ ∀ k : Int, 0 ≤ k → k < n → P (.int k) I) (eI : I = c.fill (iDr X.K a b))
    (hg : Gl X x := by rfl) (hdb : (x == ("__debug__" : Str)) = false := by decide)
    (he : starEach [e0, e1] X.env = (false, eval e0 X.env) :: starEach [e1] X.env := by rfl) (he2 : starEach [e1] X.env = (false, eval e1 X.env) :: starEach [] X.env := by rfl) (hpl : (backTo pos (starEach [e1] X.env)).any (·.1) = false := by rfl) : EvX X W R (.Call (.Name x p) [e0, e1] [] pos) δ I P :=
  ev_def tk F hr (ea_cons (h0.ev (ea_cons (h1.imp fun d I1 ⟨n, ed, ei, n0, n1, k⟩ => by
    subst ed
    rw [ei]
    exact ea_nil ⟨a, b, c, n, rfl, eI, n0, n1, k⟩) he2)) he) hg hdb he hpl
theorem ev_nextP {x : Str} (tk : Takes X W) (F : Def X.prog X.w X.K X.mg X.base x 1 ["_law_h", "_law_bound"] [] sNext) (hr : Room 1 X.A) (c : Rc X.K) (h0 : PV X I e0 δ (.adr a)) (h1 : PV X I e1 δ (.int n)) (eI : I = c.fill (iDr X.K a b)) (hn : 0 < n ∧ n < 1000000000) (k : ∀ k : Int, 0 ≤ k → k < n → P (.int k) I)
    (hg : Gl X x := by rfl) (hdb : (x == ("__debug__" : Str)) = false := by decide)
    (he : starEach [e0, e1] X.env = (false, eval e0 X.env) :: starEach [e1] X.env := by rfl) (he2 : starEach [e1] X.env = (false, eval e1 X.env) :: starEach [] X.env := by rfl) (hpl : (backTo pos (starEach [e1] X.env)).any (·.1) = false := by rfl) : EvX X W R (.Call (.Name x p) [e0, e1] [] pos) δ I P :=
  ev_next tk F hr c h0 (h1.ev ⟨n, rfl, rfl, hn.1, hn.2, k⟩) eI hg hdb he he2 hpl
end
end DL
set_option Elab.async false
set_option linter.all false
set_option maxRecDepth 100000
set_option maxHeartbeats 4000000
namespace DL
open PySem PySem.Spec PyProof.Rows L2
section
variable {X : Cx} {W : WX} {R : Rx X.K} {st : Stmt} {rest sts els : List Stmt} {δ : DEnv} {I : Iv X.K} {κ : Ko X.K} {c a b : Expr} {pos : Pos} {PB : Bool → Iv X.K → Prop}
theorem s_consI (Nv : DEnv → Iv X.K → Prop) (h : S1 X W st δ I { κ with nx := Nv }) (k : ∀ δ' I', Nv δ' I' → SX X W rest δ' I' κ) : SX X W (st :: rest) δ I κ :=
  s_cons (S1.imp h (fun δ' I' p => k δ' I' p) (fun _ _ z => z) (fun _ _ z => z) (fun _ _ z => z) (fun _ _ _ _ z => z))
end
def xcB (K : PySem.W.Frag) (C : Addr) : Bool := He.eqO (PySem.W.findIn K (.ref C) "__getattribute__") (some (some (.builtin "BaseException.__getattribute__"))) && He.eqO (PySem.W.findIn K (.ref C) "__getattr__") (some none) && decide (PySem.W.subIn K (.ref C) (.type "BaseException") = some true) && PySem.W.hasDictIn K C &&
  He.eqO (PySem.W.findIn K (.ref C) "__class__") (some (some (.builtin "object.__class__"))) && He.eqO (PySem.W.specialIn K (.builtin "object.__class__") "__get__") (some (some (.builtin "getset_descriptor.__get__"))) && decide (PySem.W.takesIn K (.builtin "object.__class__") = some true) && decide (PySem.W.mroIn K C (.type "object") = some true)
theorem xcB_ok {K : PySem.W.Frag} {C : Addr} (h : xcB K C = true) : ExcC K C := by
  obtain ⟨h, h8⟩ := Bool.and_eq_true_iff.mp h
  obtain ⟨h, h7⟩ := Bool.and_eq_true_iff.mp h
  obtain ⟨h, h6⟩ := Bool.and_eq_true_iff.mp h
  obtain ⟨h, h5⟩ := Bool.and_eq_true_iff.mp h
  obtain ⟨h, h4⟩ := Bool.and_eq_true_iff.mp h
  obtain ⟨h, h3⟩ := Bool.and_eq_true_iff.mp h
  obtain ⟨h1, h2⟩ := Bool.and_eq_true_iff.mp h
  exact ⟨He.eqO_ok h1, He.eqO_ok h2, of_decide_eq_true h3, h4, He.eqO_ok h5, He.eqO_ok h6, of_decide_eq_true h7, of_decide_eq_true h8⟩
structure TXf (K : PySem.W.Frag) (C : Addr) : Prop where
  xf : XfC K C
  xc : ExcC K C
def txB (K : PySem.W.Frag) (C : Addr) : Bool := xfB K C && xcB K C
theorem txB_ok {K : PySem.W.Frag} {C : Addr} (h : txB K C = true) : TXf K C := by
  obtain ⟨h1, h2⟩ := Bool.and_eq_true_iff.mp h
  exact ⟨xfB_ok h1, xcB_ok h2⟩
theorem namesG {X : Cx} {x : Str} {c : Value} (hm : X.mg x = some c) (hg : Gl X x := by rfl) (hdb : (x == ("__debug__" : Str)) = false := by decide) : Names X x c := ⟨hg, hdb, .inl hm⟩
end DL
set_option Elab.async false
set_option linter.all false
set_option maxRecDepth 100000
set_option maxHeartbeats 4000000
namespace DL
open PySem PySem.Spec PyProof.Rows L2
section
variable {X : Cx} {W : WX} {R : Rx X.K} {e e0 e1 l : Expr} {es : List Expr} {δ : DEnv} {I : Iv X.K} {P : D → Iv X.K → Prop} {PB : Bool → Iv X.K → Prop} {d : D} {ds : List D} {pos p ps : Pos} {a b : Addr} {n k m : Int} {x : Str} {c : Rc X.K} {κ : Ko X.K} {sts els : List Stmt}
theorem ev_pick (tk : Takes X W) (F : Def X.prog X.w X.K X.mg X.base x 1 ["_law_h", "_law_bound"] [] sNext) (hr : Room 1 X.A) (c : Rc X.K) (hl : PV X I l δ (.lst ds)) (h0 : PV X I e0 δ (.adr a)) (h1 : EvX X W R e1 δ I fun d I1 => ∃ n : Int, d = .int n ∧ I1 = I ∧ 0 < n ∧ n < 1000000000 ∧ n ≤ ds.length) (eI : I = c.fill (iDr X.K a b)) (k : ∀ d ∈ ds, P d I)
    (hg : Gl X x := by rfl) (hdb : (x == ("__debug__" : Str)) = false := by decide)
    (he : starEach [e0, e1] X.env = (false, eval e0 X.env) :: starEach [e1] X.env := by rfl) (he2 : starEach [e1] X.env = (false, eval e1 X.env) :: starEach [] X.env := by rfl) (hpl : (backTo pos (starEach [e1] X.env)).any (·.1) = false := by rfl) (hs : PlainIx (.Call (.Name x p) [e0, e1] [] pos) := by exact fun _ _ => rfl) : EvX X W R (.Subscript l (.Call (.Name x p) [e0, e1] [] pos) ps) δ I P :=
  ev_ix ix_list (hl.ev (ev_next tk F hr c h0 (h1.imp fun d I1 ⟨n, ed, ei, n0, n1, n2⟩ => ⟨n, ed, ei, n0, n1, fun k' k0 k1 => o2_ixL k0 (by omega) k⟩) eI hg hdb he he2 hpl)) hs
end
end DL
set_option Elab.async false
set_option linter.all false
set_option maxRecDepth 100000
set_option maxHeartbeats 4000000
namespace DL
open PySem PySem.Spec PyProof.Rows L2
theorem repsInt {K : PySem.W.Frag} {G : Hp} : ∀ ns : List Int, Reps K G (ns.map D.int) (ns.map V.int)
  | [] => rfl
  | n :: ns => ⟨.int n, ns.map V.int, rfl, rfl, repsInt ns⟩
theorem cx0 {P : Program} {w : World} {H : Hp} {s s' : Shared} {e : Value} (z : L2.CX P w [] H s (fun _ _ _ => False) e s') : False := by
  obtain ⟨_, _, _, _, _, _, _, _, _, _, _, _, h⟩ := z
  exact h
section
variable {X : Cx} {W : WX} {st : Stmt} {rest : List Stmt} {κ : Ko X.K}
end
end DL
set_option Elab.async false
set_option linter.all false
set_option maxRecDepth 100000
set_option maxHeartbeats 1000000
namespace DL
open PySem PySem.Spec PyProof.Rows L2

mutual
def pyD : D → PyData
  | .bl b => .bool b
  | .int i => .int i
  | .str s => .str s
  | .tup ds => .tuple (pyDs ds)
  | .lst ds => .list (pyDs ds)
  | .lsf ds => .list (pyDs ds)
  | _ => .none
def pyDs : List D → List PyData
  | [] => []
  | d :: ds => pyD d :: pyDs ds
end
mutual
def okPy : D → Bool
  | .non => true
  | .bl _ => true
  | .int _ => true
  | .str _ => true
  | .tup ds => okPys ds
  | .lst ds => okPys ds
  | .lsf ds => okPys ds
  | _ => false
def okPys : List D → Bool
  | [] => true
  | d :: ds => okPy d && okPys ds
end
mutual
theorem dp_of {K : PySem.W.Frag} {G H : Hp} (s : Same G H) : ∀ {d : D} {v : V}, okPy d = true → Rep K G d v → Dp K H v (pyD d)
  | .non, _, _, r => by rw [show _ = V.non from r]; exact .non
  | .bl b, _, _, r => by rw [show _ = V.bl b from r]; exact .bl b
  | .int i, _, _, r => by rw [show _ = V.int i from r]; exact .int i
  | .str x, _, _, r => by rw [show _ = V.str x from r]; exact .str x
  | .tup ds, _, h, ⟨a, vs, e1, e2, e3⟩ => by rw [e1]; exact .tup (sqT_mono s e2) (dps_of s h e3)
  | .lst ds, _, h, ⟨a, vs, e1, e2, e3⟩ => by rw [e1]; exact .lst (SqL.of (s _ _ e2)) (dps_of s h e3)
  | .lsf ds, _, h, ⟨a, vs, e1, e2, e3⟩ => by rw [e1]; exact .lst (sqL_mono s e2) (dps_of s h e3)
  | .ty _, _, h, _ => by cases h
  | .adr _, _, h, _ => by cases h
  | .slo _ _, _, h, _ => by cases h
  | .exc _ _ _ _ _, _, h, _ => by cases h
  | .dic _ _, _, h, _ => by cases h
  | .tub _, _, h, _ => by cases h
theorem dps_of {K : PySem.W.Frag} {G H : Hp} (s : Same G H) : ∀ {ds : List D} {vs : List V}, okPys ds = true → Reps K G ds vs → DpAll K H vs (pyDs ds)
  | [], _, _, r => by rw [show _ = [] from r]; exact .nil
  | d :: ds, _, h, ⟨v, r, e1, e2, e3⟩ => by
    have h2 : (okPy d && okPys ds) = true := h
    obtain ⟨ha, hb⟩ := Bool.and_eq_true_iff.mp h2
    rw [e1]
    exact .cons (dp_of s ha e2) (dps_of s hb e3)
end
def okEq (d : D) : Bool := okPy d && SeqAt.shaped (pyD d)
section
variable {K : PySem.W.Frag} {I : Iv K} {x y z d : D}
theorem p2_eqD (hx : okEq x = true) (hy : okEq y = true) : P2 K I (rEqD K) x y (.bl (PyData.eqv (pyD x) (pyD y))) := fun P p G H v w Q s hI r1 r2 q => by
  obtain ⟨a1, a2⟩ := Bool.and_eq_true_iff.mp hx
  obtain ⟨b1, b2⟩ := Bool.and_eq_true_iff.mp hy
  exact ⟨_, _, dp_of s a1 r1, dp_of s b1 r2, a2, b2, q _ (.bl _) G H I (Same.refl G) s hI rfl p⟩
theorem p2_neD (hx : okEq x = true) (hy : okEq y = true) : P2 K I (rNeD K) x y (.bl (!PyData.eqv (pyD x) (pyD y))) := fun P p G H v w Q s hI r1 r2 q => by
  obtain ⟨a1, a2⟩ := Bool.and_eq_true_iff.mp hx
  obtain ⟨b1, b2⟩ := Bool.and_eq_true_iff.mp hy
  exact ⟨_, _, dp_of s a1 r1, dp_of s b1 r2, a2, b2, q _ (.bl _) G H I (Same.refl G) s hI rfl p⟩
end
structure PropC (K : PySem.W.Frag) (C : Addr) (f : Str) (p g : Addr) : Prop where
  at_ : PySem.W.findIn K (.ref C) f = some (some (.ref p))
  get : PySem.W.specialIn K (.ref p) "__get__" = some (some (.builtin "property.__get__"))
  tk : PySem.W.takesIn K (.ref p) = some true
  rc : ∃ rest, PySem.W.recIn K p "property" = some (.ref g :: rest)
def gtr (K : PySem.W.Frag) (C : Addr) (f : Str) : Addr := match PySem.W.recIn K (He.ma K C f) "property" with
  | some (.ref g :: _) => g
  | _ => 0
def prB (K : PySem.W.Frag) (C : Addr) (f : Str) : Bool := He.eqO (PySem.W.findIn K (.ref C) f) (some (some (.ref (He.ma K C f)))) && He.eqO (PySem.W.specialIn K (.ref (He.ma K C f)) "__get__") (some (some (.builtin "property.__get__"))) && decide (PySem.W.takesIn K (.ref (He.ma K C f)) = some true) &&
  (match PySem.W.recIn K (He.ma K C f) "property" with
  | some (.ref g :: _) => true
  | _ => false)
theorem prB_ok {K : PySem.W.Frag} {C : Addr} {f : Str} (h : prB K C f = true) : PropC K C f (He.ma K C f) (gtr K C f) := by
  obtain ⟨h, h4⟩ := Bool.and_eq_true_iff.mp h
  obtain ⟨h, h3⟩ := Bool.and_eq_true_iff.mp h
  obtain ⟨h1, h2⟩ := Bool.and_eq_true_iff.mp h
  refine ⟨He.eqO_ok h1, He.eqO_ok h2, of_decide_eq_true h3, ?_⟩
  unfold gtr
  split at h4
  · rename_i g r e
    rw [e]
    exact ⟨r, rfl⟩
  · cases h4
def siB (K : PySem.W.Frag) (C : Addr) : Bool := He.eqO (PySem.W.findIn K (.ref C) "__class__") (some (some (.builtin "object.__class__"))) && He.eqO (PySem.W.specialIn K (.builtin "object.__class__") "__get__") (some (some (.builtin "getset_descriptor.__get__"))) && decide (PySem.W.takesIn K (.builtin "object.__class__") = some true) && decide (PySem.W.mroIn K C (.type "object") = some true)
theorem siB_ok {K : PySem.W.Frag} {C : Addr} (h : siB K C = true) : SlX.SIsi K C := by
  obtain ⟨h, h4⟩ := Bool.and_eq_true_iff.mp h
  obtain ⟨h, h3⟩ := Bool.and_eq_true_iff.mp h
  obtain ⟨h1, h2⟩ := Bool.and_eq_true_iff.mp h
  exact ⟨He.eqO_ok h1, He.eqO_ok h2, of_decide_eq_true h3, of_decide_eq_true h4⟩
abbrev F0 {K : PySem.W.Frag} : Rx K := fun _ _ _ => False
theorem cxF {P : Program} {w : World} {outer : List Env} {H : Hp} {s s' : Shared} {e : Value} (z : L2.CX P w outer H s (fun _ _ _ => False) e s') : False := by
  obtain ⟨_, _, _, _, _, _, _, _, _, _, _, _, h⟩ := z
  exact h
theorem spD_of {K : PySem.W.Frag} {S : Spec K} {I : Iv K} {G H : Hp} {ds : List D} {vs : List V} {Q : VK} {P : D → Iv K → Prop} (s : Same G H) (h : Hd I G H) (r : Reps K G ds vs) (k : S I ds P F0) (q : Kv K Q G P) : spD K S vs H Q (fun _ _ _ => False) :=
  ⟨I, G, ds, P, F0, s, h, r, k, q, fun _ _ _ _ _ _ _ _ _ _ _ _ z => z⟩
section
variable {X : Cx} {W : WX} {R : Rx X.K} {I : Iv X.K} {e a b : Expr} {δ : DEnv} {pos : Pos} {C p g : Addr} {f : Str} {n : Nat} {S : Spec X.K} {fs : List D} {d d2 : D} {P : D → Iv X.K → Prop}
theorem pv_prop (c : SlX.SCls X.K C) (pr : PropC X.K C f p g) (F : FnR X.prog X.w X.K X.mg X.base (L2.CX X.prog X.w) n g (spD X.K S)) (hr : Room (n + 1) X.A) (he : PV X I e δ (.slo C fs)) (hS : ∀ P : D → Iv X.K → Prop, P d I → S I [.slo C fs] P F0)
    (hb : attributeBase e f X.env (eval e X.env) = eval e X.env := by rfl) : PV X I (.Attribute e f pos) δ d := fun W R P pp σ G H Q hE s hI qx q =>
  PE.wp (SlX.pe_propSl (E := fun _ _ _ => False) peC c pr.at_ pr.get pr.tk pr.rc F hr (fun _ _ _ _ z => cxF z) hb) (he W R (fun z I1 => z = .slo C fs ∧ I1 = I) ⟨rfl, rfl⟩ σ G H _ hE s hI qx fun v d1 G1 H1 I1 s1 t1 h1 r1 ⟨ed, ei⟩ => by
    subst ed ei
    obtain ⟨a, dx, vs, e1, e2, e3⟩ := r1
    exact ⟨a, dx, vs.map some, e1, slt_mono t1 e2, spD_of (ds := [.slo C fs]) t1 h1 ⟨.ref a, [], rfl, ⟨a, dx, vs, rfl, e2, e3⟩, rfl⟩ (hS P pp) (q.mono s1)⟩)
theorem p2_own {C' : Addr} {gs : List D} {z : D} (hn : PySem.W.notFirst X.K C (.ref C') = true) (hS : ∀ P : D → Iv X.K → Prop, P z I → S I [.slo C fs, .slo C' gs] P F0) : P2 X.K I (SlX.rOwn X.K C (spD X.K S) (fun _ _ _ => False)) (.slo C fs) (.slo C' gs) z := fun P pp G H v w Q s hI ⟨a, dx, ws, e2, e3, e4⟩ ⟨b, dy, us, k2, k3, k4⟩ q =>
  ⟨a, dx, ws.map some, b, C', dy, us.map some, e2, k2, slt_mono s e3, slt_mono s k3, hn, spD_of (ds := [.slo C fs, .slo C' gs]) s hI ⟨v, [w], rfl, ⟨a, dx, ws, e2, e3, e4⟩, w, [], rfl, ⟨b, dy, us, k2, k3, k4⟩, rfl⟩ (hS P pp) q⟩
theorem takesPF : Passes (L2.CX X.prog X.w) X (fun _ _ _ => False) := fun _ _ _ _ _ _ _ z => (cxF z).elim
end
section
variable {K : PySem.W.Frag} {I : Iv K} {C T : Addr} {fs : List D} {d : D} {b : Bool}
theorem pn_isiSl (c : SlX.SCls K C) (si : SlX.SIsi K C) (hk : PySem.W.kitOne K (.ref C) (.ref T) = some b) : PN K I (SlX.rIsiSl K (.ref T)) [.slo C fs, .adr T] (.bl b) := fun P p G H vs Q s hI ⟨v, r, e1, ⟨a, dx, ws, e2, e3, e4⟩, v2, r2, e5, e6, e7⟩ q =>
  ⟨a, C, dx, ws.map some, .ref T, b, by rw [e1, e2, e5, show v2 = .ref T from e6, show r2 = [] from e7], rfl, fun _ z => z, slt_mono s e3, c, si, hk, q _ (.bl b) G H I (Same.refl G) s hI rfl p⟩
theorem pn_isiO {t : String} (h : tyD d = some t) (hk : PySem.W.kitOne K (.type t) (.ref T) = some b) : PN K I (rIsi K) [d, .adr T] (.bl b) := fun P p G H vs Q s hI ⟨v, r, e1, e2, v2, r2, e3, e4, e5⟩ q =>
  ⟨v, .ref T, .type t, .ref T, b, by rw [e1, e3, show v2 = .ref T from e4, show r2 = [] from e5], .own T, tyX_of s e2 h, hk, q _ (.bl b) G H I (Same.refl G) s hI rfl p⟩
end
end DL
set_option Elab.async false
set_option linter.all false
set_option maxRecDepth 100000
set_option maxHeartbeats 4000000
namespace DL
open PySem PySem.Spec PyProof.Rows L2
def pAd (K : PySem.W.Frag) (p : Str × Option Str) : Addr := gtr K (He.ga K p.1) (p.2.getD Str.empty)
def fnP (K : PySem.W.Frag) (p : Str × Option Str) : He.FnW := match K.lookup (pAd K p) with
  | some ⟨_, _, .func fd, _⟩ => some (fd.name, fd.qualname, fd.params, fd.body, fd.scope, fd.globals, fd.closure, fd.builtins)
  | _ => none
def okP (K : PySem.W.Frag) (d : He.DefD) : Bool := PySem.W.keepIn K (.ref (pAd K d.at_)) && (match K.lookup (pAd K d.at_) with
  | some ⟨_, _, .func fd, _⟩ => PySem.W.codeIn K fd.code d.qual && (He.dflB K fd.defaults (d.dvs K) && He.kwdB K fd.kwdefaults (d.kws K))
  | _ => false)
theorem funP {K : PySem.W.Frag} {d : He.DefD} (e : fnP K d.at_ = d.val) (c : okP K d = true) : ∃ fd, FunD K d.name d.qual d.params d.body d.scope (d.dvs K) (d.kws K) (pAd K d.at_) fd := by
  obtain ⟨kp, c2⟩ := He.ba c
  unfold fnP at e
  cases q : K.lookup (pAd K d.at_) with
  | none =>
    rw [q] at c2
    cases c2
  | some o =>
    obtain ⟨oc, od, dt, osl⟩ := o
    rw [q] at c2 e
    cases dt with
    | func fd =>
      obtain ⟨n1, n2, n3, n4, n5, n6, n7, n8, n9, n10, n11, n12, n13, n14, n15⟩ := fd
      have e2 : (some (n1, n2, n3, n4, n5, n6, n7, n15) : He.FnW) = some (d.name, d.qual, d.params, .stmts d.body, d.scope, mainGlobals, [], builtinsNs) := e
      simp only [Option.some.injEq, Prod.mk.injEq] at e2
      obtain ⟨h1, h2, h3, h4, h5, h6, h7, h8⟩ := e2
      subst h1 h2 h3 h4 h5 h6 h7 h8
      have c3 : (PySem.W.codeIn K n13 d.qual && (He.dflB K n8 (d.dvs K) && He.kwdB K n9 (d.kws K))) = true := c2
      obtain ⟨k1, k2⟩ := He.ba c3
      obtain ⟨k3, k4⟩ := He.ba k2
      exact ⟨_, ⟨oc, od, n8, n9, n10, n11, n12, n13, n14, osl, rfl, q, k1, He.dflB_ok k3, He.kwdB_ok k4⟩, kp⟩
    | _ => cases c2
def exP (gs : List He.DefD) (ex : PySem.W.Frag → Bool) (K : PySem.W.Frag) : Bool := ex K && gs.all fun d => okP K d
abbrev AlP : Type := He.AlX × List He.FnW
structure SaysP (fn gs : List He.DefD) (ex : PySem.W.Frag → Bool) (w : World) (h : Heap) (K : PySem.W.Frag) : Prop where
  x : He.SaysX [] fn [] [] (exP gs ex) w h K
  g : (gs.map fun d => fnP K d.at_) = gs.map He.DefD.val
section
variable {fn gs : List He.DefD} {ex : PySem.W.Frag → Bool} {w : World} {h : Heap} {K : PySem.W.Frag}
theorem SaysP.more (c : SaysP fn gs ex w h K) : ex K = true := (He.ba c.x.more).1
theorem SaysP.def_ (c : SaysP fn gs ex w h K) (i : Nat) {d : He.DefD} (h : fn[i]? = some d := by rfl) : ∃ fd, FunD K d.name d.qual d.params d.body d.scope (d.dvs K) (d.kws K) (He.fAd K d.at_) fd := c.x.t.d.def_ i h
theorem SaysP.get_ (c : SaysP fn gs ex w h K) (i : Nat) {d : He.DefD} (hd : gs[i]? = some d := by rfl) : ∃ fd, FunD K d.name d.qual d.params d.body d.scope (d.dvs K) (d.kws K) (pAd K d.at_) fd := by
  have c2 := (He.ba c.x.more).2
  have e2 : (gs.map fun d => fnP K d.at_)[i]? = (gs.map He.DefD.val)[i]? := by rw [c.g]
  rw [List.getElem?_map, List.getElem?_map, hd] at e2
  exact funP (Option.some.inj e2) (List.all_eq_true.mp c2 d (List.mem_of_getElem? hd))
end
def dF (x : Str) (st : Stmt) (dfl : List He.Dv := []) (kws : List (Str × He.Dv) := []) : He.DefD := ⟨(x, none), x, x, defArgs st, defBody st, defScope st, dfl, kws⟩
def dM (C m q : Str) (st : Stmt) (dfl : List He.Dv := []) (kws : List (Str × He.Dv) := []) : He.DefD := ⟨(C, some m), m, q, defArgs st, defBody st, defScope st, dfl, kws⟩
end DL
set_option Elab.async false
set_option linter.all false
set_option maxRecDepth 100000
set_option maxHeartbeats 1000000
namespace DL
open PySem PySem.Spec PyProof.Rows L2
def KR (K : PySem.W.Frag) (G : Hp) : List (Key × D) → List (Key × V) → Prop
  | [], l => l = []
  | p :: ps, l => ∃ v r, l = (p.1, v) :: r ∧ Rep K G p.2 v ∧ KR K G ps r
def putG {α : Type} (kvs : List (Key × α)) (k : Key) (v : α) : List (Key × α) := if (kvs.any fun kv => decide (kv.1 = k)) = true then kvs.map (fun kv => if kv.1 = k then (kv.1, v) else kv) else kvs ++ [(k, v)]
def getG {α : Type} (kvs : List (Key × α)) (k : Key) : Option α := (kvs.find? fun kv => decide (kv.1 = k)).map (·.2)
def dicD (kds : List (Key × D)) : D := .dic (kds.map (·.1)) (kds.map (·.2))
section
variable {K : PySem.W.Frag} {G G' H : Hp}
theorem KR.mono (s : Same G G') : ∀ {kds : List (Key × D)} {kvs : List (Key × V)}, KR K G kds kvs → KR K G' kds kvs
  | [], _, h => h
  | _ :: _, _, ⟨v, r, e, r1, r2⟩ => ⟨v, r, e, r1.mono s, KR.mono s r2⟩
theorem KR.length : ∀ {kds : List (Key × D)} {kvs : List (Key × V)}, KR K G kds kvs → kvs.length = kds.length
  | [], _, h => by rw [show _ = [] from h]; rfl
  | _ :: _, _, ⟨v, r, e, r1, r2⟩ => by rw [e, List.length_cons, List.length_cons, KR.length r2]
theorem KR.keys : ∀ {kds : List (Key × D)} {kvs : List (Key × V)}, KR K G kds kvs → kvs.map (·.1) = kds.map (·.1)
  | [], _, h => by rw [show _ = [] from h]; rfl
  | _ :: _, _, ⟨v, r, e, r1, r2⟩ => by rw [e, List.map_cons, List.map_cons, KR.keys r2]
theorem KR.vals : ∀ {kds : List (Key × D)} {kvs : List (Key × V)}, KR K G kds kvs → Reps K G (kds.map (·.2)) (kvs.map (·.2))
  | [], _, h => by rw [show _ = [] from h]; exact rfl
  | _ :: _, _, ⟨v, r, e, r1, r2⟩ => by rw [e]; exact ⟨v, _, rfl, r1, KR.vals r2⟩
theorem KR.any (k : Key) : ∀ {kds : List (Key × D)} {kvs : List (Key × V)}, KR K G kds kvs → (kvs.any fun kv => decide (kv.1 = k)) = (kds.any fun kv => decide (kv.1 = k))
  | [], _, h => by rw [show _ = [] from h]; rfl
  | _ :: _, _, ⟨v, r, e, r1, r2⟩ => by rw [e, List.any_cons, List.any_cons, KR.any k r2]
theorem KR.snoc {k : Key} {d : D} {v : V} (rv : Rep K G d v) : ∀ {kds : List (Key × D)} {kvs : List (Key × V)}, KR K G kds kvs → KR K G (kds ++ [(k, d)]) (kvs ++ [(k, v)])
  | [], _, h => by rw [show _ = [] from h]; exact ⟨v, [], rfl, rv, rfl⟩
  | _ :: _, _, ⟨v', r, e, r1, r2⟩ => by rw [e]; exact ⟨v', r ++ [(k, v)], rfl, r1, KR.snoc rv r2⟩
theorem KR.over {k : Key} {d : D} {v : V} (rv : Rep K G d v) : ∀ {kds : List (Key × D)} {kvs : List (Key × V)}, KR K G kds kvs → KR K G (kds.map fun kv => if kv.1 = k then (kv.1, d) else kv) (kvs.map fun kv => if kv.1 = k then (kv.1, v) else kv)
  | [], _, h => by rw [show _ = [] from h]; exact rfl
  | p :: _, _, ⟨v', r, e, r1, r2⟩ => by
    rw [e, List.map_cons, List.map_cons]
    by_cases h : p.1 = k
    · rw [if_pos h, if_pos h]
      exact ⟨v, _, rfl, rv, KR.over rv r2⟩
    · rw [if_neg h, if_neg h]
      exact ⟨v', _, rfl, r1, KR.over rv r2⟩
theorem KR.put {k : Key} {d : D} {v : V} {kds : List (Key × D)} {kvs : List (Key × V)} (h : KR K G kds kvs) (rv : Rep K G d v) : KR K G (putG kds k d) (L2.putK kvs k v) := by
  unfold putG L2.putK
  rw [h.any k]
  split
  · exact h.over rv
  · exact h.snoc rv
theorem KR.get {k : Key} : ∀ {kds : List (Key × D)} {kvs : List (Key × V)}, KR K G kds kvs → (∀ d, getG kds k = some d → ∃ v, L2.valV kvs k = some v ∧ Rep K G d v) ∧ (getG kds k = none → L2.valV kvs k = none)
  | [], _, h => by rw [show _ = [] from h]; exact ⟨(fun d z => nomatch z), (fun _ => rfl)⟩
  | p :: ps, _, ⟨v', r, e, r1, r2⟩ => by
    rw [e]
    by_cases h : p.1 = k
    · have h' : decide (p.1 = k) = true := decide_eq_true h
      refine ⟨fun d z => ?_, fun z => ?_⟩
      · have e2 : p.2 = d := by simpa [getG, List.find?, h'] using z
        exact ⟨v', by simp [L2.valV, List.find?, h'], e2 ▸ r1⟩
      · simp [getG, List.find?, h'] at z
    · have h' : decide (p.1 = k) = false := decide_eq_false h
      have q := KR.get (k := k) r2
      refine ⟨fun d z => ?_, fun z => ?_⟩
      · have z2 : getG ps k = some d := by simpa [getG, List.find?, h'] using z
        obtain ⟨v, e1, e2⟩ := q.1 d z2
        exact ⟨v, by simpa [L2.valV, List.find?, h'] using e1, e2⟩
      · have z2 : getG ps k = none := by simpa [getG, List.find?, h'] using z
        simpa [L2.valV, List.find?, h'] using q.2 z2
theorem zip_pairs {α : Type} : ∀ l : List (Key × α), (l.map (·.1)).zip (l.map (·.2)) = l
  | [] => rfl
  | p :: l => by simp [zip_pairs l]
theorem KR.of_zip : ∀ {ks : List Key} {ds : List D} {vs : List V}, ks.length = ds.length → Reps K G ds vs → KR K G (ks.zip ds) (ks.zip vs)
  | [], [], _, _, _ => rfl
  | k :: ks, d :: ds, _, h, ⟨v, r, e, r1, r2⟩ => by rw [e]; exact ⟨v, ks.zip r, rfl, r1, KR.of_zip (by simpa using h) r2⟩
theorem rep_dicD {kds : List (Key × D)} {v : V} : Rep K G (dicD kds) v ↔ ∃ a od kvs, v = .ref a ∧ G a = some (.frz od (.dK kvs)) ∧ KR K G kds kvs := by
  constructor
  · rintro ⟨a, od, vs, e1, e2, e3, e4⟩
    refine ⟨a, od, _, e1, e2, ?_⟩
    have q := KR.of_zip e3 e4
    rw [zip_pairs] at q
    exact q
  · rintro ⟨a, od, kvs, e1, e2, e3⟩
    refine ⟨a, od, kvs.map (·.2), e1, ?_, by simp, e3.vals⟩
    rw [e2, ← e3.keys, zip_pairs]
end
def iDic (K : PySem.W.Frag) (p : Addr) (kds : List (Key × D)) : Iv K := iObj K p (fun G o => ∃ kvs, o = .dK kvs ∧ KR K G kds kvs) fun _ _ _ s ⟨kvs, h1, h2⟩ => ⟨kvs, h1, h2.mono s⟩
def keyD : D → Option Key
  | .int i => some (.inl i)
  | .str s => some (.inr s)
  | _ => none
theorem rep_key {K : PySem.W.Frag} {G : Hp} {d : D} {k : Key} {v : V} (h : keyD d = some k) (r : Rep K G d v) : v = kV k := by
  cases d with
  | int i => cases h; exact r
  | str s => cases h; exact r
  | _ => cases h
section
variable {K : PySem.W.Frag} {G H : Hp} {p : Addr} {kds : List (Key × D)} {c : Rc K} {I : Iv K}
theorem Hd.dic (h : Hd (c.fill (iDic K p kds)) G H) : ∃ kvs, H p = some (.dK kvs) ∧ KR K G kds kvs ∧ G p = none := by
  have q := h.inner
  obtain ⟨o, ho, vs, ev, r⟩ := q.ph
  subst ev
  exact ⟨vs, ho, r, q.fr p rfl⟩
theorem Hd.dicSet {kds' : List (Key × D)} {kvs' : List (Key × V)} (h : Hd (c.fill (iDic K p kds)) G H) (r : KR K G kds' kvs') : Hd (c.fill (iDic K p kds')) G (upd H p (.dK kvs')) :=
  Hd.change (I := iDic K p kds) (I' := iDic K p kds') (fun _ => Iff.rfl) (fun a ha => upd_ne ha) ⟨⟨_, upd_same, kvs', rfl, r⟩, h.inner.fr⟩ h
theorem freeze_dic {od : Obj} {kvs : List (Key × V)} (s : Same G H) (h : Hd (I.and (iDic K p kds)) G H) (hp : H p = some (.dK kvs)) : ∃ G', Same G G' ∧ Same G' (upd H p (.frz od (.dK kvs))) ∧ Hd I G' (upd H p (.frz od (.dK kvs))) ∧ Rep K G' (dicD kds) (.ref p) := by
  obtain ⟨o, ho, vs, ev, rv⟩ := h.right.ph
  subst ev
  rw [hp] at ho
  cases ho
  have gp : G p = none := h.right.fr p rfl
  refine ⟨upd G p (.frz od (.dK kvs)), Evl.Ex.new gp, same_upd2 s, ⟨I.loc G _ H _ (Evl.Ex.new gp) (fun a ha => upd_ne fun e => h.apart a ⟨ha, e⟩) h.left.ph, fun a ha => ?_⟩, rep_dicD.mpr ⟨p, od, kvs, rfl, upd_same, rv.mono (Evl.Ex.new gp)⟩⟩
  rw [upd_ne fun e => h.apart a ⟨ha, e⟩]
  exact h.left.fr a ha
end
section
variable {X : Cx} {sts : List Stmt} {e : Expr} {σ : L2.St} {H : Hp} {E : Ends} {Q : VK} {d : Addr} {u : HO}
theorem wpB_lock (h : H d = some u) (mu : Mut (some u)) (k : ∀ od, wpB X sts E σ (upd H d (.frz od u))) : wpB X sts E σ H := ⟨fun pins s I => by
  obtain ⟨od, I1⟩ := I.lock h mu
  exact (k od).run pins s I1⟩
end
end DL
set_option Elab.async false
set_option linter.all false
set_option maxRecDepth 100000
set_option maxHeartbeats 1000000
namespace DL
open PySem PySem.Spec PyProof.Rows L2
section
variable {X : Cx} {W : WX} {R : Rx X.K} {a b e o i : Expr} {sts : List Stmt} {δ : DEnv} {I : Iv X.K} {P : D → Iv X.K → Prop} {pos ps p2 : Pos} {x : Str} {d y z : D} {p : Addr} {kds : List (Key × D)} {k : Key} {κ : Ko X.K} {n : Nat}
theorem wpE_lock {σ : L2.St} {H : Hp} {Q : VK} (h : wpE X e σ H fun v H' => ∃ d u, H' d = some u ∧ Mut (some u) ∧ ∀ od, Q v (upd H' d (.frz od u))) : wpE X e σ H Q := ⟨fun pins s I => by
  refine thn (h.run pins s I) fun u s' ⟨v, H', I1, r, d, u', hd, mu, q⟩ => ?_
  obtain ⟨od, I2⟩ := I1.lock hd mu
  exact ⟨v, _, I2, r, q od⟩⟩
theorem ev_freezeD (h : EvX X W R e δ I fun d I1 => ∃ p kds I2, d = .adr p ∧ I1 = I2.and (iDic X.K p kds) ∧ P (dicD kds) I2) : EvX X W R e δ I P := fun σ G H Q hE s hI qx q =>
  wpE_lock (h σ G H _ hE s hI qx fun v d G1 H1 I1 s1 t1 h1 r1 ⟨p, kds, I2, ed, ei, pp⟩ => by
    subst ed ei
    obtain ⟨kvs, hp, _, _⟩ := Hd.dic (c := .r I2 .here) h1
    refine ⟨p, .dK kvs, hp, trivial, fun od => ?_⟩
    obtain ⟨G', s2, t2, h2, r2⟩ := freeze_dic (od := od) t1 h1 hp
    have ev : v = .ref p := r1
    subst ev
    exact q _ _ G' _ I2 (s1.trans s2) t2 h2 r2 pp)
theorem sx_freezeD {j : Nat} (hd : δ[j]? = some (some (.adr p))) (h : SX X W sts (δ.set j (some (dicD kds))) I κ) : SX X W sts δ (I.and (iDic X.K p kds)) κ := fun σ G H E hE s hI kk => by
  obtain ⟨kvs, hp, _, _⟩ := Hd.dic (c := .r I .here) hI
  refine wpB_lock hp trivial fun od => ?_
  obtain ⟨G', s1, t1, h1, r⟩ := freeze_dic (od := od) s hI hp
  obtain ⟨v, hv, rv⟩ := hE.2 j _ hd
  have ev : v = .ref p := rv
  subst ev
  have e2 := (hE.mono s1).set (i := j) r
  have e3 : σ.set j (some (.ref p)) = σ := by
    apply List.ext_getElem?
    intro q
    by_cases hj : j = q
    · subst hj
      rw [List.getElem?_set_self (List.getElem?_eq_some_iff.mp hv).1, hv]
    · rw [List.getElem?_set_ne hj]
  rw [e3] at e2
  exact h σ G' _ E e2 t1 h1 (kk.mono s1)
theorem ev_dnew (h : ∀ p, (∀ a, ¬ (I.F a ∧ a = p)) → P (.adr p) (I.and (iDic X.K p []))) : EvX X W R (.Dict [] [] pos) δ I P := fun σ G H Q hE s hI qx q =>
  PE.wp pe_dnewK fun p hp => by
    have hg : G p = none := s.free hp
    have na : ∀ a, ¬ (I.F a ∧ a = p) := fun a ha => hI.dom ha.1 (by rw [ha.2]; exact hp)
    exact q (.ref p) (.adr p) G _ (I.and (iDic X.K p [])) (Same.refl G) (same_upd s hg) (Hd.mk2 (hI.newp hp) ⟨⟨_, upd_same, [], rfl, rfl⟩, fun a ha => by rw [show a = p from ha]; exact hg⟩ na) rfl (h p na)
def DicI (X : Cx) (I : Iv X.K) (d : D) (kds : List (Key × D)) : Prop := d = dicD kds ∨ ∃ p c, d = .adr p ∧ I = Rc.fill c (iDic X.K p kds)
theorem dic_rd (h : DicI X I d kds) {G H : Hp} {v : V} (s : Same G H) (hI : Hd I G H) (r : Rep X.K G d v) : ∃ a kvs, v = .ref a ∧ Rd H a (.dK kvs) ∧ KR X.K G kds kvs := by
  rcases h with e | ⟨p, c, e1, e2⟩
  · subst e
    obtain ⟨a, od, kvs, e1, e2, e3⟩ := rep_dicD.mp r
    exact ⟨a, kvs, e1, .inr ⟨od, s _ _ e2⟩, e3⟩
  · subst e1 e2
    obtain ⟨kvs, hp, r2, _⟩ := hI.dic
    exact ⟨p, kvs, r, .inl hp, r2⟩
theorem pv_dget (hu : X.A.units + 1 < cLine) (dI : DicI X I z kds) (ho : PV X I o δ z) (hi : PV X I i δ y) (hk : keyD y = some k) (hd : getG kds k = some d) (hs : NoSl i := by exact fun _ _ => rfl) : PV X I (.Subscript o i pos) δ d := fun W R P pp σ G H Q hE s hI qx q =>
  PE.wp (pe_dget hu peC peC hs) (ho W R (fun z1 I1 => z1 = z ∧ I1 = I) ⟨rfl, rfl⟩ σ G H _ hE s hI qx fun v d1 G1 H1 I1 s1 t1 h1 r1 ⟨ed, ei⟩ => by
    subst ed ei
    refine hi W R (fun z1 J => z1 = y ∧ J = I1) ⟨rfl, rfl⟩ σ G1 H1 _ (hE.mono s1) t1 h1 (qx.mono s1) fun v2 d2 G2 H2 I2 s2 t2 h2 r2 ⟨ed2, ei2⟩ => ?_
    subst ed2 ei2
    obtain ⟨a, kvs, e1, rd, kr⟩ := dic_rd dI t2 h2 (r1.mono s2)
    obtain ⟨u, e3, e4⟩ := (kr.get (k := k)).1 d hd
    exact ⟨a, u, e1, .inl ⟨kvs, k, rd, rep_key hk r2, e3.symm⟩, q u d G2 H2 _ (s1.trans s2) t2 h2 e4 pp⟩)
theorem pv_din (hu : X.A.units + 1 < cLine) (dI : DicI X I z kds) (hi : PV X I i δ y) (ho : PV X I o δ z) (hk : keyD y = some k) (hm : behindInMarks .In o = false := by rfl) : PV X I (.Compare i [.In] [o] pos) δ (.bl (getG kds k).isSome) := fun W R P pp σ G H Q hE s hI qx q =>
  PE.wp (L2.pe_cmp (pc_din hu peC peC) hm) (hi W R (fun z1 I1 => z1 = y ∧ I1 = I) ⟨rfl, rfl⟩ σ G H _ hE s hI qx fun v d1 G1 H1 I1 s1 t1 h1 r1 ⟨ed, ei⟩ => by
    subst ed ei
    refine ho W R (fun z1 J => z1 = z ∧ J = I1) ⟨rfl, rfl⟩ σ G1 H1 _ (hE.mono s1) t1 h1 (qx.mono s1) fun v2 d2 G2 H2 I2 s2 t2 h2 r2 ⟨ed2, ei2⟩ => ?_
    subst ed2 ei2
    obtain ⟨a, kvs, e1, rd, kr⟩ := dic_rd dI t2 h2 r2
    refine ⟨a, valV kvs k, e1, .inl ⟨kvs, k, rd, rep_key hk (r1.mono s2), rfl⟩, ?_⟩
    have e5 : (valV kvs k).isSome = (getG kds k).isSome := by
      cases h : getG kds k with
      | none => rw [(kr.get (k := k)).2 h]; rfl
      | some d0 =>
        obtain ⟨u, e3, _⟩ := (kr.get (k := k)).1 d0 h
        rw [e3]; rfl
    rw [e5]
    exact q _ (.bl _) G2 H2 _ (s1.trans s2) t2 h2 rfl pp)
theorem s_dput (hu : X.A.units + 1 < cLine) (c : Rc X.K) (he : EvX X W (κ.r δ) e δ I fun d I1 => I1 = c.fill (iDic X.K p kds) ∧ PV X I1 o δ (.adr p) ∧ PV X I1 i δ y ∧ keyD y = some k ∧ kds.length < 100000 ∧ κ.nx δ (c.fill (iDic X.K p (putG kds k d))))
    (hs : swapsWith e (some (.Subscript o i ps)) pos.line X.env = pure false := by rfl) : S1 X W (.Assign [.Subscript o i ps] e pos) δ I κ := fun σ G H E hE s hI kk =>
  PS.wp (ps_dput hu peC peC peC hs) (he σ G H _ hE s hI (kk.kx hE) fun v d1 G1 H1 I1 s1 t1 h1 r1 ⟨ei, ho, hi, hk, hz, nx⟩ => by
    refine ho W (κ.r δ) (fun z1 J => z1 = .adr p ∧ J = I1) ⟨rfl, rfl⟩ σ G1 H1 _ (hE.mono s1) t1 h1 ((kk.kx hE).mono s1) fun v2 d2 G2 H2 I2 s2 t2 h2 r2 ⟨ed2, ei2⟩ => ?_
    subst ed2 ei2
    refine hi W (κ.r δ) (fun z1 J => z1 = y ∧ J = I2) ⟨rfl, rfl⟩ σ G2 H2 _ (hE.mono (s1.trans s2)) t2 h2 ((kk.kx hE).mono (s1.trans s2)) fun v3 d3 G3 H3 I3 s3 t3 h3 r3 ⟨ed3, ei3⟩ => ?_
    subst ed3 ei3
    have h4 : Hd (c.fill (iDic X.K p kds)) G3 H3 := ei ▸ h3
    obtain ⟨kvs, hp, kr, gp⟩ := h4.dic
    have e2 : v2 = .ref p := r2
    subst e2
    refine ⟨p, _, rfl, .inl ⟨kvs, k, hp, rep_key hk r3, by rw [kr.length, sizeLine_eq]; omega, rfl⟩, ?_⟩
    exact kk.nx δ σ G3 _ _ ((s1.trans s2).trans s3) (same_upd t3 gp) (h4.dicSet (kr.put ((r1.mono s2).mono s3))) (hE.mono ((s1.trans s2).trans s3)) nx)
def keyV : Key → D
  | .inl i => .int i
  | .inr s => .str s
theorem rep_keyV {K : PySem.W.Frag} {G : Hp} (k : Key) : Rep K G (keyV k) (kV k) := by
  cases k <;> exact rfl
theorem walk_dK {K : PySem.W.Frag} {a : Addr} {od : Obj} {kvs : List (Key × V)} {kds : List (Key × D)} {G : Hp} (h : G a = some (.frz od (.dK kvs))) (r : KR K G kds kvs) : WalkD K (Itk a od kvs) (kds.map fun p => keyV p.1) G := by
  have hl : kvs.length = (kds.map fun p => keyV p.1).length := by rw [List.length_map]; exact r.length
  refine ⟨fun i G' H' s1 s2 hi => walk_keys.goes i H' (by omega) ((s1.trans s2) _ _ h), fun G' H' s1 s2 => by rw [← hl]; exact walk_keys.stops H' ((s1.trans s2) _ _ h), fun i G' H' I x H'' s1 s2 hI hi y => ?_⟩
  obtain ⟨eH, k, v, e1, e2⟩ := (walk_keys (d := a) (o := od) (kvs := kvs)).yields i H' x H'' (by omega) ((s1.trans s2) _ _ h) y
  subst eH e2
  refine ⟨G', Same.refl _, s2, hI, fun _ _ z => z, keyV k, ?_, rep_keyV k⟩
  have e3 := r.keys
  have e4 : (kvs.map (·.1))[i]? = some k := by rw [List.getElem?_map, e1]; rfl
  rw [e3, List.getElem?_map] at e4
  rw [List.getElem?_map]
  cases q : kds[i]? with
  | none => rw [q] at e4; cases e4
  | some p0 =>
    rw [q] at e4
    have e5 : p0.1 = k := Option.some.inj e4
    show some (keyV p0.1) = _
    rw [e5]
theorem ei_keys {tg iter : Expr} {PP : List D → Iv X.K → Prop} (h : EvX X W R iter δ I fun d I1 => ∃ kds, d = dicD kds ∧ PP (kds.map fun p => keyV p.1) I1) : EvI X W R tg iter δ I PP := fun σ G H RR hE s hI qx q =>
  PI.wp (pi_keys peC) (h σ G H _ hE s hI qx fun v d G1 H1 I1 s1 t1 h1 r1 ⟨kds, ed, pp⟩ => by
    subst ed
    obtain ⟨a, od, kvs, e1, e2, e3⟩ := rep_dicD.mp r1
    exact ⟨a, od, e1, .inl ⟨kvs, t1 _ _ e2, q _ _ G1 H1 I1 s1 t1 h1 (walk_dK e2 e3) pp⟩⟩)
theorem vi_keys {tg iter : Expr} (h : PV X I iter δ (dicD kds)) : PVI X I tg iter δ (kds.map fun p => keyV p.1) := fun W R P p => ei_keys (h W R _ ⟨kds, rfl, p⟩)
end
end DL
set_option Elab.async false
set_option linter.all false
set_option maxRecDepth 100000
set_option maxHeartbeats 4000000
namespace PySem
open Sem (wp)
open AutoSeq1 (wpAny_loadPart')
end PySem
namespace DL
open PySem PySem.Spec PyProof.Rows L2
def enumD (ds : List D) : List D := (ds.zipIdx).map fun p => .tup [.int p.2, p.1]
theorem enumD_get {ds : List D} {i : Nat} {d : D} (h : ds[i]? = some d) : (enumD ds)[i]? = some (.tup [.int i, d]) := by
  unfold enumD
  rw [List.getElem?_map, List.getElem?_zipIdx, h]
  simp
theorem enumD_len {ds : List D} : (enumD ds).length = ds.length := by unfold enumD; simp
theorem walk_eL {K : PySem.W.Frag} {a : Addr} {ds : List D} {vs : List V} {G : Hp} (h : SqL K G a vs) (r : Reps K G ds vs) : WalkD K (Ite K a) (enumD ds) G := by
  have hl := r.length
  refine ⟨fun i G' H' s1 s2 hi => (walk_enum (K := K) (a := a) (xs := vs)).goes i H' (by rw [enumD_len] at hi; omega) (sqL_mono (s1.trans s2) h), fun G' H' s1 s2 => by rw [enumD_len, ← hl]; exact walk_enum.stops H' (sqL_mono (s1.trans s2) h), fun i G' H' I x H'' s1 s2 hI hi y => ?_⟩
  rw [enumD_len] at hi
  obtain ⟨T, x1, y1, ex, hT, eH, e1, e2⟩ := (walk_enum (K := K) (a := a) (xs := vs)).yields i H' x H'' (by omega) (sqL_mono (s1.trans s2) h) y
  subst ex eH
  cases e1
  obtain ⟨d, hd⟩ : ∃ d, ds[i]? = some d := ⟨ds[i], by simp [hi]⟩
  obtain ⟨v, h1, h2⟩ := r.get hd
  rw [show vs[i]? = some y1 from e2] at h1
  cases h1
  have gT : G' T = none := s2.free hT
  exact ⟨upd G' T (.tup [.int (i : Nat), y1]), Evl.Ex.new gT, same_upd2 s2, hI.keep hT s2, fun b o z => by rw [upd_ne (fun q => by rw [q, hT] at z; cases z)]; exact z, _, enumD_get hd, T, _, rfl, SqT.of upd_same, .cons rfl (.one ((h2.mono s1).mono (Evl.Ex.new gT)))⟩
section
variable {X : Cx} {W : WX} {R : Rx X.K} {a e : Expr} {δ : DEnv} {I : Iv X.K} {pos p tpos : Pos} {elts : List Expr} {kk : Nat} {ds : List D}
theorem vi_enumL (hm : X.mg "enumerate" = none) (h : PV X I e δ (.lst ds)) (hg : Gl X "enumerate" := by rfl) (hs : starEach [e] X.env = [(false, eval e X.env)] := by rfl) (hs2 : starEach [e] X.env = (false, eval e X.env) :: starEach [] X.env := by rfl) : PVI X I (.Tuple elts kk tpos) (.Call (.Name "enumerate" p) [e] [] pos) δ (enumD ds) := fun W R P pp σ G H RR hE s hI qx q =>
  PI.wp (pi_enum (ta := wpA X [e]) hg hm paC hs) ((va_cons h va_nil hs2) W R (fun es I1 => es = [.lst ds] ∧ I1 = I) ⟨rfl, rfl⟩ σ G H _ hE s hI qx fun vs es G1 H1 I1 s1 t1 h1 r1 ⟨ee, ei⟩ => by
    subst ee ei
    obtain ⟨v, r, rfl, ⟨a, xs, rfl, e2, e3⟩, er⟩ := r1
    rw [show r = [] from er]
    exact ⟨a, xs, rfl, SqL.of (t1 _ _ e2), q _ _ G1 H1 _ s1 t1 h1 (walk_eL (SqL.of e2) e3) pp⟩)
end
end DL
set_option Elab.async false
set_option linter.all false
set_option maxRecDepth 100000
set_option maxHeartbeats 4000000
namespace DL
open PySem PySem.Spec PyProof.Rows L2

def eqD (x y : D) : Bool := PyData.eqv (pyD x) (pyD y)
def eqDs : List D → List D → Bool
  | [], [] => true
  | x :: xs, y :: ys => eqD x y && eqDs xs ys
  | _, _ => false
theorem eqvAll_eq : ∀ xs ys : List D, PyData.eqvAll (pyDs xs) (pyDs ys) = eqDs xs ys
  | [], [] => rfl
  | [], _ :: _ => rfl
  | _ :: _, [] => rfl
  | x :: xs, y :: ys => by
    show (PyData.eqv (pyD x) (pyD y) && PyData.eqvAll (pyDs xs) (pyDs ys)) = _
    rw [eqvAll_eq xs ys]; rfl
section
variable {s t : Str} {i j : Int} {a b : Bool} {xs ys : List D}
@[simp] theorem eqD_str : eqD (.str s) (.str t) = decide (s = t) := by
  show (s == t) = _
  exact Bool.eq_iff_iff.mpr (by simp)
@[simp] theorem eqD_int : eqD (.int i) (.int j) = decide (i = j) := by
  show (i == j) = _
  exact Bool.eq_iff_iff.mpr (by simp)
@[simp] theorem eqD_bl : eqD (.bl a) (.bl b) = decide (a = b) := by
  show (a == b) = _
  exact Bool.eq_iff_iff.mpr (by simp)
@[simp] theorem eqD_non : eqD .non .non = true := rfl
@[simp] theorem eqD_tup : eqD (.tup xs) (.tup ys) = eqDs xs ys := eqvAll_eq xs ys
@[simp] theorem eqD_lst : eqD (.lst xs) (.lst ys) = eqDs xs ys := eqvAll_eq xs ys
@[simp] theorem eqD_lstf : eqD (.lst xs) (.lsf ys) = eqDs xs ys := eqvAll_eq xs ys
@[simp] theorem eqD_lsfl : eqD (.lsf xs) (.lst ys) = eqDs xs ys := eqvAll_eq xs ys
@[simp] theorem eqD_tl : eqD (.tup xs) (.lst ys) = false := rfl
@[simp] theorem eqD_lt : eqD (.lst xs) (.tup ys) = false := rfl
@[simp] theorem eqD_tn : eqD (.tup xs) .non = false := rfl
@[simp] theorem eqD_nt : eqD .non (.tup xs) = false := rfl
@[simp] theorem eqD_ln : eqD (.lst xs) .non = false := rfl
@[simp] theorem eqD_nl : eqD .non (.lst xs) = false := rfl
@[simp] theorem eqD_sn : eqD (.str s) .non = false := rfl
@[simp] theorem eqD_ns : eqD .non (.str s) = false := rfl
@[simp] theorem eqD_in : eqD (.int i) .non = false := rfl
@[simp] theorem eqD_ni : eqD .non (.int i) = false := rfl
@[simp] theorem eqD_is : eqD (.int i) (.str s) = false := rfl
@[simp] theorem eqD_si : eqD (.str s) (.int i) = false := rfl
@[simp] theorem eqD_st : eqD (.str s) (.tup xs) = false := rfl
@[simp] theorem eqD_ts : eqD (.tup xs) (.str s) = false := rfl
@[simp] theorem eqD_it : eqD (.int i) (.tup xs) = false := rfl
@[simp] theorem eqD_ti : eqD (.tup xs) (.int i) = false := rfl
@[simp] theorem eqD_sl : eqD (.str s) (.lst xs) = false := rfl
@[simp] theorem eqD_ls : eqD (.lst xs) (.str s) = false := rfl
@[simp] theorem eqD_il : eqD (.int i) (.lst xs) = false := rfl
@[simp] theorem eqD_li : eqD (.lst xs) (.int i) = false := rfl
@[simp] theorem eqDs_nil : eqDs [] [] = true := rfl
@[simp] theorem eqDs_cons {x y : D} : eqDs (x :: xs) (y :: ys) = (eqD x y && eqDs xs ys) := rfl
@[simp] theorem eqDs_nc {y : D} : eqDs [] (y :: ys) = false := rfl
@[simp] theorem eqDs_cn {x : D} : eqDs (x :: xs) [] = false := rfl
end
structure Inj {α : Type} (g : α → D) : Prop where
  eq : ∀ a b, eqD (g a) (g b) = true ↔ a = b
theorem Inj.str : Inj D.str := ⟨fun a b => by simp⟩
theorem Inj.int : Inj D.int := ⟨fun a b => by simp⟩
theorem Inj.eqs {α : Type} {g : α → D} (h : Inj g) : ∀ xs ys : List α, eqDs (xs.map g) (ys.map g) = true ↔ xs = ys
  | [], [] => by simp
  | [], y :: ys => by simp
  | x :: xs, [] => by simp
  | x :: xs, y :: ys => by simp [h.eq x y, h.eqs xs ys]
theorem Inj.lst {α : Type} {g : α → D} (h : Inj g) : Inj fun xs : List α => D.lst (xs.map g) := ⟨fun a b => by simp [h.eqs]⟩
theorem Inj.tup {α : Type} {g : α → D} (h : Inj g) : Inj fun xs : List α => D.tup (xs.map g) := ⟨fun a b => by simp [h.eqs]⟩
theorem Inj.any {α : Type} [DecidableEq α] {g : α → D} (h : Inj g) (x : α) (xs : List α) : (xs.map g).any (fun z => eqD z (g x)) = decide (x ∈ xs) := Bool.eq_iff_iff.mpr (by
  simp only [List.any_map, List.any_eq_true, Function.comp, decide_eq_true_eq]
  exact ⟨fun ⟨y, hy, e⟩ => ((h.eq y x).mp e) ▸ hy, fun hx => ⟨x, hx, (h.eq x x).mpr rfl⟩⟩)

structure OkD (n : Nat) (d : D) : Prop where
  py : okPy d = true
  cl : (pyD d).canLay0 = true
  dp : (pyD d).depth ≤ n
theorem OkD.okEq {n : Nat} {d : D} (h : OkD n d) (hn : n ≤ 64) : okEq d = true := by
  unfold DL.okEq SeqAt.shaped
  rw [h.py, h.cl, decide_eq_true (Nat.le_trans h.dp hn)]; rfl
theorem OkD.mono {n m : Nat} {d : D} (h : OkD n d) (hn : n ≤ m) : OkD m d := ⟨h.py, h.cl, Nat.le_trans h.dp hn⟩
theorem OkD.non {n : Nat} : OkD n .non := ⟨rfl, rfl, Nat.zero_le _⟩
theorem OkD.bl {n : Nat} {b : Bool} : OkD n (.bl b) := ⟨rfl, rfl, Nat.zero_le _⟩
theorem OkD.int {n : Nat} {i : Int} : OkD n (.int i) := ⟨rfl, rfl, Nat.zero_le _⟩
theorem OkD.str {n : Nat} {s : Str} (h : PyData.strOk s = true) : OkD n (.str s) := ⟨rfl, h, Nat.zero_le _⟩
theorem okds {n : Nat} : ∀ {ds : List D}, (∀ d ∈ ds, OkD n d) → okPys ds = true ∧ PyData.canLayAll0 (pyDs ds) = true ∧ PyData.depthAll (pyDs ds) ≤ n
  | [], _ => ⟨rfl, rfl, Nat.zero_le _⟩
  | d :: ds, h => by
    obtain ⟨a, b, c⟩ := okds fun e he => h e (List.mem_cons_of_mem _ he)
    have q := h d (List.mem_cons_self ..)
    exact ⟨by show (okPy d && okPys ds) = true; rw [q.py, a]; rfl, by show (PyData.canLay0 (pyD d) && PyData.canLayAll0 (pyDs ds)) = true; rw [q.cl, b]; rfl, Nat.max_le.mpr ⟨q.dp, c⟩⟩
theorem OkD.tup {n : Nat} {ds : List D} (h : ∀ d ∈ ds, OkD n d) : OkD (n + 1) (.tup ds) := ⟨(okds h).1, (okds h).2.1, Nat.succ_le_succ (okds h).2.2⟩
theorem OkD.lst {n : Nat} {ds : List D} (h : ∀ d ∈ ds, OkD n d) : OkD (n + 1) (.lst ds) := ⟨(okds h).1, (okds h).2.1, Nat.succ_le_succ (okds h).2.2⟩
theorem OkD.lsf {n : Nat} {ds : List D} (h : ∀ d ∈ ds, OkD n d) : OkD (n + 1) (.lsf ds) := ⟨(okds h).1, (okds h).2.1, Nat.succ_le_succ (okds h).2.2⟩
theorem OkD.map {α : Type} {n : Nat} {g : α → D} {xs : List α} (h : ∀ x ∈ xs, OkD n (g x)) : ∀ d ∈ xs.map g, OkD n d := fun d hd => by
  obtain ⟨x, hx, rfl⟩ := List.mem_map.mp hd
  exact h x hx
theorem OkD.t1 {n : Nat} {a : D} (h : OkD n a) : OkD (n + 1) (.tup [a]) := .tup (by simp [h])
theorem OkD.t2 {n : Nat} {a b : D} (h : OkD n a) (h2 : OkD n b) : OkD (n + 1) (.tup [a, b]) := .tup (by simp [h, h2])
theorem OkD.t3 {n : Nat} {a b c : D} (h : OkD n a) (h2 : OkD n b) (h3 : OkD n c) : OkD (n + 1) (.tup [a, b, c]) := .tup (by simp [h, h2, h3])
theorem OkD.t4 {n : Nat} {a b c d : D} (h : OkD n a) (h2 : OkD n b) (h3 : OkD n c) (h4 : OkD n d) : OkD (n + 1) (.tup [a, b, c, d]) := .tup (by simp [h, h2, h3, h4])

section
variable {X : Cx}
def rInDT (K : PySem.W.Frag) : R2 := fun x y H Q => ∃ d ds, Dp K H x d ∧ (Dp K H y (.list ds) ∨ Dp K H y (.tuple ds)) ∧ SeqAt.shaped d = true ∧ PyData.canLayAll0 ds = true ∧ Q (.bl (ds.any fun z => PyData.eqv z d)) H
def rNotInDT (K : PySem.W.Frag) : R2 := fun x y H Q => ∃ d ds, Dp K H x d ∧ (Dp K H y (.list ds) ∨ Dp K H y (.tuple ds)) ∧ SeqAt.shaped d = true ∧ PyData.canLayAll0 ds = true ∧ Q (.bl (!ds.any fun z => PyData.eqv z d)) H
theorem op_inDT (hu : X.A.units + 65 < cLine) : OpR X (compareOp .In) (rInDT X.K) := by
  intro pins s σ H x y v u Q I rx ry h
  obtain ⟨d, ds, hd, he, sd, se, q⟩ := h
  obtain ⟨as, r1⟩ := Dp.reads I d x v hd rx
  rcases he with he | he
  · obtain ⟨bs, r2⟩ := Dp.reads I (.list ds) y u he ry
    exact SeqAt.in_list_reads r2 r1 se (SeqAt.canLay_of_shaped sd) (room_in_shaped sd hu) ⟨.bl _, H, I, rfl, q⟩
  · obtain ⟨bs, r2⟩ := Dp.reads I (.tuple ds) y u he ry
    exact SeqAt.in_tuple_reads r2 r1 se (SeqAt.canLay_of_shaped sd) (room_in_shaped sd hu) ⟨.bl _, H, I, rfl, q⟩
theorem op_notInDT (hu : X.A.units + 65 < cLine) : OpR X (compareOp .NotIn) (rNotInDT X.K) := by
  intro pins s σ H x y v u Q I rx ry h
  obtain ⟨d, ds, hd, he, sd, se, q⟩ := h
  obtain ⟨as, r1⟩ := Dp.reads I d x v hd rx
  rcases he with he | he
  · obtain ⟨bs, r2⟩ := Dp.reads I (.list ds) y u he ry
    exact SeqAt.notIn_list_reads r2 r1 se (SeqAt.canLay_of_shaped sd) (room_in_shaped sd hu) ⟨.bl _, H, I, rfl, q⟩
  · obtain ⟨bs, r2⟩ := Dp.reads I (.tuple ds) y u he ry
    exact SeqAt.notIn_tuple_reads r2 r1 se (SeqAt.canLay_of_shaped sd) (room_in_shaped sd hu) ⟨.bl _, H, I, rfl, q⟩
theorem any_py (d : D) : ∀ ds : List D, (pyDs ds).any (fun z => PyData.eqv z (pyD d)) = ds.any fun z => eqD z d
  | [] => rfl
  | e :: ds => by
    show (PyData.eqv (pyD e) (pyD d) || (pyDs ds).any _) = _
    rw [any_py d ds]; rfl
def itemsD : D → Option (List D)
  | .tup ds => some ds
  | .lst ds => some ds
  | .lsf ds => some ds
  | _ => none
theorem items_dp {K : PySem.W.Frag} {G H : Hp} {z : D} {ds : List D} {v : V} (s : Same G H) (hz : itemsD z = some ds) (h : okPys ds = true) (r : Rep K G z v) : Dp K H v (.list (pyDs ds)) ∨ Dp K H v (.tuple (pyDs ds)) := by
  cases z <;> first | cases hz | skip
  · exact .inr (dp_of (d := .tup _) s h r)
  · exact .inl (dp_of (d := .lst _) s h r)
  · exact .inl (dp_of (d := .lsf _) s h r)
theorem p2_inD {K : PySem.W.Frag} {I : Iv K} {x z : D} {ds : List D} {n : Nat} (hz : itemsD z = some ds) (hx : OkD 64 x) (hd : ∀ d ∈ ds, OkD n d) : P2 K I (rInDT K) x z (.bl (ds.any fun y => eqD y x)) := fun P p G H v w Q s hI r1 r2 q =>
  ⟨_, _, dp_of s hx.py r1, items_dp s hz (okds hd).1 r2, (Bool.and_eq_true_iff.mp (hx.okEq (by decide))).2, (okds hd).2.1, by rw [any_py]; exact q _ (.bl _) G H I (Same.refl G) s hI rfl p⟩
theorem p2_ninD {K : PySem.W.Frag} {I : Iv K} {x z : D} {ds : List D} {n : Nat} (hz : itemsD z = some ds) (hx : OkD 64 x) (hd : ∀ d ∈ ds, OkD n d) : P2 K I (rNotInDT K) x z (.bl (!ds.any fun y => eqD y x)) := fun P p G H v w Q s hI r1 r2 q =>
  ⟨_, _, dp_of s hx.py r1, items_dp s hz (okds hd).1 r2, (Bool.and_eq_true_iff.mp (hx.okEq (by decide))).2, (okds hd).2.1, by rw [any_py]; exact q _ (.bl _) G H I (Same.refl G) s hI rfl p⟩
end

section
variable {X : Cx} {W : WX} {R : Rx X.K} {a b c e : Expr} {es : List Expr} {δ : DEnv} {I : Iv X.K} {P : D → Iv X.K → Prop} {pos p p2 : Pos} {x y z d : D} {x' : Str} {ds : List D} {i j : Int} {k : Bool} {C : Prop}
theorem pv_w (i : Nat) (hd : δ[i]? = some (some d)) (hN : X.N[i]? = some x' := by rfl) (hv : Vis X.env.scope x' := by first | exact Or.inl rfl | exact Or.inr (Or.inl rfl) | exact Or.inr (Or.inr rfl)) (hdb : (x' == ("__debug__" : Str)) = false := by decide)
    (hcd : (x' == ("__classdict__" : Str)) = false := by decide) : PV X I (.Name x' pos) δ d := pv_v i hd hN hv hdb hcd
end
class EqC (x y : D) (b : outParam Bool) (C : outParam Prop) : Prop where
  e : C → ∀ (X : Cx) (I : Iv X.K), X.A.units + 64 < cLine → ∃ r, OpR X (compareOp .Eq) r ∧ P2 X.K I r x y (.bl b)
  n : C → ∀ (X : Cx) (I : Iv X.K), X.A.units + 64 < cLine → ∃ r, OpR X (compareOp .NotEq) r ∧ P2 X.K I r x y (.bl (!b))
theorem EqC.flat {x y : D} {v u : V} {b : Bool} (hx : flatD x = some v) (hy : flatD y = some u) (hs : scal v u = true) (hb : decide (v = u) = b) : EqC x y b True :=
  ⟨fun _ X I _ => ⟨_, op_eq, p2_eq hx hy hs hb⟩, fun _ X I _ => ⟨_, op_ne, p2_ne hx hy hs (by rw [hb])⟩⟩
theorem EqC.data {x y : D} : EqC x y (eqD x y) (okEq x = true ∧ okEq y = true) :=
  ⟨fun c X I hu => ⟨_, op_eqD hu, p2_eqD c.1 c.2⟩, fun c X I hu => ⟨_, op_neD hu, p2_neD c.1 c.2⟩⟩
instance {s t : Str} : EqC (.str s) (.str t) (decide (s = t)) True := .flat rfl rfl rfl (by simp)
instance {s t : Int} : EqC (.int s) (.int t) (decide (s = t)) True := .flat rfl rfl rfl (by simp)
instance {s t : Bool} : EqC (.bl s) (.bl t) (decide (s = t)) True := .flat rfl rfl rfl (by simp)
instance : EqC .non .non true True := .flat rfl rfl rfl rfl
instance {s : Str} : EqC (.str s) .non false True := .flat rfl rfl rfl rfl
instance {s : Str} : EqC .non (.str s) false True := .flat rfl rfl rfl rfl
instance {s : Int} : EqC (.int s) .non false True := .flat rfl rfl rfl rfl
instance {s : Int} : EqC .non (.int s) false True := .flat rfl rfl rfl rfl
instance {s : Int} {t : Str} : EqC (.int s) (.str t) false True := .flat rfl rfl rfl rfl
instance {s : Int} {t : Str} : EqC (.str t) (.int s) false True := .flat rfl rfl rfl rfl
instance {s : Bool} : EqC .non (.bl s) false True := .flat rfl rfl rfl rfl
instance {s : Bool} : EqC (.bl s) .non false True := .flat rfl rfl rfl rfl
instance {xs ys : List D} : EqC (.tup xs) (.tup ys) (eqD (.tup xs) (.tup ys)) (okEq (.tup xs) = true ∧ okEq (.tup ys) = true) := .data
instance {xs ys : List D} : EqC (.lst xs) (.lst ys) (eqD (.lst xs) (.lst ys)) (okEq (.lst xs) = true ∧ okEq (.lst ys) = true) := .data
instance {xs ys : List D} : EqC (.lst xs) (.tup ys) (eqD (.lst xs) (.tup ys)) (okEq (.lst xs) = true ∧ okEq (.tup ys) = true) := .data
instance {xs ys : List D} : EqC (.tup xs) (.lst ys) (eqD (.tup xs) (.lst ys)) (okEq (.tup xs) = true ∧ okEq (.lst ys) = true) := .data
instance {xs : List D} : EqC (.tup xs) .non (eqD (.tup xs) .non) (okEq (.tup xs) = true ∧ okEq .non = true) := .data
instance {xs : List D} : EqC .non (.tup xs) (eqD .non (.tup xs)) (okEq .non = true ∧ okEq (.tup xs) = true) := .data
instance {xs : List D} : EqC (.lst xs) .non (eqD (.lst xs) .non) (okEq (.lst xs) = true ∧ okEq .non = true) := .data
section
variable {X : Cx} {W : WX} {R : Rx X.K} {a b c e : Expr} {es : List Expr} {δ : DEnv} {I : Iv X.K} {P : D → Iv X.K → Prop} {pos p p2 : Pos} {x y z d : D} {x' : Str} {ds : List D} {i j : Int} {k : Bool} {C : Prop}
theorem pv_eq (hu : X.A.units + 64 < cLine) (ha : PV X I a δ x) (hb : PV X I b δ y) [E : EqC x y k C] (c : C) (hm : behindInMarks .Eq b = false := by first | exact nomark _ | rfl) : PV X I (.Compare a [.Eq] [b] pos) δ (.bl k) := by
  obtain ⟨r, ho, h⟩ := E.e c X I hu
  exact pv_cmp ho ha hb h hm
theorem pv_ne (hu : X.A.units + 64 < cLine) (ha : PV X I a δ x) (hb : PV X I b δ y) [E : EqC x y k C] (c : C) (hm : behindInMarks .NotEq b = false := by first | exact nomark _ | rfl) : PV X I (.Compare a [.NotEq] [b] pos) δ (.bl (!k)) := by
  obtain ⟨r, ho, h⟩ := E.n c X I hu
  exact pv_cmp ho ha hb h hm
theorem pt_eq (hu : X.A.units + 64 < cLine) (ha : PV X I a δ x) (hb : PV X I b δ y) [E : EqC x y k C] (c : C) (hm : behindInMarks .Eq b = false := by first | exact nomark _ | rfl) : PVT X I (.Compare a [.Eq] [b] pos) δ k := by
  obtain ⟨r, ho, h⟩ := E.e c X I hu
  exact pt_cmp ho ha hb h hm
theorem pt_ne (hu : X.A.units + 64 < cLine) (ha : PV X I a δ x) (hb : PV X I b δ y) [E : EqC x y k C] (c : C) (hm : behindInMarks .NotEq b = false := by first | exact nomark _ | rfl) : PVT X I (.Compare a [.NotEq] [b] pos) δ (!k) := by
  obtain ⟨r, ho, h⟩ := E.n c X I hu
  exact pt_cmp ho ha hb h hm
theorem pt_chn {op op' : CmpOp} {r r' : R2} {k l : Bool} (ho : OpR X (compareOp op) r) (ho' : OpR X (compareOp op') r') (ha : PV X I a δ x) (hb : PV X I b δ y) (h1 : P2 X.K I r x y (.bl k)) (hc : PV X I c δ z) (h2 : P2 X.K I r' y z (.bl l))
    (hm : lastMarks [op, op'] [b, c] = false := by with_unfolding_all rfl) : PVT X I (.Compare a [op, op'] [b, c] pos) δ (k && l) := fun W R P pp σ G H Q hE s hI qx q =>
  PT.wp (pt_chain ho ho' peC peC peC hm) (ha W R (fun z1 J => z1 = x ∧ J = I) ⟨rfl, rfl⟩ σ G H _ hE s hI qx fun v d1 G1 H1 I1 s1 t1 g1 r1 ⟨ed, ei⟩ => by
    subst ed ei
    refine hb W R (fun z1 J => z1 = y ∧ J = I1) ⟨rfl, rfl⟩ σ G1 H1 _ (hE.mono s1) t1 g1 (qx.mono s1) fun v2 d2 G2 H2 I2 s2 t2 g2 r2 ⟨ed2, ei2⟩ => ?_
    subst ed2 ei2
    refine h1 (fun z1 J => z1 = .bl k ∧ J = I2) ⟨rfl, rfl⟩ G2 H2 v v2 _ t2 g2 (r1.mono s2) r2 fun v3 d3 G3 H3 I3 s3 t3 g3 r3 ⟨ed3, ei3⟩ => ?_
    subst ed3 ei3
    refine ⟨k, r3, ?_⟩
    cases k with
    | false =>
      exact ⟨false, rfl, q false G3 H3 _ ((s1.trans s2).trans s3) t3 g3 pp⟩
    | true =>
      simp only [if_true]
      refine hc W R (fun z1 J => z1 = z ∧ J = I3) ⟨rfl, rfl⟩ σ G3 H3 _ (hE.mono ((s1.trans s2).trans s3)) t3 g3 (qx.mono ((s1.trans s2).trans s3)) fun v4 d4 G4 H4 I4 s4 t4 g4 r4 ⟨ed4, ei4⟩ => ?_
      subst ed4 ei4
      refine h2 (fun z1 J => z1 = .bl l ∧ J = I4) ⟨rfl, rfl⟩ G4 H4 v2 v4 _ t4 g4 ((r2.mono s3).mono s4) r4 fun v5 d5 G5 H5 I5 s5 t5 g5 r5 ⟨ed5, ei5⟩ => ?_
      subst ed5 ei5
      exact ⟨l, r5, q l G5 H5 _ ((((s1.trans s2).trans s3).trans s4).trans s5) t5 g5 pp⟩)
end
end DL
set_option Elab.async false
set_option linter.all false
set_option maxRecDepth 100000
set_option maxHeartbeats 4000000
namespace DL
open PySem PySem.Spec PyProof.Rows L2

structure wpGs (X : Cx) (ts : List Expr) (vs : List V) (σ : L2.St) (H : Hp) (Q : L2.St → Hp → Prop) : Prop where
  run : ∀ (pins : List (Addr × Obj)) (s : Shared) (us : List Value), Inv X pins σ H s → Vals vs us → wpAny (model X.prog X.w) X.A (assignInOrder ((assignEach ts X.env).map (·.2)) us) (fun _ s' => ∃ σ' H', Inv X pins σ' H' s' ∧ Q σ' H') X.xe s
def BindsD (X : Cx) (ts : List Expr) (ds : List D) (δ δ' : DEnv) (ws : List Nat) : Prop := ∀ (vs : List V) (σ : L2.St) (G H : Hp) (Q : L2.St → Hp → Prop), EnvR X.K G δ σ → Same G H → Reps X.K G ds vs → (∀ σ', EnvR X.K G δ' σ' → wipe σ' ws = wipe σ ws → Q σ' H) → wpGs X ts vs σ H Q
section
variable {X : Cx} {t e : Expr} {ts : List Expr} {d : D} {ds : List D} {δ δ1 δ2 : DEnv} {ws : List Nat} {pos : Pos} {W : WX} {I : Iv X.K} {κ : Ko X.K} {kk : Nat}
theorem pgsC : PGs X ts (wpGs X ts) := ⟨fun pins s σ H vs us Q I r h => h.run pins s us I r⟩
theorem bs_nil : BindsD X [] [] δ δ ws := fun vs σ G H Q hE s r q => ⟨fun pins s us J rv => pgs_nil.run pins s σ H vs us Q J rv ⟨r, q σ hE rfl⟩⟩
theorem bs_cons (h : BindD X t d δ δ1 ws) (h2 : BindsD X ts ds δ1 δ2 ws) (hs : (assignEach (t :: ts) X.env).map (·.2) = assign t X.env :: (assignEach ts X.env).map (·.2) := by rfl) : BindsD X (t :: ts) (d :: ds) δ δ2 ws := fun vs σ G H Q hE s ⟨v, r, ev, r1, r2⟩ q => by
  subst ev
  exact ⟨fun pins st us J rv => (pgs_cons pgC pgsC hs).run pins st σ H _ us Q J rv ⟨v, r, rfl, h v σ G H _ hE s r1 fun σ1 e1 w1 => h2 r σ1 G H Q e1 s r2 fun σ2 e2 w2 => q σ2 e2 (w2.trans w1)⟩⟩
theorem bind_tup (h : BindsD X ts ds δ δ2 ws) (hc : X.calm = true := by rfl) (hn : (assignEach ts X.env).length = ds.length := by rfl) (hst : (assignEach ts X.env).findIdx? (·.1) = none := by rfl) : BindD X (.Tuple ts kk pos) (.tup ds) δ δ2 ws := fun v σ G H Q hE s ⟨a, vs, ev, e1, r⟩ q =>
  PG.wp (pg_tup hc pgsC hn hst) ⟨a, vs, ev, sqT_mono s e1, r.length, h vs σ G H Q hE s r q⟩
theorem s_asgP (h : PV X I e δ d) (b : BindD X t d δ δ1 ws) (q : κ.nx δ1 I) (hs : swapsWithSole [t] e pos.line X.env = pure false := by rfl) (hw : swappedStores [t] e X.env = pure none := by rfl)
    (h1 : (assignEach [t] X.env).map (·.2) = [assign t X.env] := by rfl) : S1 X W (.Assign [t] e pos) δ I κ := fun σ G H E hE s hI k =>
  PS.wp (ps_asg peC pgC hs hw h1) (h W (κ.r δ) (fun z J => z = d ∧ J = I) ⟨rfl, rfl⟩ σ G H _ hE s hI (k.kx hE) fun v d1 G1 H1 I1 s1 t1 h1 r1 ⟨ed, ei⟩ => by
    subst ed ei
    exact b v σ G1 H1 _ (hE.mono s1) t1 r1 fun σ' e' _ => k.nx _ _ G1 H1 _ s1 t1 h1 e' q)
end

theorem lt_irr : ∀ a : List Nat, ltCps a a = false
  | [] => rfl
  | a :: r => by simp [ltCps, lt_irr r]
theorem lt_tr : ∀ a b c : List Nat, ltCps a b = true → ltCps b c = true → ltCps a c = true
  | [], [], _, h, _ => by simp [ltCps] at h
  | [], _ :: _, [], _, h => by simp [ltCps] at h
  | [], _ :: _, _ :: _, _, _ => rfl
  | _ :: _, [], _, h, _ => by simp [ltCps] at h
  | _ :: _, _ :: _, [], _, h => by simp [ltCps] at h
  | a :: r, b :: t, c :: u, h, k => by
    simp only [ltCps, Bool.or_eq_true, decide_eq_true_eq, Bool.and_eq_true, beq_iff_eq] at h k ⊢
    rcases h with h | ⟨h, h2⟩
    · rcases k with k | ⟨k, k2⟩
      · exact .inl (by omega)
      · exact .inl (by omega)
    · rcases k with k | ⟨k, k2⟩
      · exact .inl (by omega)
      · exact .inr ⟨by omega, lt_tr r t u h2 k2⟩
theorem lt_tri : ∀ a b : List Nat, ltCps a b = false → ltCps b a = false → a = b
  | [], [], _, _ => rfl
  | [], _ :: _, h, _ => by simp [ltCps] at h
  | _ :: _, [], _, h => by simp [ltCps] at h
  | a :: r, b :: t, h, k => by
    simp only [ltCps, Bool.or_eq_false_iff, decide_eq_false_iff_not, Bool.and_eq_false_iff, beq_eq_false_iff_ne] at h k
    have e : a = b := by omega
    subst e
    have h2 : ltCps r t = false := h.2.resolve_left (by simp)
    have k2 : ltCps t r = false := k.2.resolve_left (by simp)
    rw [lt_tri r t h2 k2]
def leS (a b : Str) : Bool := !ltCps b.cps.toList a.cps.toList
theorem leS_tr (a b c : Str) (h : leS a b = true) (k : leS b c = true) : leS a c = true := by
  unfold leS at h k ⊢
  simp only [Bool.not_eq_true'] at h k ⊢
  cases q : ltCps c.cps.toList a.cps.toList with
  | false => rfl
  | true =>
    cases q2 : ltCps a.cps.toList b.cps.toList with
    | true => rw [lt_tr _ _ _ q q2] at k; cases k
    | false =>
      have e := lt_tri _ _ h q2
      rw [e, q] at k
      cases k
theorem leS_total (a b : Str) : (leS a b || leS b a) = true := by
  unfold leS
  cases q : ltCps b.cps.toList a.cps.toList with
  | false => rfl
  | true =>
    cases q2 : ltCps a.cps.toList b.cps.toList with
    | false => rfl
    | true => have := lt_tr _ _ _ q q2; rw [lt_irr] at this; cases this
theorem leS_anti {a b : Str} (h : leS a b = true) (k : leS b a = true) : a = b := by
  unfold leS at h k
  simp only [Bool.not_eq_true'] at h k
  exact str_ext (lt_tri _ _ k h)
def sortS (xs : List Str) : List Str := xs.mergeSort leS
theorem sortS_perm (xs : List Str) : (sortS xs).Perm xs := List.mergeSort_perm xs _
theorem sortS_pw (xs : List Str) : (sortS xs).Pairwise (fun a b => leS a b = true) := List.pairwise_mergeSort leS_tr leS_total xs
theorem rising_pw : ∀ (ys : List Str) (p : Str), risingS p ys = true → (∀ y ∈ ys, leS p y = true) ∧ ys.Pairwise (fun a b => leS a b = true)
  | [], _, _ => ⟨(fun _ h => nomatch h), List.Pairwise.nil⟩
  | y :: ys, p, h => by
    obtain ⟨h1, h2⟩ := Bool.and_eq_true_iff.mp (show (!ltCps y.cps.toList p.cps.toList && risingS y ys) = true from h)
    obtain ⟨q1, q2⟩ := rising_pw ys y h2
    exact ⟨fun z hz => (List.mem_cons.mp hz).elim (fun e => e ▸ h1) fun hz => leS_tr _ _ _ h1 (q1 z hz), List.Pairwise.cons q1 q2⟩
theorem sorted_pw {ys : List Str} (h : sortedS ys = true) : ys.Pairwise (fun a b => leS a b = true) := by
  cases ys with
  | nil => exact .nil
  | cons y ys => exact .cons (rising_pw ys y h).1 (rising_pw ys y h).2
theorem sort_uniq {xs ys : List Str} (h1 : ys.Pairwise (fun a b => leS a b = true)) (h2 : ys.Perm xs) : ys = sortS xs :=
  List.Perm.eq_of_pairwise (fun a b _ _ => leS_anti) h1 (sortS_pw xs) (h2.trans (sortS_perm xs).symm)
theorem sortS_len (xs : List Str) : (sortS xs).length = xs.length := (sortS_perm xs).length_eq
theorem sortS_mem {x : Str} {xs : List Str} : x ∈ sortS xs ↔ x ∈ xs := (sortS_perm xs).mem_iff
theorem sortS_congr {xs ys : List Str} (h : xs.Perm ys) : sortS xs = sortS ys := sort_uniq (sortS_pw xs) ((sortS_perm xs).trans h)

section
variable {K : PySem.W.Frag} {I : Iv K} {d : D} {ds : List D} {kds : List (Key × D)} {ss : List Str}
theorem pn_sortedS (h : ss.length < 64) : PN K I (rSortedS K) [.lst (ss.map D.str)] (.lst ((sortS ss).map D.str)) := fun P p G H vs Q s hI r q => by
  obtain ⟨v, r1, rfl, ⟨a, xs, rfl, e2, e3⟩, er⟩ := r
  rw [show r1 = [] from er]
  rw [repsStr e3] at e2
  refine ⟨a, ss, rfl, SqL.of (s _ _ e2), h, fun ys p hp hs hq => ?_⟩
  rw [sort_uniq (sorted_pw hs) hp]
  have hg : G p = none := s.free hq
  exact q (.ref p) (.lst ((sortS ss).map D.str)) (upd G p (.lst ((sortS ss).map V.str))) _ I (Evl.Ex.new hg) (same_upd2 s) (hI.keep hq s) ⟨p, _, rfl, upd_same, (reps_flat (flatDs_str _))⟩ ‹_›
theorem pn_listD : PN K I (fun xs H Q => ∃ (a : Addr) (kvs : List (Key × V)), xs = [.ref a] ∧ Rd H a (.dK kvs) ∧ ∀ p, H p = none → Q (.ref p) (upd H p (.lst (kvs.map fun kv => kV kv.1)))) [dicD kds] (.lst (kds.map fun p => keyV p.1)) := fun P pp G H vs Q s hI r q => by
  obtain ⟨v, r1, rfl, rd, er⟩ := r
  rw [show r1 = [] from er]
  obtain ⟨a, od, kvs, rfl, e1, kr⟩ := rep_dicD.mp rd
  refine ⟨a, kvs, rfl, .inr ⟨od, s _ _ e1⟩, fun p hq => ?_⟩
  have hg : G p = none := s.free hq
  have rr : Reps K (upd G p (.lst (kvs.map fun kv => kV kv.1))) (kds.map fun p => keyV p.1) (kvs.map fun kv => kV kv.1) := by
    have e := kr.keys
    have e2 : (kvs.map fun kv => kV kv.1) = (kds.map (·.1)).map kV := by rw [← e, List.map_map]; rfl
    have e3 : (kds.map fun p => keyV p.1) = (kds.map (·.1)).map keyV := by rw [List.map_map]; rfl
    rw [e2, e3]
    generalize kds.map (·.1) = ks
    generalize upd G p _ = G'
    induction ks with
    | nil => exact .nil
    | cons k ks ih => exact .cons (rep_keyV k) ih
  exact q (.ref p) (.lst (kds.map fun p => keyV p.1)) (upd G p (.lst _)) _ I (Evl.Ex.new hg) (same_upd2 s) (hI.keep hq s) ⟨p, _, rfl, upd_same, rr⟩ pp
end

def cutD (ds : List D) (lo hi : Option Int) : List D := (ds.drop (HT.sIx ds.length 0 lo)).take (HT.sIx ds.length ds.length hi - HT.sIx ds.length 0 lo)
theorem Reps.drop {K : PySem.W.Frag} {G : Hp} : ∀ {ds : List D} {vs : List V} (n : Nat), Reps K G ds vs → Reps K G (ds.drop n) (vs.drop n)
  | _, _, 0, h => h
  | [], _, n + 1, h => by rw [show _ = [] from h]; exact rfl
  | _ :: _, _, n + 1, ⟨v, r, e, _, h3⟩ => by rw [e]; exact Reps.drop n h3
theorem Reps.take {K : PySem.W.Frag} {G : Hp} : ∀ {ds : List D} {vs : List V} (n : Nat), Reps K G ds vs → Reps K G (ds.take n) (vs.take n)
  | [], _, n, h => by rw [show _ = [] from h, List.take_nil, List.take_nil]; exact rfl
  | _ :: _, _, 0, _ => rfl
  | _ :: _, _, n + 1, ⟨v, r, e, h2, h3⟩ => by rw [e]; exact ⟨v, r.take n, rfl, h2, Reps.take n h3⟩
theorem Reps.cut {K : PySem.W.Frag} {G : Hp} {ds : List D} {vs : List V} (h : Reps K G ds vs) (lo hi : Option Int) : Reps K G (cutD ds lo hi) (cutV vs lo hi) := by
  unfold cutD cutV
  rw [h.length]
  exact (h.drop _).take _
theorem cut_take (ds : List D) (n : Nat) : cutD ds none (some (n : Int)) = ds.take n := by
  unfold cutD
  rw [HT.sIx_none, HT.sIx_nat, List.drop_zero, Nat.sub_zero]
  rw [Nat.min_def]
  split
  · rfl
  · rw [List.take_length, List.take_of_length_le (by omega)]
theorem cut_drop (ds : List D) (n : Nat) : cutD ds (some (n : Int)) none = ds.drop n := by
  unfold cutD
  rw [HT.sIx_none, HT.sIx_nat, Nat.min_def]
  split
  · rw [List.take_of_length_le (by simp)]
  · rw [List.drop_length, List.take_nil, List.drop_of_length_le (by omega)]
theorem cut_mid (ds : List D) (n m : Nat) : cutD ds (some (n : Int)) (some (m : Int)) = (ds.drop n).take (m - n) := by
  unfold cutD
  rw [HT.sIx_nat, HT.sIx_nat]
  by_cases h : n ≤ ds.length
  · rw [Nat.min_eq_left h]
    by_cases h2 : m ≤ ds.length
    · rw [Nat.min_eq_left h2]
    · rw [Nat.min_eq_right (show ds.length ≤ m by omega), List.take_of_length_le (show (ds.drop n).length ≤ ds.length - n by simp), List.take_of_length_le (show (ds.drop n).length ≤ m - n by simp; omega)]
  · rw [Nat.min_eq_right (show ds.length ≤ n by omega), List.drop_length, List.take_nil, List.drop_of_length_le (show ds.length ≤ n by omega), List.take_nil]
theorem cut_last (ds : List D) : cutD ds (some (-1)) none = ds.drop (ds.length - 1) := by
  unfold cutD
  have e : HT.sIx ds.length 0 (some (-1)) = ds.length - 1 := by
    show (if (-1 : Int) < 0 then ((-1 : Int) + (ds.length : Int)).toNat else min (-1 : Int).toNat ds.length) = _
    rw [if_pos (by decide)]
    omega
  rw [e, HT.sIx_none, List.take_of_length_le (by simp)]
theorem cut_init (ds : List D) : cutD ds none (some (-1)) = ds.take (ds.length - 1) := by
  unfold cutD
  have e : HT.sIx ds.length ds.length (some (-1)) = ds.length - 1 := by
    show (if (-1 : Int) < 0 then ((-1 : Int) + (ds.length : Int)).toNat else min (-1 : Int).toNat ds.length) = _
    rw [if_pos (by decide)]
    omega
  rw [e, HT.sIx_none, List.drop_zero, Nat.sub_zero]
structure wpO (X : Cx) (o : Option Expr) (σ : L2.St) (H : Hp) (Q : Option Int → Hp → Prop) : Prop where
  run : ∀ (pins : List (Addr × Obj)) (s : Shared), Inv X pins σ H s → wpAny (model X.prog X.w) X.A (evalPart o X.env) (fun u s' => ∃ o H', Inv X pins σ H' s' ∧ IsPart u o ∧ Q o H') X.xe s
section
variable {X : Cx} {a e : Expr} {lo hi : Option Expr} {δ : DEnv} {I : Iv X.K} {pos p2 : Pos} {ds : List D} {l h : Option Int} {i : Int} {z : Str}
theorem poC : PO X lo (wpO X lo) := ⟨fun pins s σ H Q I h => h.run pins s I⟩
def PVO (X : Cx) (I : Iv X.K) (lo : Option Expr) (δ : DEnv) (l : Option Int) : Prop := ∀ (W : WX) (R : Rx X.K) (σ : L2.St) (G H : Hp) (Q : Option Int → Hp → Prop), EnvR X.K G δ σ → Same G H → Hd I G H → Kx X.K W σ G R →
  (∀ G' H', Same G G' → Same G' H' → Hd I G' H' → Q l H') → wpO X lo σ H Q
theorem vo_none : PVO X I none δ none := fun W R σ G H Q _ s hI _ q => ⟨fun pins st J => po_none.run pins st σ H Q J (q G H (Same.refl G) s hI)⟩
theorem vo_some (he : PV X I e δ (.int i)) : PVO X I (some e) δ (some i) := fun W R σ G H Q hE s hI qx q => ⟨fun pins st J => (po_some peC).run pins st σ H Q J
  (he W R (fun z J => z = .int i ∧ J = I) ⟨rfl, rfl⟩ σ G H _ hE s hI qx fun v d G1 H1 I1 s1 t1 g1 r1 ⟨ed, ei⟩ => by
    subst ed ei
    exact ⟨i, r1, q G1 H1 s1 t1 g1⟩)⟩
theorem pv_slice {r : V → Option Int → Option Int → Hp → VK → Prop} {x z : D} (hr : SlR X r) (ha : PV X I a δ x) (hl : PVO X I lo δ l) (hh : PVO X I hi δ h)
    (k : ∀ (G H : Hp) (v : V) (Q : VK), Same G H → Hd I G H → Rep X.K G x v → (∀ (w : V) (G' H' : Hp), Same G G' → Same G' H' → Hd I G' H' → Rep X.K G' z w → Q w H') → r v l h H Q) : PV X I (.Subscript a (.Slice lo hi none p2) pos) δ z := fun W R P pp σ G H Q hE s hI qx q =>
  PE.wp (pe_slice hr peC poC poC) (ha W R (fun y J => y = x ∧ J = I) ⟨rfl, rfl⟩ σ G H _ hE s hI qx fun v d G1 H1 I1 s1 t1 g1 r1 ⟨ed, ei⟩ => by
    subst ed ei
    refine hl W R σ G1 H1 _ (hE.mono s1) t1 g1 (qx.mono s1) fun G2 H2 s2 t2 g2 => ?_
    refine hh W R σ G2 H2 _ (hE.mono (s1.trans s2)) t2 g2 (qx.mono (s1.trans s2)) fun G3 H3 s3 t3 g3 => ?_
    exact k G3 H3 v Q t3 g3 ((r1.mono s2).mono s3) fun w G4 H4 s4 t4 g4 r4 => q w z G4 H4 _ (((s1.trans s2).trans s3).trans s4) t4 g4 r4 pp)
theorem pv_slL (ha : PV X I a δ (.lst ds)) (hl : PVO X I lo δ l) (hh : PVO X I hi δ h) : PV X I (.Subscript a (.Slice lo hi none p2) pos) δ (.lst (cutD ds l h)) :=
  pv_slice sl_list ha hl hh fun G H v Q s hI ⟨b, vs, ev, e1, e2⟩ q => ⟨b, vs, ev, SqL.of (s _ _ e1), fun p hp => by
    have hg : G p = none := s.free hp
    exact q (.ref p) _ _ (Evl.Ex.new hg) (same_upd2 s) (hI.keep hp s) ⟨p, _, rfl, upd_same, (e2.cut l h).mono (Evl.Ex.new hg)⟩⟩
theorem cutV_whole {vs : List V} (h1 : HT.sIx vs.length 0 l = 0) (h2 : HT.sIx vs.length vs.length h = vs.length) : cutV vs l h = vs := by
  unfold cutV
  rw [h1, h2]
  simp
theorem pv_slT (ha : PV X I a δ (.tup ds)) (hl : PVO X I lo δ l) (hh : PVO X I hi δ h) : PV X I (.Subscript a (.Slice lo hi none p2) pos) δ (.tup (cutD ds l h)) :=
  pv_slice sl_tupA ha hl hh fun G H v Q s hI ⟨b, vs, ev, e1, e2⟩ q => ⟨b, vs, ev, sqT_mono s e1, fun hw => q (.ref b) G H (Same.refl G) s hI ⟨b, cutV vs l h, rfl, by rw [cutV_whole hw.1 hw.2]; exact e1, e2.cut l h⟩, fun _ p hp => by
    have hg : G p = none := s.free hp
    exact q (.ref p) _ _ (Evl.Ex.new hg) (same_upd2 s) (hI.keep hp s) ⟨p, _, rfl, SqT.of upd_same, (e2.cut l h).mono (Evl.Ex.new hg)⟩⟩
end
end DL
set_option Elab.async false
set_option linter.all false
set_option maxRecDepth 100000
set_option maxHeartbeats 4000000
namespace DL
open PySem PySem.Spec PyProof.Rows L2

def msk : DEnv → DEnv → DEnv
  | a :: as, none :: bs => none :: msk as bs
  | a :: as, some _ :: bs => a :: msk as bs
  | _, _ => []
def DLe (δ δ0 : DEnv) : Prop := δ.length = δ0.length ∧ ∀ (i : Nat) (d : D), δ0[i]? = some (some d) → δ[i]? = some (some d)
theorem DLe.refl {δ : DEnv} : DLe δ δ := ⟨rfl, fun _ _ h => h⟩
theorem DLe.trans {a b c : DEnv} (h : DLe a b) (k : DLe b c) : DLe a c := ⟨h.1.trans k.1, fun i d e => h.2 i d (k.2 i d e)⟩
theorem msk_of : ∀ {δ δ0 : DEnv}, msk δ δ0 = δ0 → DLe δ δ0 ∨ δ0.length < δ.length ∨ δ0 = []
  | [], [], _ => .inl .refl
  | [], b :: bs, h => by cases b <;> cases h
  | a :: as, [], _ => .inr (.inr rfl)
  | a :: as, none :: bs, h => by
    have h2 : msk as bs = bs := (List.cons.inj h).2
    rcases msk_of h2 with q | q | q
    · refine .inl ⟨by simp [q.1], fun i d e => ?_⟩
      cases i with
      | zero => cases e
      | succ i => exact q.2 i d e
    · exact .inr (.inl (by simpa using q))
    · subst q
      cases as with
      | nil => exact .inl ⟨rfl, fun i d e => by cases i with
        | zero => cases e
        | succ i => cases e⟩
      | cons _ _ => exact .inr (.inl (by simp))
  | a :: as, some b :: bs, h => by
    have h1 : a = some b := (List.cons.inj h).1
    have h2 : msk as bs = bs := (List.cons.inj h).2
    rcases msk_of h2 with q | q | q
    · refine .inl ⟨by simp [q.1], fun i d e => ?_⟩
      cases i with
      | zero => rw [h1]; exact e
      | succ i => exact q.2 i d e
    · exact .inr (.inl (by simpa using q))
    · subst q
      cases as with
      | nil => exact .inl ⟨rfl, fun i d e => by cases i with
        | zero => rw [h1]; exact e
        | succ i => cases e⟩
      | cons _ _ => exact .inr (.inl (by simp))
theorem DLe.of {δ δ0 : DEnv} (h : msk δ δ0 = δ0) (hl : δ.length = δ0.length) : DLe δ δ0 := by
  rcases msk_of h with q | q | q
  · exact q
  · omega
  · subst q
    exact ⟨hl, fun i d e => by simp at e⟩
theorem DLe.wipe (δ : DEnv) : ∀ vs, DLe δ (wipeD δ vs)
  | [] => .refl
  | v :: vs => (DLe.wipe δ vs).trans ⟨by show _ = ((wipeD δ vs).set v none).length; simp, fun i d e => by
    have e : ((wipeD δ vs).set v none)[i]? = some (some d) := e
    by_cases h : v = i
    · subst h
      rw [List.getElem?_set] at e
      simp at e
    · rwa [List.getElem?_set_ne h] at e⟩
theorem EnvR.le {K : PySem.W.Frag} {G : Hp} {δ δ0 : DEnv} {σ : L2.St} (h : EnvR K G δ σ) (k : DLe δ δ0) : EnvR K G δ0 σ := ⟨h.1.trans k.1, fun i d e => h.2 i d (k.2 i d e)⟩
section
variable {X : Cx} {W : WX} {R : Rx X.K} {tg iter e elt c : Expr} {ifs : List Expr} {scope : Scope} {sts body : List Stmt} {st : Stmt} {δ δ0 : DEnv} {I : Iv X.K} {κ : Ko X.K} {P : D → Iv X.K → Prop} {pos : Pos} {d : D} {vs : List Nat}
theorem SX.le (k : DLe δ δ0) (h : SX X W sts δ0 I κ) : SX X W sts δ I κ := fun σ G H E hE => h σ G H E (hE.le k)
theorem S1.le (k : DLe δ δ0) (h : S1 X W st δ0 I κ) : S1 X W st δ I κ := fun σ G H E hE => h σ G H E (hE.le k)
theorem BindD.le {δ1 : DEnv} (k : DLe δ δ0) (h : BindD X tg d δ0 δ1 vs) : BindD X tg d δ δ1 vs := fun v σ G H Q hE => h v σ G H Q (hE.le k)
def Ko.w {K : PySem.W.Frag} (κ : Ko K) : Ko K := { κ with nx := fun δ' I' => ∃ δ0, DLe δ' δ0 ∧ κ.nx δ0 I', bk := fun δ' I' => ∃ δ0, DLe δ' δ0 ∧ κ.bk δ0 I', ct := fun δ' I' => ∃ δ0, DLe δ' δ0 ∧ κ.ct δ0 I' }
theorem KoLe.w {K : PySem.W.Frag} {W : WX} {E : Ends} {G : Hp} {κ : Ko K} (h : KoLe K W E G κ) : KoLe K W E G κ.w where
  nx := fun δ σ G' H' I' s1 s2 hI hE ⟨δ0, k, q⟩ => h.nx δ0 σ G' H' I' s1 s2 hI (hE.le k) q
  bk := fun δ σ G' H' I' s1 s2 hI hE ⟨δ0, k, q⟩ => h.bk δ0 σ G' H' I' s1 s2 hI (hE.le k) q
  ct := fun δ σ G' H' I' s1 s2 hI hE ⟨δ0, k, q⟩ => h.ct δ0 σ G' H' I' s1 s2 hI (hE.le k) q
  rt := h.rt
  ex := h.ex
theorem SX.w (h : SX X W sts δ I κ.w) : SX X W sts δ I κ := fun σ G H E hE s hI k => h σ G H E hE s hI k.w
theorem S1.w (h : S1 X W st δ I κ.w) : S1 X W st δ I κ := fun σ G H E hE s hI k => h σ G H E hE s hI k.w

theorem get_map {α : Type} {g : α → D} {xs : List α} {i : Nat} {d : D} (h : (xs.map g)[i]? = some d) : ∃ x, xs[i]? = some x ∧ d = g x := by
  rw [List.getElem?_map] at h
  cases e : xs[i]? with
  | none => rw [e] at h; cases h
  | some x => rw [e] at h; exact ⟨x, rfl, (Option.some.inj h).symm⟩
theorem s_forT {α : Type} {xs : List α} {g : α → D} (po : PassesOwn (model X.prog X.w) X.A X.env X.xe) (hi : PVI X I tg iter δ (xs.map g)) (Nv : List α → DEnv → Iv X.K → Prop) (h0 : Nv [] δ I)
    (step : ∀ p x r δ' I', xs = p ++ x :: r → Nv p δ' I' → ∃ δ'' vs, BindD X tg (g x) δ' δ'' vs ∧ SX X W body δ'' I' { κ with nx := Nv (p ++ [x]), ct := Nv (p ++ [x]), bk := κ.nx }) (fin : ∀ δ' I', Nv xs δ' I' → κ.nx δ' I')
    (hc : X.calm = true := by rfl) (hs : ∀ x, foldedSetIterable iter X.env x = pure x := by intro _; rfl) : S1 X W (.For tg iter body [] pos) δ I κ :=
  s_for po (hi W (κ.r δ) _ ⟨fun i => Nv (xs.take i), h0, fun i d δ' I' hd nv => by
    obtain ⟨x, hx, rfl⟩ := get_map hd
    have hl := (List.getElem?_eq_some_iff.mp hx).1
    have e : xs = xs.take i ++ x :: xs.drop (i + 1) := by
      rw [← (List.getElem?_eq_some_iff.mp hx).2, List.getElem_cons_drop hl, List.take_append_drop]
    have e2 : xs.take (i + 1) = xs.take i ++ [x] := take_snoc hx
    obtain ⟨δ'', vs, b, q⟩ := step _ x _ δ' I' e nv
    rw [← e2] at q
    exact ⟨δ'', vs, b, q⟩, fun δ' I' nv => fin δ' I' (by rw [List.length_map, List.take_length] at nv; exact nv)⟩) hc hs
def LcH (X : Cx) (W : WX) (R : Rx X.K) (elt tg iter : Expr) (ifs : List Expr) (scope : Scope) (own : List (Str × Nat)) (δ : DEnv) (I : Iv X.K) (P : D → Iv X.K → Prop) : Prop := EvI X W R tg iter δ I fun ds I1 => ds.length ≤ 1000000 ∧ ∃ (Nv : Nat → List D → Prop), Nv 0 [] ∧ (∀ i d ys, ds[i]? = some d → Nv i ys → ∃ (T : Bool → Prop) (δ' : DEnv), (∀ (J : Iv X.K) (s : Shared) (H : Hp) (C : Addr) (cl : List (Str × Addr)) (fp : List Addr),
        BindD (X.blk s H scope (compEnvC scope cl C X.env) fp) tg d (wipeD δ (own.map (·.2))) δ' (own.map (·.2)) ∧
        EvTs (X.blk s H scope (compEnvC scope cl C X.env) fp) W0 R0 ifs δ' (I1.and J) fun b I2 => I2 = I1.and J ∧ T b) ∧
        (T true → ∀ (J : Iv X.K) (s : Shared) (H : Hp) (C : Addr) (cl : List (Str × Addr)) (fp : List Addr), EvX (X.blk s H scope (compEnvC scope cl C X.env) fp) W0 R0 elt δ' (I1.and J) fun y I3 => I3 = I1.and J ∧ Nv (i + 1) (ys ++ [y])) ∧ (T false → Nv (i + 1) ys)) ∧
      ∀ ys, Nv ds.length ys → P (.lst ys) I1
theorem lcH_t {own : List (Str × Nat)} (h : LcH X W R elt tg iter ifs scope own δ I P) {σ : L2.St} {G H : Hp} {Q : VK} (hE : EnvR X.K G δ σ) (s : Same G H) (hI : Hd I G H) (qx : Kx X.K W σ G R) (q : Kv X.K Q G P) :
    tLc (wpI X tg iter) (fun v σ H Q => ∀ s0 H0 C cl fp, wpG (X.blk s0 H0 scope (compEnvC scope cl C X.env) fp) tg v σ H Q) (fun σ H Q => ∀ s0 H0 C cl fp, wpTs (X.blk s0 H0 scope (compEnvC scope cl C X.env) fp) ifs σ H Q)
      (fun σ H Q => ∀ s0 H0 C cl fp, wpE (X.blk s0 H0 scope (compEnvC scope cl C X.env) fp) elt σ H Q) (own.map (·.2)) σ H Q := by
  refine h σ G H _ hE s hI qx fun J ds G1 H1 I1 s1 t1 h1 wk ⟨hz, Nv, n0, step, fin⟩ D hD => ?_
  have gD : G1 D = none := t1.free hD
  have apart : ∀ a, ¬ (I1.F a ∧ a = D) := fun a ha => h1.dom ha.1 (by rw [ha.2]; exact hD)
  refine ⟨fun i m H' => m = ds.length - i ∧ i ≤ ds.length ∧ ∃ ys G', Nv i ys ∧ ys.length ≤ i ∧ Same G1 G' ∧ Same G' H' ∧ Hd (I1.and (iLst X.K D ys)) G' H', ⟨_, rfl, Nat.zero_le _, [], G1, n0, Nat.le_refl _, Same.refl _, same_upd t1 gD, ?_⟩, ?_⟩
  · exact Hd.mk2 (h1.newp hD) ⟨⟨_, upd_same, [], rfl, rfl⟩, fun a ha => by rw [show a = D from ha]; exact gD⟩ apart
  · rintro i m H' ⟨rfl, hi, ys, G', nv, hy, s2, t2, hd2⟩
    by_cases hlt : i < ds.length
    · refine .inr ⟨wk.go i G' H' s2 t2 hlt, fun H3 => ∃ ys3 G3, Nv (i + 1) ys3 ∧ ys3.length ≤ i + 1 ∧ Same G1 G3 ∧ Same G3 H3 ∧ Hd (I1.and (iLst X.K D ys3)) G3 H3, fun H3 ⟨ys3, G3, q1, q2, q3, q4, q5⟩ => ⟨ds.length - (i + 1), by omega, rfl, hlt, ys3, G3, q1, q2, q3, q4, q5⟩, fun x H3 hyl => ?_⟩
      obtain ⟨G3, s3, t3, h3, _, d, hd, rd⟩ := wk.yld i G' H' _ x H3 s2 t2 hd2 hlt hyl
      obtain ⟨T, δ', stA, stB, stC⟩ := step i d ys hd nv
      intro s0 H0 C cl fp
      refine (stA (iLst X.K D ys) s0 H0 C cl fp).1 x _ G3 H3 _ (((hE.mono s1).mono (s2.trans s3)).wipe _) t3 rd fun σ4 e4 ew => ⟨by rw [ew, wipe_wipe], ?_⟩
      intro s0 H0 C cl fp
      refine (stA (iLst X.K D ys) s0 H0 C cl fp).2 σ4 G3 H3 _ e4 t3 h3 kx0 fun b G4 H4 I4 s4 t4 h4 ⟨eI, pb⟩ => ?_
      subst eI
      cases b with
      | false => exact ⟨ys, G4, stC pb, by omega, (s2.trans s3).trans s4, t4, h4⟩
      | true =>
        intro s0 H0 C cl fp
        refine stB pb (iLst X.K D ys) s0 H0 C cl fp σ4 G4 H4 _ (e4.mono s4) t4 h4 kx0 fun y dy G5 H5 I5 s5 t5 h5 r5 ⟨eI, nv5⟩ => ?_
        subst eI
        obtain ⟨o, ho, vs, ev, rv⟩ := h5.right.ph
        subst ev
        have g5 : G5 D = none := h5.right.fr D rfl
        refine ⟨vs, ho, ?_, ys ++ [dy], G5, nv5, by simp; omega, ((s2.trans s3).trans s4).trans s5, same_upd t5 g5, ?_⟩
        · rw [rv.length, sizeLine_eq]; omega
        · refine Hd.mk2 (h5.left.chg fun hf => apart D ⟨hf, rfl⟩) ⟨⟨_, upd_same, _, rfl, rv.append (Reps.one r5)⟩, h5.right.fr⟩ apart
    · have ei : i = ds.length := by omega
      subst ei
      obtain ⟨o, ho, vs, ev, rv⟩ := hd2.right.ph
      subst ev
      have g5 : G' D = none := hd2.right.fr D rfl
      refine .inl ⟨wk.stop G' H' s2 t2, q (.ref D) (.lst ys) (upd G' D (.lst vs)) H' I1 ((s1.trans s2).trans (Evl.Ex.new g5)) (same_freeze t2 ho) ?_ ⟨D, vs, rfl, upd_same, rv.mono (Evl.Ex.new g5)⟩ (fin ys nv)⟩
      exact ⟨I1.loc G' _ H' H' (Evl.Ex.new g5) (fun _ _ => rfl) hd2.left.ph, fun a ha => by rw [upd_ne fun e => apart a ⟨ha, e⟩]; exact hd2.left.fr a ha⟩
theorem ev_lcG (own : List (Str × Nat)) (hN : X.N.Nodup) (ok : BlkOk X.N X.env.scope scope own) (h : LcH X W R elt tg iter ifs scope own δ I P)
    (hc : X.calm = true := by rfl) (hs : ∀ x, foldedSetIterable iter X.env x = pure x := by intro _; rfl) : EvX X W R (.ListComp elt [⟨tg, iter, ifs, 0⟩] scope pos) δ I P := fun σ G H Q hE s hI qx q =>
  PE.wp (pe_lc hc hN piC ok (fun s0 H0 C cl fp => ⟨fun pins s σ H v u Q J r k => (k s0 H0 C cl fp).run pins s u J r⟩) (fun s0 H0 C cl fp => ⟨fun pins s σ H Q J k => (k s0 H0 C cl fp).run pins s J⟩) (fun s0 H0 C cl fp => ⟨fun pins s σ H Q J k => (k s0 H0 C cl fp).run pins s J⟩) hs) (lcH_t h hE s hI qx q)
theorem s_setLc (i : Nat) {y : Str} {py spos : Pos} (own : List (Str × Nat)) (h : LcH X W (κ.r δ) elt tg iter ifs scope own δ I fun d I1 => κ.nx (δ.set i (some d)) I1) (hN : X.N.Nodup := by assumption) (hi : X.N[i]? = some y := by rfl) (hyl : X.env.scope.names.lookup y = some .local := by rfl)
    (hsw : swapsWith (.ListComp elt [⟨tg, iter, ifs, 0⟩] scope pos) (some (.Name y py)) spos.line X.env = pure true := by exact sw_true rfl rfl rfl (by decide +kernel)) (ok : blkC X.N X.env.scope scope own = true := by rfl)
    (hc : X.calm = true := by rfl) (hs : ∀ x, foldedSetIterable iter X.env x = pure x := by intro _; rfl) : S1 X W (.Assign [.Name y py] (.ListComp elt [⟨tg, iter, ifs, 0⟩] scope pos) spos) δ I κ := fun σ G H E hE s hI k =>
  PS.wp (ps_setLc hc hN hi hyl hsw piC (blkOk_by ok) (fun s0 H0 C cl fp => ⟨fun pins s σ H v u Q J r k => (k s0 H0 C cl fp).run pins s u J r⟩) (fun s0 H0 C cl fp => ⟨fun pins s σ H Q J k => (k s0 H0 C cl fp).run pins s J⟩) (fun s0 H0 C cl fp => ⟨fun pins s σ H Q J k => (k s0 H0 C cl fp).run pins s J⟩) hs)
    (lcH_t h hE s hI (k.kx hE) fun v d G1 H1 I1 s1 t1 h1 r1 p => k.nx _ _ G1 H1 I1 s1 t1 h1 ((hE.mono s1).set r1) p)
theorem take_filter {α : Type} {xs : List α} {i : Nat} {x : α} (t : α → Bool) (h : xs[i]? = some x) : (xs.take (i + 1)).filter t = (xs.take i).filter t ++ if t x = true then [x] else [] := by
  rw [take_snoc h, List.filter_append]
  cases q : t x <;> simp [q]
theorem lcM {α : Type} {xs : List α} {g : α → D} (f : α → D) (own : List (Str × Nat)) (δ' : α → DEnv) (hi : PVI X I tg iter δ (xs.map g)) (hz : xs.length ≤ 1000000)
    (hb : ∀ (x : α) (s : Shared) (H : Hp) (C : Addr) (cl : List (Str × Addr)) (fp : List Addr), BindD (X.blk s H scope (compEnvC scope cl C X.env) fp) tg (g x) (wipeD δ (own.map (·.2))) (δ' x) (own.map (·.2)))
    (he : ∀ x, x ∈ xs → ∀ (J : Iv X.K) (s : Shared) (H : Hp) (C : Addr) (cl : List (Str × Addr)) (fp : List Addr), PV (X.blk s H scope (compEnvC scope cl C X.env) fp) (I.and J) elt (δ' x) (f x)) (pp : P (.lst (xs.map f)) I) : LcH X W R elt tg iter [] scope own δ I P := by
  refine hi W R _ ⟨by simpa using hz, fun i ys => ys = (xs.take i).map f, rfl, ?_, fun ys e => ?_⟩
  · rintro i d ys hd rfl
    obtain ⟨x, hx, rfl⟩ := get_map hd
    have hm : x ∈ xs := List.mem_of_getElem? hx
    refine ⟨fun b => b = true, δ' x, fun J s H C cl fp => ⟨hb x s H C cl fp, ets_nil ⟨rfl, rfl⟩⟩, fun e J s H C cl fp => ((he x hm J s H C cl fp).ev ⟨rfl, ?_⟩), fun e => nomatch (show false = true from e)⟩
    show _ = (xs.take (i + 1)).map f
    rw [take_snoc hx, List.map_append]; rfl
  · have e : ys = (xs.take (xs.map g).length).map f := e
    rw [List.length_map, List.take_length] at e
    rw [e]; exact pp
theorem pv_lcTM {α : Type} {xs : List α} {g : α → D} (f : α → D) (own : List (Str × Nat)) (δ' : α → DEnv) (hi : PVI X I tg iter δ (xs.map g)) (hz : xs.length ≤ 1000000)
    (hb : ∀ (x : α) (s : Shared) (H : Hp) (C : Addr) (cl : List (Str × Addr)) (fp : List Addr), BindD (X.blk s H scope (compEnvC scope cl C X.env) fp) tg (g x) (wipeD δ (own.map (·.2))) (δ' x) (own.map (·.2)))
    (he : ∀ x, x ∈ xs → ∀ (J : Iv X.K) (s : Shared) (H : Hp) (C : Addr) (cl : List (Str × Addr)) (fp : List Addr), PV (X.blk s H scope (compEnvC scope cl C X.env) fp) (I.and J) elt (δ' x) (f x))
    (hN : X.N.Nodup := by assumption) (ok : blkC X.N X.env.scope scope own = true := by rfl)
    (hc : X.calm = true := by rfl) (hs : ∀ x, foldedSetIterable iter X.env x = pure x := by intro _; rfl) : PV X I (.ListComp elt [⟨tg, iter, [], 0⟩] scope pos) δ (.lst (xs.map f)) := fun W R P pp =>
  ev_lcG own hN (blkOk_by ok) (lcM f own δ' hi hz hb he pp) hc hs
end

section
variable {X : Cx} {W : WX} {R : Rx X.K} {tg iter kx vx : Expr} {scope : Scope} {δ : DEnv} {I : Iv X.K} {P : D → Iv X.K → Prop} {pos : Pos}
theorem putG_new {α : Type} {acc : List (Key × α)} {k : Key} {v : α} (h : k ∉ acc.map (·.1)) : putG acc k v = acc ++ [(k, v)] := by
  unfold putG
  rw [if_neg]
  intro q
  obtain ⟨z, hz, e⟩ := List.any_eq_true.mp q
  exact h (List.mem_map.mpr ⟨z, hz, of_decide_eq_true e⟩)
theorem pv_dcT {α : Type} {xs : List α} {g : α → D} (fk : α → Key) (f : α → D) (own : List (Str × Nat)) (δ' : α → DEnv) (hi : PVI X I tg iter δ (xs.map g)) (hz : xs.length ≤ 1000000)
    (hb : ∀ (x : α) (s : Shared) (H : Hp) (C : Addr) (cl : List (Str × Addr)) (fp : List Addr), BindD (X.blk s H scope (compEnvC scope cl C X.env) fp) tg (g x) (wipeD δ (own.map (·.2))) (δ' x) (own.map (·.2)))
    (hk : ∀ x, x ∈ xs → ∀ (J : Iv X.K) (s : Shared) (H : Hp) (C : Addr) (cl : List (Str × Addr)) (fp : List Addr), PV (X.blk s H scope (compEnvC scope cl C X.env) fp) (I.and J) kx (δ' x) (keyV (fk x)))
    (he : ∀ x, x ∈ xs → ∀ (J : Iv X.K) (s : Shared) (H : Hp) (C : Addr) (cl : List (Str × Addr)) (fp : List Addr), PV (X.blk s H scope (compEnvC scope cl C X.env) fp) (I.and J) vx (δ' x) (f x))
    (nd : (xs.map fk).Nodup)
    (hN : X.N.Nodup := by assumption) (ok : blkC X.N X.env.scope scope own = true := by rfl)
    (hc : X.calm = true := by rfl) (hs : ∀ x, foldedSetIterable iter X.env x = pure x := by intro _; rfl) : PV X I (.DictComp kx vx [⟨tg, iter, [], 0⟩] scope pos) δ (dicD (xs.map fun x => (fk x, f x))) := fun W R P pp => by
  refine ev_freezeD fun σ G H Q hE s hI qx q => ?_
  refine PE.wp (pe_dc (wi := wpI X tg iter) (g := fun v σ H Q => ∀ s0 H0 C cl fp, wpG (X.blk s0 H0 scope (compEnvC scope cl C X.env) fp) tg v σ H Q) (tt := fun σ H Q => ∀ s0 H0 C cl fp, wpTs (X.blk s0 H0 scope (compEnvC scope cl C X.env) fp) [] σ H Q)
    (tk := fun σ H Q => ∀ s0 H0 C cl fp, wpE (X.blk s0 H0 scope (compEnvC scope cl C X.env) fp) kx σ H Q) (tv := fun σ H Q => ∀ s0 H0 C cl fp, wpE (X.blk s0 H0 scope (compEnvC scope cl C X.env) fp) vx σ H Q) hc hN piC (blkOk_by ok)
    (fun s0 H0 C cl fp => ⟨fun pins s σ H v u Q J r k => (k s0 H0 C cl fp).run pins s u J r⟩) (fun s0 H0 C cl fp => ⟨fun pins s σ H Q J k => (k s0 H0 C cl fp).run pins s J⟩) (fun s0 H0 C cl fp => ⟨fun pins s σ H Q J k => (k s0 H0 C cl fp).run pins s J⟩) (fun s0 H0 C cl fp => ⟨fun pins s σ H Q J k => (k s0 H0 C cl fp).run pins s J⟩) hs) ?_
  refine hi W R (fun ds J => ds = xs.map g ∧ J = I) ⟨rfl, rfl⟩ σ G H _ hE s hI qx fun J ds G1 H1 I1 s1 t1 h1 wk ⟨ed, ei⟩ D hD => ?_
  subst ed ei
  have gD : G1 D = none := t1.free hD
  have apart : ∀ a, ¬ (I1.F a ∧ a = D) := fun a ha => h1.dom ha.1 (by rw [ha.2]; exact hD)
  refine ⟨fun i m H' => m = xs.length - i ∧ i ≤ xs.length ∧ ∃ G', Same G1 G' ∧ Same G' H' ∧ Hd (I1.and (iDic X.K D ((xs.take i).map fun x => (fk x, f x)))) G' H', ⟨_, rfl, Nat.zero_le _, G1, Same.refl _, same_upd t1 gD, ?_⟩, ?_⟩
  · exact Hd.mk2 (h1.newp hD) ⟨⟨_, upd_same, [], rfl, rfl⟩, fun a ha => by rw [show a = D from ha]; exact gD⟩ apart
  · rintro i m H' ⟨rfl, hi, G', s2, t2, hd2⟩
    by_cases hlt : i < xs.length
    · refine .inr ⟨wk.go i G' H' s2 t2 (by simpa using hlt), fun H3 => ∃ G3, Same G1 G3 ∧ Same G3 H3 ∧ Hd (I1.and (iDic X.K D ((xs.take (i + 1)).map fun x => (fk x, f x)))) G3 H3, fun H3 ⟨G3, q3, q4, q5⟩ => ⟨xs.length - (i + 1), by omega, rfl, hlt, G3, q3, q4, q5⟩, fun x H3 hyl => ?_⟩
      obtain ⟨G3, s3, t3, h3, _, d, hd, rd⟩ := wk.yld i G' H' _ x H3 s2 t2 hd2 (by simpa using hlt) hyl
      obtain ⟨x0, hx, rfl⟩ := get_map hd
      have hm : x0 ∈ xs := List.mem_of_getElem? hx
      intro s0 H0 C cl fp
      refine hb x0 s0 H0 C cl fp x _ G3 H3 _ (((hE.mono s1).mono (s2.trans s3)).wipe _) t3 rd fun σ4 e4 ew => ⟨by rw [ew, wipe_wipe], ?_⟩
      intro s0 H0 C cl fp
      refine (ets_nil (X := X.blk s0 H0 scope (compEnvC scope cl C X.env) fp) (PB := fun b I2 => b = true ∧ I2 = I1.and (iDic X.K D ((xs.take i).map fun x => (fk x, f x)))) ⟨rfl, rfl⟩) σ4 G3 H3 _ e4 t3 h3 kx0 fun b G4 H4 I4 s4 t4 h4 ⟨eb, eI⟩ => ?_
      subst eb eI
      rw [if_pos rfl]
      intro s0 H0 C cl fp
      refine hk x0 hm (iDic X.K D _) s0 H0 C cl fp W0 R0 (fun z J => z = keyV (fk x0) ∧ J = I1.and (iDic X.K D ((xs.take i).map fun x => (fk x, f x)))) ⟨rfl, rfl⟩ σ4 G4 H4 _ (e4.mono s4) t4 h4 kx0 fun y dy G5 H5 I5 s5 t5 h5 r5 ⟨ey, eI⟩ => ?_
      subst ey eI
      intro s0 H0 C cl fp
      refine he x0 hm (iDic X.K D _) s0 H0 C cl fp W0 R0 (fun z J => z = f x0 ∧ J = I1.and (iDic X.K D ((xs.take i).map fun x => (fk x, f x)))) ⟨rfl, rfl⟩ σ4 G5 H5 _ ((e4.mono s4).mono s5) t5 h5 kx0 fun y2 dy2 G6 H6 I6 s6 t6 h6 r6 ⟨ey2, eI2⟩ => ?_
      subst ey2 eI2
      obtain ⟨o, ho, kvs, ev, kr⟩ := h6.right.ph
      subst ev
      have g6 : G6 D = none := h6.right.fr D rfl
      have hkey : y = kV (fk x0) := by
        have := rep_keyV (K := X.K) (G := G5) (fk x0)
        cases hh : fk x0 with
        | inl i => rw [hh] at r5; exact r5
        | inr t => rw [hh] at r5; exact r5
      have hnew : fk x0 ∉ (((xs.take i).map fun x => (fk x, f x)).map (·.1)) := by
        rw [List.map_map]
        intro q
        have e2 : xs.map fk = (xs.take i).map fk ++ fk x0 :: (xs.drop (i + 1)).map fk := by
          have e : xs = xs.take i ++ x0 :: xs.drop (i + 1) := by
            have hl := (List.getElem?_eq_some_iff.mp hx).1
            rw [← (List.getElem?_eq_some_iff.mp hx).2, List.getElem_cons_drop hl, List.take_append_drop]
          conv => lhs; rw [e]
          rw [List.map_append, List.map_cons]
        rw [e2] at nd
        exact (List.nodup_append.mp nd).2.2 _ q _ (List.mem_cons_self ..) rfl
      refine ⟨kvs, fk x0, hkey, ho, ?_, G6, (((s2.trans s3).trans s4).trans s5).trans s6, same_upd t6 g6, ?_⟩
      · rw [kr.length, List.length_map, List.length_take, sizeLine_eq]; omega
      · have e7 : (xs.take (i + 1)).map (fun x => (fk x, f x)) = putG ((xs.take i).map fun x => (fk x, f x)) (fk x0) (f x0) := by
          rw [putG_new hnew, take_snoc hx, List.map_append]; rfl
        rw [e7]
        exact Hd.mk2 (h6.left.chg fun hf => apart D ⟨hf, rfl⟩) ⟨⟨_, upd_same, _, rfl, kr.put r6⟩, h6.right.fr⟩ apart
    · have ei : i = xs.length := by omega
      subst ei
      rw [List.take_length] at hd2
      refine .inl ⟨by have := wk.stop G' H' s2 t2; rwa [List.length_map] at this, q (.ref D) (.adr D) G' H' (I1.and (iDic X.K D (xs.map fun x => (fk x, f x)))) (s1.trans s2) t2 hd2 rfl ⟨D, _, I1, rfl, rfl, pp⟩⟩
end
end DL
set_option Elab.async false
set_option linter.all false
set_option maxRecDepth 100000
set_option maxHeartbeats 4000000
namespace DL
open PySem PySem.Spec PyProof.Rows L2
def rIsiTT (K : PySem.W.Frag) : List V → Hp → VK → Prop := fun xs H Q => ∃ (x : V) (tp : Addr) (cs : List V) (t : Value) (us : List Value) (b : Bool), xs = [x, .ref tp] ∧ SqT K H tp cs ∧ Paired ClsV cs us ∧ TyX K H x t ∧ PySem.W.kitAny K t us = some b ∧ Q (.bl b) H
theorem call_isiTT {X : Cx} : CallR X (.builtin "isinstance") (rIsiTT X.K) := by
  intro pins s σ H xs us Q I r h
  obtain ⟨x, tp, cs, t, ws, b, rfl, hT, k, ty, e, q⟩ := h
  obtain ⟨u1, u2, rfl, r1, r2⟩ := vals2 r
  cases (show u2 = Value.ref tp from r2)
  obtain ⟨P, Z, p, hx⟩ := kit_of I r1 ty
  obtain ⟨its, rv, ⟨o, h1, h2, n, h3⟩, _⟩ := I.tuple hT
  have e3 := ClsV.all k rv
  subst e3
  obtain ⟨oc, od, dt, sl⟩ := o
  simp only at h2 h3
  subst h2 h3
  exact PySem.W.kia_tup Z I.kIn p h1 e hx fun tk => ⟨.bl b, H, I.tok tk, rfl, q⟩
theorem pn_isiT2 {K : PySem.W.Frag} {I : Iv K} {d : D} {t u1 u2 : String} {b : Bool} (h : tyD d = some t) (hb : PySem.W.kitAny K (.type t) [.type u1, .type u2] = some b) : PN K I (rIsiTT K) [d, .tup [.ty u1, .ty u2]] (.bl b) := fun P p G H vs Q s hI ⟨v, r, e1, e2, v2, r2, e3, ⟨tp, cs, ec, st, w1, r1, ew, q1, w2, r2', ew2, q2, er⟩, e5⟩ q => by
  subst e1 e3 ec ew ew2
  rw [show r2' = [] from er, show w1 = .ty u1 from q1, show w2 = .ty u2 from q2] at st
  rw [show r2 = [] from e5]
  exact ⟨v, tp, _, .type t, [.type u1, .type u2], b, rfl, sqT_mono s st, .cons (.ty u1) (.cons (.ty u2) .nil), tyX_of s e2 h, hb, q _ (.bl b) G H I (Same.refl G) s hI rfl p⟩
theorem kit2 {K : PySem.W.Frag} {t u1 u2 : String} {b1 b2 : Bool} (h1 : kitB t u1 = some b1) (h2 : kitB t u2 = some b2) : PySem.W.kitAny K (.type t) [.type u1, .type u2] = some (b1 || b2) :=
  kitAny_cons (kit_ty h1) (fun e => kitAny_cons (kit_ty h2) (fun e2 => by rw [e, e2]; rfl) (fun e2 => by rw [e2, e]; rfl)) (fun e => by rw [e]; rfl)

class LenC (x : D) (n : outParam Int) (C : outParam Prop) : Prop where
  h : C → ∀ (X : Cx) (I : Iv X.K), ∃ r, CallR X (.builtin "len") r ∧ PN X.K I r [x] (.int n)
instance {ds : List D} : LenC (.lst ds) (ds.length : Int) True := ⟨fun _ X I => ⟨_, call_len_seq, pn_lenL⟩⟩
instance {ds : List D} : LenC (.tup ds) (ds.length : Int) True := ⟨fun _ X I => ⟨_, call_len_seq, pn_lenT⟩⟩
instance {ds : List D} : LenC (.lsf ds) (ds.length : Int) True := ⟨fun _ X I => ⟨_, call_len_seq, fun P p G H vs Q s hI ⟨v, r, e1, ⟨a, xs, ea, e2, e3⟩, er⟩ q => by
  rw [e1, ea, show r = [] from er]
  exact ⟨a, xs, rfl, .inl (sqL_mono s e2), by rw [e3.length]; exact q _ (.int ds.length) G H _ (Same.refl G) s hI rfl p⟩⟩⟩
instance {s : Str} : LenC (.str s) (s.length : Int) (s.length ≤ 100000) := ⟨fun c X I => ⟨_, call_len_str, pn_lenS c⟩⟩
theorem call_lenDR {X : Cx} : CallR X (.builtin "len") (fun xs H Q => ∃ a kvs, xs = [V.ref a] ∧ Rd H a (.dK kvs) ∧ Q (.int kvs.length) H) := by
  intro pins s σ H xs us Q I r h
  obtain ⟨a, kvs, rfl, ha, q⟩ := h
  obtain ⟨u, rfl, ru⟩ := vals1 r
  cases ru
  exact d_len I ha fun t s' I' => ⟨.int kvs.length, H, I', ⟨t, rfl⟩, q⟩
theorem lenC_dic {kds : List (Key × D)} : LenC (dicD kds) (kds.length : Int) True := ⟨fun _ X I => ⟨_, call_lenDR, fun P p G H vs Q s hI ⟨v, r, e1, rd, er⟩ q => by
  obtain ⟨a, od, kvs, rfl, e2, kr⟩ := rep_dicD.mp rd
  rw [e1, show r = [] from er]
  exact ⟨a, kvs, rfl, .inr ⟨od, s _ _ e2⟩, by rw [kr.length]; exact q _ (.int kds.length) G H _ (Same.refl G) s hI rfl p⟩⟩⟩
instance {kds : List (Key × D)} : LenC (dicD kds) (kds.length : Int) True := lenC_dic
instance {ks : List Key} {ds : List D} : LenC (.dic ks ds) (ds.length : Int) (ks.length = ds.length) := ⟨fun c X I => by
  have e : dicD (ks.zip ds) = .dic ks ds := by
    show D.dic ((ks.zip ds).map (·.1)) ((ks.zip ds).map (·.2)) = _
    rw [show (ks.zip ds).map (·.1) = ks from List.map_fst_zip (by omega), show (ks.zip ds).map (·.2) = ds from List.map_snd_zip (by omega)]
  obtain ⟨r, h1, h2⟩ := (lenC_dic (kds := ks.zip ds)).h trivial X I
  rw [e] at h2
  have e2 : (ks.zip ds).length = ds.length := by rw [List.length_zip]; omega
  rw [e2] at h2
  exact ⟨r, h1, h2⟩⟩
section
variable {X : Cx} {I : Iv X.K} {a b c e o : Expr} {es : List Expr} {δ : DEnv} {pos p : Pos} {x y z : D} {n : Int} {C : Prop} {k : Bool} {W : WX} {κ : Ko X.K} {ds fs : List D} {q : Addr}
theorem pv_len (hm : X.mg "len" = none) (ha : PV X I a δ x) [L : LenC x n C] (c : C) (hg : Gl X "len" := by rfl) (h1 : starEach [a] X.env = (false, eval a X.env) :: starEach [] X.env := by rfl) (hpl : (backTo pos (starEach [] X.env)).any (·.1) = false := by rfl) : PV X I (.Call (.Name "len" p) [a] [] pos) δ (.int n) := by
  obtain ⟨r, h1', h2⟩ := L.h c X I
  exact pv_cb h1' hm (va_cons ha va_nil h1) h2 (by decide +kernel) hg (by decide) (by decide) h1 hpl
end
def allStr : List D → Bool
  | [] => true
  | .str _ :: ds => allStr ds
  | _ => false
def strIn (s : Str) : List D → Bool
  | [] => false
  | .str t :: ds => decide (s = t) || strIn s ds
  | _ :: ds => strIn s ds
@[simp] theorem strIn_map (s : Str) : ∀ ws : List Str, strIn s (ws.map D.str) = decide (s ∈ ws)
  | [] => by simp [strIn]
  | w :: ws => by
    show (decide (s = w) || strIn s (ws.map D.str)) = _
    rw [strIn_map s ws]
    exact Bool.eq_iff_iff.mpr (by simp)
@[simp] theorem allStr_map : ∀ ws : List Str, allStr (ws.map D.str) = true
  | [] => rfl
  | _ :: ws => allStr_map ws
theorem allStr_ex : ∀ {ds : List D}, allStr ds = true → ∃ ws : List Str, ds = ws.map D.str
  | [], _ => ⟨[], rfl⟩
  | d :: ds, h => by
    cases d <;> first | cases h | skip
    rename_i s
    obtain ⟨ws, e⟩ := allStr_ex (ds := ds) h
    exact ⟨s :: ws, by rw [e]; rfl⟩
class InC (x y : D) (b : outParam Bool) (C : outParam Prop) : Prop where
  e : C → ∀ (X : Cx) (I : Iv X.K), X.A.units + 65 < cLine → ∃ r, OpR X (compareOp .In) r ∧ P2 X.K I r x y (.bl b)
  n : C → ∀ (X : Cx) (I : Iv X.K), X.A.units + 65 < cLine → ∃ r, OpR X (compareOp .NotIn) r ∧ P2 X.K I r x y (.bl (!b))
instance {s : Str} {ds : List D} : InC (.str s) (.tup ds) (strIn s ds) (allStr ds = true) := ⟨fun c X I _ => by
  obtain ⟨ws, rfl⟩ := allStr_ex c
  rw [strIn_map]; exact ⟨_, op_in_seq, p2_inStr⟩, fun c X I _ => by
  obtain ⟨ws, rfl⟩ := allStr_ex c
  rw [strIn_map]; exact ⟨_, op_notIn_seq, p2_ninStr⟩⟩
instance {s : Str} {ds : List D} : InC (.str s) (.lst ds) (strIn s ds) (allStr ds = true) := ⟨fun c X I _ => by
  obtain ⟨ws, rfl⟩ := allStr_ex c
  rw [strIn_map]; exact ⟨_, op_in_seq, p2_inStrL⟩, fun c X I _ => by
  obtain ⟨ws, rfl⟩ := allStr_ex c
  rw [strIn_map]; exact ⟨_, op_notIn_seq, p2_ninStrL⟩⟩
theorem InC.data {x z : D} {ds : List D} (hz : itemsD z = some ds) : InC x z (ds.any fun y => eqD y x) (OkD 64 x ∧ ∀ d ∈ ds, OkD 64 d) :=
  ⟨fun c X I hu => ⟨_, op_inDT hu, p2_inD hz c.1 c.2⟩, fun c X I hu => ⟨_, op_notInDT hu, p2_ninD hz c.1 c.2⟩⟩
instance {xs ds : List D} : InC (.tup xs) (.tup ds) (ds.any fun y => eqD y (.tup xs)) (OkD 64 (.tup xs) ∧ ∀ d ∈ ds, OkD 64 d) := .data rfl
instance {xs ds : List D} : InC (.tup xs) (.lst ds) (ds.any fun y => eqD y (.tup xs)) (OkD 64 (.tup xs) ∧ ∀ d ∈ ds, OkD 64 d) := .data rfl
section
variable {X : Cx} {I : Iv X.K} {a b c e o : Expr} {es : List Expr} {δ : DEnv} {pos p : Pos} {x y z : D} {n : Int} {C : Prop} {k : Bool} {W : WX} {κ : Ko X.K} {ds fs : List D} {q : Addr}
theorem ev_lstM' {R : Rx X.K} {P : D → Iv X.K → Prop} (h : PVA X I es δ ds) (hl : ds.length ≤ 1000) (hp : ∀ p, P (.adr p) (I.and (iLst X.K p ds))) : EvX X W R (.List es pos) δ I P := ev_lstM h hl fun p _ => hp p
end
section
variable {K : PySem.W.Frag} {I : Iv K} {d : D} {ds : List D}
theorem pn_tupL (h : d = .lst ds ∨ d = .lsf ds ∨ d = .tup ds) : PN K I (fun xs H Q => ∃ p ys, xs = [.ref p] ∧ ((SqL K H p ys ∧ ∀ l, H l = none → Q (.ref l) (upd H l (.tup ys))) ∨ (SqT K H p ys ∧ Q (.ref p) H))) [d] (.tup ds) := fun P pp G H vs Q s hI ⟨v, r, e1, rd, er⟩ q => by
  rw [e1, show r = [] from er]
  have fin : ∀ ys l, Reps K G ds ys → H l = none → Q (.ref l) (upd H l (.tup ys)) := fun ys l rr hl => by
    have hg : G l = none := s.free hl
    exact q (.ref l) (.tup ds) (upd G l (.tup ys)) _ I (Evl.Ex.new hg) (same_upd2 s) (hI.keep hl s) ⟨l, ys, rfl, SqT.of upd_same, rr.mono (Evl.Ex.new hg)⟩ pp
  rcases h with e | e | e
  · subst e
    obtain ⟨a, ys, ea, e2, e3⟩ := rd
    exact ⟨a, ys, by rw [ea], .inl ⟨SqL.of (s _ _ e2), fun l hl => fin ys l e3 hl⟩⟩
  · subst e
    obtain ⟨a, ys, ea, e2, e3⟩ := rd
    exact ⟨a, ys, by rw [ea], .inl ⟨sqL_mono s e2, fun l hl => fin ys l e3 hl⟩⟩
  · subst e
    obtain ⟨a, ys, ea, e2, e3⟩ := rd
    exact ⟨a, ys, by rw [ea], .inr ⟨sqT_mono s e2, q (.ref a) (.tup ds) G H I (Same.refl G) s hI ⟨a, ys, rfl, e2, e3⟩ pp⟩⟩
theorem repsInt' {G : Hp} : ∀ {ns : List Int} {vs : List V}, Reps K G (ns.map D.int) vs → vs = ns.map V.int
  | [], _, h => h
  | b :: bs, _, ⟨v, r, e, h2, h3⟩ => by rw [e, show v = .int b from h2, repsInt' h3]; rfl
theorem pn_sum {ns : List Int} : PN K I (rSum K) [.lst (ns.map D.int)] (.int ns.sum) := fun P pp G H vs Q s hI ⟨v, r, e1, ⟨a, ys, ea, e2, e3⟩, er⟩ q => by
  rw [e1, show r = [] from er, ea]
  rw [repsInt' e3] at e2
  exact ⟨a, ns, rfl, SqL.of (s _ _ e2), q _ (.int _) G H I (Same.refl G) s hI rfl pp⟩
theorem pn_min2 {i j : Int} : PN K I (fun xs H Q => ∃ i j, xs = [.int i, .int j] ∧ Q (.int (if j < i then j else i)) H) [.int i, .int j] (.int (if j < i then j else i)) := fun P pp G H vs Q s hI ⟨v, r, e1, e2, v2, r2, e3, e4, e5⟩ q =>
  ⟨i, j, by rw [e1, e3, show v = .int i from e2, show v2 = .int j from e4, show r2 = [] from e5], q _ (.int _) G H I (Same.refl G) s hI rfl pp⟩
end
abbrev dicT {α : Type} (xs : List α) (k : α → Str) (v : α → D) : D := dicD (xs.map fun x => ((.inr (k x) : Key), v x))
theorem keys_dicT {α : Type} (xs : List α) (k : α → Str) (v : α → D) : ((xs.map fun x => ((.inr (k x) : Key), v x)).map fun p => keyV p.1) = xs.map fun x => D.str (k x) := by
  rw [List.map_map]; rfl
theorem get_dicT {α : Type} {xs : List α} {k : α → Str} {v : α → D} {x : α} (nd : (xs.map k).Nodup) (h : x ∈ xs) : getG (xs.map fun x => ((.inr (k x) : Key), v x)) (.inr (k x)) = some (v x) := by
  unfold getG
  induction xs with
  | nil => cases h
  | cons y ys ih =>
    rw [List.map_cons, List.find?_cons]
    by_cases e : k y = k x
    · have : decide (((.inr (k y) : Key)) = .inr (k x)) = true := decide_eq_true (by rw [e])
      rw [this]
      rcases List.mem_cons.mp h with rfl | hx
      · rfl
      · rw [List.map_cons] at nd
        exact absurd (e ▸ List.mem_map.mpr ⟨x, hx, rfl⟩) (List.nodup_cons.mp nd).1
    · have : decide (((.inr (k y) : Key)) = .inr (k x)) = false := decide_eq_false (by simp [e])
      rw [this]
      rcases List.mem_cons.mp h with rfl | hx
      · exact absurd rfl e
      · rw [List.map_cons] at nd
        exact ih (List.nodup_cons.mp nd).2 hx
theorem getN_dicT {α : Type} {xs : List α} {k : α → Str} {v : α → D} {s : Str} (h : s ∉ xs.map k) : getG (xs.map fun x => ((.inr (k x) : Key), v x)) (.inr s) = none := by
  unfold getG
  rw [Option.map_eq_none_iff, List.find?_eq_none]
  intro z hz q
  obtain ⟨x, hx, rfl⟩ := List.mem_map.mp hz
  have e := of_decide_eq_true q
  exact h (List.mem_map.mpr ⟨x, hx, Sum.inr.inj e⟩)
section
variable {X : Cx} {I : Iv X.K} {tg iter e : Expr} {δ : DEnv} {pos p : Pos} {α : Type} {xs : List α} {k : α → Str} {v : α → D}
theorem vi_dicT (h : PV X I iter δ (dicT xs k v)) : PVI X I tg iter δ (xs.map fun x => .str (k x)) := by
  have := vi_keys (tg := tg) h
  rwa [keys_dicT] at this
theorem pv_listD (hm : X.mg "list" = none) (h : PV X I e δ (dicT xs k v)) (hc : X.calm = true := by rfl) (hg : Gl X "list" := by rfl)
    (he : starEach [e] X.env = (false, eval e X.env) :: starEach [] X.env := by rfl) (hpl : (backTo pos (starEach [] X.env)).any (·.1) = false := by rfl) : PV X I (.Call (.Name "list" p) [e] [] pos) δ (.lst ((xs.map k).map D.str)) := by
  have e2 : (xs.map k).map D.str = (xs.map fun x => ((.inr (k x) : Key), v x)).map fun p => keyV p.1 := by rw [keys_dicT, List.map_map]; rfl
  rw [e2]
  exact pv_ct (call_listD hc) hm (va_cons h va_nil he) pn_listD (by decide +kernel) hg (by decide) (by decide) he hpl
theorem pv_sortedS {ss : List Str} (hm : X.mg "sorted" = none) (h : PV X I e δ (.lst (ss.map D.str))) (hz : ss.length < 64) (hg : Gl X "sorted" := by rfl)
    (he : starEach [e] X.env = (false, eval e X.env) :: starEach [] X.env := by rfl) (hpl : (backTo pos (starEach [] X.env)).any (·.1) = false := by rfl) : PV X I (.Call (.Name "sorted" p) [e] [] pos) δ (.lst ((sortS ss).map D.str)) :=
  pv_cb cr_sortedS hm (va_cons h va_nil he) (pn_sortedS hz) (by decide +kernel) hg (by decide) (by decide) he hpl
theorem pv_tuple {d : D} {ds : List D} (hm : X.mg "tuple" = none) (h : PV X I e δ d) (hd : d = .lst ds ∨ d = .lsf ds ∨ d = .tup ds) (hg : Gl X "tuple" := by rfl)
    (he : starEach [e] X.env = (false, eval e X.env) :: starEach [] X.env := by rfl) (hpl : (backTo pos (starEach [] X.env)).any (·.1) = false := by rfl) : PV X I (.Call (.Name "tuple" p) [e] [] pos) δ (.tup ds) :=
  pv_ct call_tuple_of hm (va_cons h va_nil he) (pn_tupL hd) (by decide +kernel) hg (by decide) (by decide) he hpl
theorem pv_list {d : D} {ds : List D} (hm : X.mg "list" = none) (h : PV X I e δ d) (hd : d = .lst ds ∨ d = .lsf ds ∨ d = .tup ds) (hg : Gl X "list" := by rfl)
    (he : starEach [e] X.env = (false, eval e X.env) :: starEach [] X.env := by rfl) (hpl : (backTo pos (starEach [] X.env)).any (·.1) = false := by rfl) : PV X I (.Call (.Name "list" p) [e] [] pos) δ (.lst ds) := fun W R P pp =>
  ev_ct call_list_of hm (ea_cons (h W R _ (ea_nil (on_listK hd pp))) he) (by decide +kernel) hg (by decide) (by decide) he hpl
end
end DL
set_option Elab.async false
set_option linter.all false
set_option maxRecDepth 100000
set_option maxHeartbeats 4000000
namespace DL
open PySem PySem.Spec PyProof.Rows L2
section
variable {X : Cx} {W : WX} {R : Rx X.K} {e a b o tg iter : Expr} {δ : DEnv} {I : Iv X.K} {P : D → Iv X.K → Prop} {pos p apos : Pos} {d z x : D} {ds : List D} {κ : Ko X.K} {es : List Expr} {n m : Int}
theorem ev_freezeL (h : EvX X W R e δ I fun d I1 => ∃ p ds I2, d = .adr p ∧ I1 = I2.and (iLst X.K p ds) ∧ P (.lst ds) I2) : EvX X W R e δ I P := fun σ G H Q hE s hI qx q =>
  h σ G H Q hE s hI qx fun v d G1 H1 I1 s1 t1 h1 r1 ⟨p, ds, I2, ed, ei, pp⟩ => by
    subst ed ei
    obtain ⟨G2, s2, t2, h2, r2⟩ := freeze_lst t1 h1
    have ev : v = .ref p := r1
    rw [ev]
    exact q (.ref p) (.lst ds) G2 H1 I2 (s1.trans s2) t2 h2 r2 pp
theorem vi_range1 (hm : X.mg "range" = none) (h : PV X I a δ (.int n)) (h1 : n < 1000000) (h2 : -1000000 < n) (hg : Gl X "range" := by rfl) (hst : starEach [a] X.env = [(false, eval a X.env)] := by rfl) (hpl : (backTo pos (starEach [] X.env)).any (·.1) = false := by rfl) : PVI X I tg (.Call (.Name "range" p) [a] [] pos) δ ((List.range n.toNat).map fun i : Nat => D.int i) := fun W R P pp =>
  ei_range1 hm (h W R _ ⟨n, rfl, h1, h2, by
    have e : DL.intsFrom 0 n.toNat = (List.range n.toNat).map fun i : Nat => D.int i := by unfold DL.intsFrom; simp
    rw [e]; exact pp⟩) hg hst hpl
theorem vi_range2 (hm : X.mg "range" = none) (h : PV X I a δ (.int n)) (h' : PV X I b δ (.int m)) (h1 : n < 1000000 ∧ -1000000 < n ∧ m < 1000000 ∧ -1000000 < m) (hg : Gl X "range" := by rfl) (hst : starEach [a, b] X.env = [(false, eval a X.env), (false, eval b X.env)] := by rfl) (hst2 : starEach [b] X.env = [(false, eval b X.env)] := by rfl) (hpl : (backTo pos (starEach [b] X.env)).any (·.1) = false := by rfl) : PVI X I tg (.Call (.Name "range" p) [a, b] [] pos) δ ((List.range (m - n).toNat).map fun i : Nat => D.int (n + i)) := fun W R P pp =>
  ei_range2 hm (h W R _ (h' W R _ ⟨n, m, rfl, rfl, h1, pp⟩)) hg hst hst2 hpl
theorem pv_neg (h : PV X I a δ (.int n)) : PV X I (.UnaryOp .USub a pos) δ (.int (-n)) := pv_un un_neg h fun P pp G H v Q s hI r q => ⟨n, r, q (.int (-n)) (.int (-n)) G H I (Same.refl G) s hI rfl pp⟩
theorem enumD_map {α : Type} (f : α → D) (xs : List α) : enumD (xs.map f) = xs.zipIdx.map fun p => .tup [.int p.2, f p.1] := by
  unfold enumD
  rw [List.zipIdx_map, List.map_map]; rfl
theorem mem_zipIdx {α : Type} {xs : List α} {x : α} {i : Nat} (h : (x, i) ∈ xs.zipIdx) : xs[i]? = some x := List.mem_zipIdx_iff_getElem?.mp h
theorem atI_n {α : Type} {xs : List α} {j : Nat} {x : α} (h : xs[j]? = some x) : atI xs (j : Int) = some x := by
  have hl := (List.getElem?_eq_some_iff.mp h).1
  unfold atI ixN
  rw [if_pos (by omega), if_pos (by omega)]
  simpa using h
theorem atI_m {α : Type} {xs : List α} {f : α → D} {j : Nat} {x : α} (h : xs[j]? = some x) : atI (xs.map f) (j : Int) = some (f x) := atI_n (by rw [List.getElem?_map, h]; rfl)
theorem findSome_hit {α β : Type} {f : α → Option β} {p r : List α} {x : α} {b : β} (h : ∀ y ∈ p, f y = none) (hx : f x = some b) : (p ++ x :: r).findSome? f = some b := by
  rw [List.findSome?_append, List.findSome?_eq_none_iff.mpr h, List.findSome?_cons, hx]; rfl
end
theorem _root_.L2.Room.u1 {k : Nat} {A : Around} (r : Room k A) : A.units + 1 < cLine := by have := r.un; omega
theorem nodup_key {α : Type} {k : α → Str} {xs : List α} (h : (xs.map k).Nodup) : (xs.map fun x => (Sum.inr (k x) : Key)).Nodup :=
  List.pairwise_map.mpr ((List.pairwise_map.mp h).imp fun hne e => hne (Sum.inr.inj e))
def sortW {α : Type} (ws : List (Str × α)) : List (Str × α) := ws.mergeSort fun a b => leS a.1 b.1
theorem sortW_perm {α : Type} (ws : List (Str × α)) : (sortW ws).Perm ws := List.mergeSort_perm ws _
theorem sortW_pw {α : Type} (ws : List (Str × α)) : (sortW ws).Pairwise (fun a b => leS a.1 b.1 = true) := List.pairwise_mergeSort (fun a b c => leS_tr a.1 b.1 c.1) (fun a b => leS_total a.1 b.1) ws
theorem sortW_names {α : Type} (ws : List (Str × α)) : (sortW ws).map (·.1) = sortS (ws.map (·.1)) :=
  sort_uniq (List.pairwise_map.mpr (sortW_pw ws)) ((sortW_perm ws).map _)
theorem sortW_nd {α : Type} {ws : List (Str × α)} (h : (ws.map (·.1)).Nodup) : ((sortW ws).map (·.1)).Nodup := ((sortW_perm ws).map (·.1)).nodup_iff.mpr h
theorem nd_inj {α : Type} : ∀ {ws : List (Str × α)}, (ws.map (·.1)).Nodup → ∀ {a b : Str × α}, a ∈ ws → b ∈ ws → a.1 = b.1 → a = b
  | [], _, _, _, h, _, _ => nomatch h
  | w :: ws, nd, a, b, ha, hb, e => by
    rw [List.map_cons] at nd
    obtain ⟨n1, n2⟩ := List.nodup_cons.mp nd
    rcases List.mem_cons.mp ha with e1 | ha1
    · rcases List.mem_cons.mp hb with e2 | hb1
      · rw [e1, e2]
      · exact absurd (List.mem_map.mpr ⟨b, hb1, by rw [← e, e1]⟩) n1
    · rcases List.mem_cons.mp hb with e2 | hb1
      · exact absurd (List.mem_map.mpr ⟨a, ha1, by rw [e, e2]⟩) n1
      · exact nd_inj n2 ha1 hb1 e
theorem sortW_uniq {α : Type} {ws vs : List (Str × α)} (nd : (ws.map (·.1)).Nodup) (h1 : vs.Pairwise (fun a b => leS a.1 b.1 = true)) (h2 : vs.Perm ws) : vs = sortW ws :=
  List.Perm.eq_of_pairwise (fun a b ha hb k l => nd_inj nd (h2.mem_iff.mp ha) ((sortW_perm ws).mem_iff.mp hb) (leS_anti k l)) h1 (sortW_pw ws) (h2.trans (sortW_perm ws).symm)
end DL
set_option Elab.async false
set_option linter.all false
set_option maxRecDepth 100000
set_option maxHeartbeats 4000000
namespace L2
open PySem PySem.Spec PyProof.Rows
section
variable {prog : Program} {w : World} {A : Around} {E : Value → Shared → Prop} {s : Shared} {T : String} {r d : Addr} {n : Nat} {P : Nat → Value → Prop} {OK : Heap → Prop}
end
end L2
namespace DL
open PySem PySem.Spec PyProof.Rows L2
end DL
set_option Elab.async false
set_option linter.all false
set_option maxRecDepth 100000
set_option maxHeartbeats 4000000
namespace GQ
open PySem PySem.SeqAt
open AutoSeq1 (wpAny_loadPart')
open MeetsSeq MeetsSeq2 MeetsSeq3 SeqRoads2
section
variable {prog : Program} {w : World} {A : Around} {R : Result → Shared → Prop}
theorem tuple_eqB (l b : Addr) (items items2 : Array Value) (n n2 : Nat) (dd dd2 : Option Addr) (sl sl2 : Array (Option Value)) (J : Shared → Prop) (e : Nat → Bool)
    (turn : ∀ i (h1 : i < items.size) (h2 : i < items2.size) s, J s → wpAny (model prog w) A.in1 (eqBool items[i] items2[i]) (fun r s' => r = e i ∧ J s') (fun e s' => R (.error e) s') s)
    (fin : ∀ s, J s → R (.ok (.ret (.bool ((items.size == items2.size) && (List.range (min items.size items2.size)).all e)))) s) {s : Shared} (hl1 : s.heap.get? l = some { cls := .type "tuple", dict := dd, data := .seq items n, slots := sl }) (hb1 : s.heap.get? b = some { cls := .type "tuple", dict := dd2, data := .seq items2 n2, slots := sl2 }) (h : J s) :
    wpAny (model prog w) A.in1 (Builtin.«tuple.__eq__» ⟨[.ref l, .ref b], []⟩) (FinOf prog w A R) (fun e s' => R (.error e) s') s := by
  have f2 := AutoSeq1.sub_tuple_tuple
  have hZ : (items.toList.zip items2.toList).length = min items.size items2.size := by simp
  have h0 := h
  obtain ⟨hp, g, d, tk, os⟩ := s
  wp_walk using wpAny_loadPart' hl1, wpAny_loadPart' hb1, wpAny_forIn_list _ (fun rest b s' => b.1 = none ∧ ∃ i, rest = (items.toList.zip items2.toList).drop i ∧ i ≤ min items.size items2.size ∧ (∀ j, j < i → e j = true) ∧ J s') _
  case turn =>
    rintro ⟨y, x⟩ rest b s' ⟨hb', i, hz, hi, he, hI⟩
    have hlt : i < (items.toList.zip items2.toList).length := by
      rcases Nat.lt_or_ge i (items.toList.zip items2.toList).length with h' | h'
      · exact h'
      · rw [List.drop_of_length_le h'] at hz; cases hz
    have h1 : i < items.size := by omega
    have h2 : i < items2.size := by omega
    rw [List.drop_eq_getElem_cons hlt] at hz
    injection hz with hyx hrest
    have hy : y = items[i] := by have := congrArg Prod.fst hyx; simpa using this
    have hx : x = items2[i] := by have := congrArg Prod.snd hyx; simpa using this
    subst hy hx
    refine wpAny_bind (wpAny_mono (turn i h1 h2 s' hI) (fun r s2 q2 => ?_) fun _ _ x => x)
    obtain ⟨hr, q2⟩ := q2
    subst hr
    cases q : e i with
    | true =>
      wp_walk
      refine ⟨rfl, i + 1, hrest, by omega, fun j hj => ?_, q2⟩
      rcases Nat.lt_or_ge j i with h' | h'
      · exact he j h'
      · have : j = i := by omega
        subst this; exact q
    | false =>
      wp_walk
      have ef : (List.range (min items.size items2.size)).all e = false := by
        rw [List.all_eq_false]
        exact ⟨i, List.mem_range.mpr (by omega), by rw [q]; simp⟩
      have hR := fin s2 q2
      rw [ef, Bool.and_false] at hR
      exact hR
  case fin =>
    rintro ⟨b1, b2⟩ s' ⟨hb', i, hz, hi, he, hI⟩
    simp only at hb'
    subst hb'
    have hge : min items.size items2.size ≤ i := by
      rcases Nat.lt_or_ge i (items.toList.zip items2.toList).length with h' | h'
      · rw [List.drop_eq_getElem_cons h'] at hz; cases hz
      · omega
    have hi' : i = min items.size items2.size := by omega
    have hR := fin s' hI
    have et : (List.range (min items.size items2.size)).all e = true := by
      rw [List.all_eq_true]
      exact fun j hj => he j (by rw [hi']; exact List.mem_range.mp hj)
    rw [et, Bool.and_true] at hR
    wp_walk
    simpa [Builtin.Tuple.tupleCompareSizes] using hR
  case h =>
    exact ⟨rfl, 0, rfl, Nat.zero_le _, fun j hj => absurd hj (by omega), h0⟩
end
end GQ
set_option Elab.async false
set_option linter.all false
set_option maxRecDepth 100000
set_option maxHeartbeats 4000000
namespace DL
open PySem PySem.Spec PyProof.Rows L2
structure EqB (X : Cx) (n : Nat) (E : D → D → Bool → Prop) : Prop where
  run : ∀ (A : Around) (pins : List (Addr × Obj)) (s : Shared) (σ : L2.St) (G H : Hp) (x y : V) (u v : Value) (dx dy : D) (b : Bool), L2.Sub X n A → Inv X pins σ H s → RelV x u → RelV y v → Same G H → Rep X.K G dx x → Rep X.K G dy y → E dx dy b →
    wpAny (model X.prog X.w) A (eqBool u v) (fun r s' => r = b ∧ ∃ H', Inv X pins σ H' s' ∧ Ext H H') X.xe s
  same : ∀ (pins : List (Addr × Obj)) (s : Shared) (σ : L2.St) (G H : Hp) (x : V) (dx dy : D) (b : Bool), Inv X pins σ H s → Same G H → Rep X.K G dx x → Rep X.K G dy x → E dx dy b → b = true
theorem EqB.mono {X : Cx} {n m : Nat} {E : D → D → Bool → Prop} (h : EqB X n E) (hn : n ≤ m) : EqB X m E := ⟨fun A pins s σ G H x y u v dx dy b sb => h.run A pins s σ G H x y u v dx dy b (sb.mono hn), h.same⟩
theorem relV_inj {a b : V} {u : Value} (ha : flatV a = true) (hb : flatV b = true) (h1 : RelV a u) (h2 : RelV b u) : a = b := by
  cases a <;> (first | (cases ha; done) | skip) <;> cases b <;> (first | (cases hb; done) | skip)
  all_goals first
    | rfl
    | (have e1 : u = _ := h1; have e2 : u = _ := h2; rw [e1] at e2; cases e2; first | rfl | done)
    | (have e1 : u = _ := h1; obtain ⟨t, e2⟩ := h2; rw [e1] at e2; cases e2; done)
    | (obtain ⟨t, e1⟩ := h1; have e2 : u = _ := h2; rw [e1] at e2; cases e2; done)
    | (obtain ⟨t, e1⟩ := h1; obtain ⟨t', e2⟩ := h2; rw [e1] at e2; cases e2; first | rfl | done)
def allPl : List D → Bool
  | [] => true
  | .str _ :: ds => allPl ds
  | .int _ :: ds => allPl ds
  | .bl _ :: ds => allPl ds
  | .non :: ds => allPl ds
  | _ => false
theorem allPl_vs : ∀ {ds : List D}, allPl ds = true → ∃ vs, flatDs ds = some vs ∧ ∀ v ∈ vs, flatV v = true
  | [], _ => ⟨[], rfl, fun _ h => nomatch h⟩
  | d :: ds, h => by
    have key : ∀ v, flatD d = some v → flatV v = true → allPl ds = true → ∃ vs, flatDs (d :: ds) = some vs ∧ ∀ v ∈ vs, flatV v = true := fun v e f q => by
      obtain ⟨vs, e2, k⟩ := allPl_vs q
      refine ⟨v :: vs, by unfold flatDs; rw [e, e2], fun w hw => ?_⟩
      rcases List.mem_cons.mp hw with rfl | hw
      · exact f
      · exact k w hw
    cases d <;> first | cases h | exact key _ rfl rfl h
theorem allPl_inj {K : PySem.W.Frag} {G : Hp} : ∀ {ds es : List D} {vs : List V}, allPl ds = true → allPl es = true → Reps K G ds vs → Reps K G es vs → ds = es
  | [], [], _, _, _, _, _ => rfl
  | [], e :: es, _, _, _, h, ⟨v, r, e2, _, _⟩ => by rw [show _ = [] from h] at e2; cases e2
  | d :: ds, [], _, _, _, ⟨v, r, e2, _, _⟩, h => by rw [show _ = [] from h] at e2; cases e2
  | d :: ds, e :: es, _, h1, h2, ⟨v, r, e1, r1, rr1⟩, ⟨v', r', e2, r2, rr2⟩ => by
    rw [e1] at e2
    cases e2
    have hd : d = e ∧ allPl ds = true ∧ allPl es = true := by
      cases d <;> cases e <;> first | cases h1 | cases h2 | skip
      all_goals (refine ⟨?_, h1, h2⟩; first | rfl | (have q := (show v = _ from r1).symm.trans (show v = _ from r2); cases q; first | rfl | done))
    rw [hd.1, allPl_inj hd.2.1 hd.2.2 rr1 rr2]
theorem EqB.own {X : Cx} {n : Nat} {C g : Addr} {S : Spec X.K} (hs : PySem.W.findIn X.K (.ref C) "__eq__" = some (some (.ref g))) (hf : PySem.W.isFn X.K (.ref g) = true) (hn : PySem.W.notFirst X.K C (.ref C) = true)
    (F : FnR X.prog X.w X.K X.mg X.base (L2.CX X.prog X.w) n g (spD X.K S)) :
    EqB X n (fun dx dy b => ∃ fs gs, dx = .slo C fs ∧ dy = .slo C gs ∧ allPl fs = true ∧ allPl gs = true ∧ fs.length = gs.length ∧ (fs = gs → b = true) ∧ ∀ P : D → Iv X.K → Prop, P (.bl b) (iEmp X.K) → S (iEmp X.K) [dx, dy] P F0) := by
  have hsame : ∀ (pins : List (Addr × Obj)) (s : Shared) (σ : L2.St) (G H : Hp) (x : V) (fs gs : List D), Inv X pins σ H s → Same G H → Rep X.K G (.slo C fs) x → Rep X.K G (.slo C gs) x → allPl fs = true → allPl gs = true → fs.length = gs.length → fs = gs := by
    intro pins s σ G H x fs gs J sm ⟨a, d1, vs, e1, t1, r1⟩ ⟨a', d2, us, e2, t2, r2⟩ pf pg hl
    rw [e1] at e2
    cases e2
    obtain ⟨sl, od, q1, i1, _⟩ := SlX.slt_inst J (slt_mono sm t1)
    obtain ⟨sl', od', q2, i2, _⟩ := SlX.slt_inst J (slt_mono sm t2)
    obtain ⟨h1, _, _, _⟩ := i1
    obtain ⟨h2, _, _, _⟩ := i2
    rw [h1] at h2
    have esl : sl = sl' := by
      have := Option.some.inj h2
      exact congrArg (fun o : Obj => o.slots) this
    subst esl
    obtain ⟨ws1, f1, p1⟩ := allPl_vs pf
    obtain ⟨ws2, f2, p2⟩ := allPl_vs pg
    have ev1 := r1.flat f1
    have ev2 := r2.flat f2
    have hg : ∀ {ws : List V}, SlX.SlR (ws.map some) sl → ∀ i v, ws[i]? = some v → ∃ u, sl[i]? = some (some u) ∧ RelV v u := fun q i v hv => q i v (by rw [List.getElem?_map, hv]; rfl)
    have hl1 := r1.length
    have hl2 := r2.length
    rw [ev1] at q1 hl1 r1
    rw [ev2] at q2 hl2 r2
    have hws : ws1 = ws2 := List.ext_getElem? fun i => by
      cases a1 : ws1[i]? with
      | none =>
        have := List.getElem?_eq_none_iff.mp a1
        rw [List.getElem?_eq_none_iff.mpr (by omega)]
      | some v =>
        have hlt := (List.getElem?_eq_some_iff.mp a1).1
        have a2 : ws2[i]? = some (ws2[i]'(by omega)) := List.getElem?_eq_getElem (by omega)
        rw [a2]
        obtain ⟨u, e1, k1⟩ := hg q1 i v a1
        obtain ⟨u', e2, k2⟩ := hg q2 i _ a2
        rw [e1] at e2
        cases e2
        rw [relV_inj (p1 v (List.mem_of_getElem? a1)) (p2 _ (List.mem_of_getElem? a2)) k1 k2]
    subst hws
    exact allPl_inj pf pg r1 r2
  refine ⟨?_, ?_⟩
  · intro A pins s σ G H x y u v dx dy b sb J rx ry sm r1 r2 ⟨fs, gs, e1, e2, pf, pg, hl, hb, hS⟩
    subst e1 e2
    obtain ⟨a, d1, vs, ea, t1, q1⟩ := id r1
    obtain ⟨c, d2, us, ec, t2, q2⟩ := id r2
    subst ea ec
    cases (show u = Value.ref a from rx)
    cases (show v = Value.ref c from ry)
    by_cases hac : a = c
    · subst hac
      have hbt := hb (hsame pins s σ G H _ fs gs J sm r1 r2 pf pg hl)
      subst hbt
      exact SeqAt.EqAt.same (A := A) (s := s) (.ref a) X.prog X.w X.xe _ ⟨rfl, H, J, Ext.rfl'⟩
    · refine GQ.eqBool_refG hac ?_
      obtain ⟨sl, od, _, O1, _⟩ := SlX.slt_inst J (slt_mono sm t1)
      obtain ⟨sl', od', _, O2, _⟩ := SlX.slt_inst J (slt_mono sm t2)
      obtain ⟨m, hF⟩ := J.fr
      refine PySem.W.cmp_K (op := .Eq) (tb := .ref C) sb.room.units0 hF J.ok.mod.kin O1 O2.type hn hs hf ?_
      have e0 : Env0 X.prog X.w X.K X.mg X.base A X.stack s H := by
        have e := J.env0
        exact ⟨by rw [sb.fr]; exact e.frames, e.mod, e.bs, e.bsz, e.funs, e.frf, e.hok, e.bare⟩
      have hsp : spD X.K S [.ref a, .ref c] H (fun v H' => v = .bl b ∧ Ext H H') (fun _ _ _ => False) :=
        spD_of (I := iEmp X.K) (G := H) (ds := [.slo C fs, .slo C gs]) (P := fun d _ => d = .bl b) (Same.refl H) Hd.emp (.cons (r1.mono sm) (.cons (r2.mono sm) .nil)) (hS (fun d _ => d = .bl b) rfl) fun v d G' H' I' s1 s2 h1 r e => by
          subst e
          exact ⟨r, fun p o hp => (s1.trans s2) p o hp⟩
      refine wpAny_call (codeAny_mono (F A X.stack s H [.ref a, .ref c] [.ref a, .ref c] _ _ sb.room e0 (.cons rfl (.cons rfl .nil)) hsp) fun r s' hq => ?_)
      cases r with
      | error e => exact (cxF hq).elim
      | ok fl =>
        cases fl with
        | ret w =>
          obtain ⟨z, H', J', rz, ez, ex⟩ := J.after hq
          subst ez
          cases rz
          exact ⟨b, rfl, rfl, H', J', ex⟩
        | next => exact False.elim hq
        | brk => exact False.elim hq
        | cont => exact False.elim hq
  · intro pins s σ G H x dx dy b J sm r1 r2 ⟨fs, gs, e1, e2, pf, pg, hl, hb, _⟩
    subst e1 e2
    exact hb (hsame pins s σ G H x fs gs J sm r1 r2 pf pg hl)
def ETup (E : D → D → Bool → Prop) (dx dy : D) (b : Bool) : Prop := ∃ (xs ys : List D) (e : Nat → Bool), dx = .tup xs ∧ dy = .tup ys ∧ (∀ i x y, xs[i]? = some x → ys[i]? = some y → E x y (e i)) ∧ b = ((xs.length == ys.length) && (List.range (min xs.length ys.length)).all e)
theorem EqB.tup {X : Cx} {n : Nat} {E : D → D → Bool → Prop} (h : EqB X n E) : EqB X (n + 1) (ETup E) := by
  have hsame : ∀ (pins : List (Addr × Obj)) (s : Shared) (σ : L2.St) (G H : Hp) (x : V) (dx dy : D) (b : Bool), Inv X pins σ H s → Same G H → Rep X.K G dx x → Rep X.K G dy x → ETup E dx dy b → b = true := by
    intro pins s σ G H x dx dy b J sm r1 r2 ⟨xs, ys, e, e1, e2, he, hb⟩
    subst e1 e2 hb
    obtain ⟨a, vs, ea, t1, q1⟩ := r1
    obtain ⟨a', us, ea', t2, q2⟩ := r2
    rw [ea] at ea'
    cases ea'
    have evs := J.tuple_inj (sqT_mono sm t1) (sqT_mono sm t2)
    subst evs
    have hl : xs.length = ys.length := by rw [← q1.length, ← q2.length]
    rw [Bool.and_eq_true, beq_iff_eq]
    refine ⟨hl, ?_⟩
    rw [List.all_eq_true]
    intro i hi
    have hi := List.mem_range.mp hi
    have h1 : xs[i]? = some (xs[i]'(by omega)) := List.getElem?_eq_getElem (by omega)
    have h2 : ys[i]? = some (ys[i]'(by omega)) := List.getElem?_eq_getElem (by omega)
    obtain ⟨v, k1, k2⟩ := q1.get h1
    obtain ⟨v', k3, k4⟩ := q2.get h2
    rw [k1] at k3
    cases k3
    exact h.same pins s σ G H v _ _ _ J sm k2 k4 (he i _ _ h1 h2)
  refine ⟨?_, hsame⟩
  intro A pins s σ G H x y u v dx dy b sb J rx ry sm r1 r2 hE
  obtain ⟨xs, ys, e, e1, e2, he, hb⟩ := id hE
  subst e1 e2
  obtain ⟨a, vs, ea, t1, q1⟩ := id r1
  obtain ⟨c, us, ec, t2, q2⟩ := id r2
  subst ea ec
  cases (show u = Value.ref a from rx)
  cases (show v = Value.ref c from ry)
  by_cases hac : a = c
  · subst hac
    have hbt := hsame pins s σ G H _ _ _ _ J sm r1 r2 hE
    rw [hbt]
    exact SeqAt.EqAt.same (A := A) (s := s) (.ref a) X.prog X.w X.xe _ ⟨rfl, H, J, Ext.rfl'⟩
  · refine GQ.eqBool_refG hac ?_
    obtain ⟨its, rv, ⟨⟨cls, dd, data, sl⟩, ho, hc, nn, hd⟩, _⟩ := J.tuple (sqT_mono sm t1)
    obtain ⟨its2, rv2, ⟨⟨cls2, dd2, data2, sl2⟩, ho2, hc2, nn2, hd2⟩, _⟩ := J.tuple (sqT_mono sm t2)
    simp only at hc hd hc2 hd2
    subst hc hd hc2 hd2
    have hn1 : its.toArray.size = xs.length := by rw [List.size_toArray, ← rv.length, q1.length]
    have hn2 : its2.toArray.size = ys.length := by rw [List.size_toArray, ← rv2.length, q2.length]
    refine wpAny_richCompare_same_room (op := .Eq) ⟨_, ho, rfl⟩ ⟨_, ho2, rfl⟩ F.slot_tuple_eq (GQ.call_here F.slot_tuple_eq ⟨_, ho, rfl⟩ F.entry_tuple_eq (F.args_tuple_eq_2 _ _) ?_) sb.room.units0
    refine GQ.tuple_eqB (R := wants (fun v s' => v ≠ .notImplemented ∧ ∃ r, v = .bool r ∧ r = b ∧ ∃ H', Inv X pins σ H' s' ∧ Ext H H') X.xe) a c its.toArray its2.toArray nn nn2 dd dd2 sl sl2 (fun s' => ∃ H', Inv X pins σ H' s' ∧ Ext H H') e ?_ ?_ ho ho2 ⟨H, J, Ext.rfl'⟩
    · rintro i h1 h2 s' ⟨H1, J1, ex1⟩
      have k1 : i < xs.length := by omega
      have k2 : i < ys.length := by omega
      obtain ⟨w1, g1, rw1⟩ := q1.get (List.getElem?_eq_getElem k1)
      obtain ⟨w2, g2, rw2⟩ := q2.get (List.getElem?_eq_getElem k2)
      obtain ⟨u1, gu1, ru1⟩ := rv.get g1
      obtain ⟨u2, gu2, ru2⟩ := rv2.get g2
      have m1 : its.toArray[i] = u1 := by
        have := (List.getElem?_eq_some_iff.mp gu1).2
        simpa using this
      have m2 : its2.toArray[i] = u2 := by
        have := (List.getElem?_eq_some_iff.mp gu2).2
        simpa using this
      rw [m1, m2]
      refine wpAny_mono (h.run A.in1 pins s' σ G H1 w1 w2 u1 u2 _ _ (e i) sb.in1 J1 ru1 ru2 (fun p o hp => ex1 p o (sm p o hp)) rw1 rw2 (he i _ _ (List.getElem?_eq_getElem k1) (List.getElem?_eq_getElem k2))) (fun r s2 q => ?_) fun _ _ x => x
      obtain ⟨hr, H2, J2, ex2⟩ := q
      exact ⟨hr, H2, J2, ex1.trans ex2⟩
    · rintro s' ⟨H', J', ex⟩
      exact ⟨(fun z => nomatch z), _, rfl, by rw [hb, hn1, hn2], H', J', ex⟩
end DL
set_option Elab.async false
set_option linter.all false
set_option maxRecDepth 100000
set_option maxHeartbeats 4000000
namespace DL
open PySem PySem.Calls PyProof.Rows PyProof.V PySem.Spec PySem.W
section
variable {prog : Program} {w : World} {K : Type} [DecidableEq K] {knd : KeyKind prog w K} {A : Around} {E : Value → Shared → Prop} {s : Shared}
inductive KHits {K : Type} [DecidableEq K] (prog : Program) (w : World) (A : Around) (E : Value → Shared → Prop) (J : Shared → Prop) (kb : List (K × Value)) : List (K × Value) → Bool → Prop
  | nil : KHits prog w A E J kb [] true
  | miss {k : K} {v : Value} {r : List (K × Value)} : valueAt kb k = none → KHits prog w A E J kb ((k, v) :: r) false
  | hit {k : K} {v y : Value} {r : List (K × Value)} {e b : Bool} : valueAt kb k = some y → (∀ s, J s → wpAny (model prog w) A (eqBool v y) (fun z s' => z = e ∧ J s') E s) → KHits prog w A E J kb r b → KHits prog w A E J kb ((k, v) :: r) (e && b)
theorem KHits.inv {J : Shared → Prop} {kb : List (K × Value)} {k : K} {v : Value} {r : List (K × Value)} {b : Bool} (h : KHits prog w A E J kb ((k, v) :: r) b) :
    (valueAt kb k = none ∧ b = false) ∨ ∃ y e b', valueAt kb k = some y ∧ (∀ s, J s → wpAny (model prog w) A (eqBool v y) (fun z s' => z = e ∧ J s') E s) ∧ KHits prog w A E J kb r b' ∧ b = (e && b') := by
  cases h with
  | miss hn => exact .inl ⟨hn, rfl⟩
  | hit hy he hr => exact .inr ⟨_, _, _, hy, he, hr, rfl⟩
theorem samePairsJ {nm : String} {a b : Addr} {ka kb : List (K × Value)} {r : Bool} {Q : Bool → Shared → Prop} (ha : (a == sysModules) = false) (hb : (b == sysModules) = false)
    (J : Shared → Prop) (j0 : J s) (st : ∀ s', J s' → s'.heap.get? a = s.heap.get? a ∧ s'.heap.get? b = s.heap.get? b)
    (da : s.heap.DictOf knd a ka) (db : s.heap.DictOf knd b kb) (hits : ka.length = kb.length → KHits prog w A E J kb ka r) (h : ∀ s', J s' → Q (ka.length == kb.length && r) s') :
    wpAny (model prog w) A (Builtin.Dict.samePairs nm a b) Q E s := by
  obtain ⟨oa, es, ep, hoa0, _, hda, hka, hpa, _⟩ := da
  obtain ⟨ob, es', ep', hob0, _, hdb, hkb, hpb, _⟩ := db
  have hoaJ : ∀ s', J s' → s'.heap.get? a = some oa := fun s' q => (st s' q).1.trans hoa0
  have hobJ : ∀ s', J s' → s'.heap.get? b = some ob := fun s' q => (st s' q).2.trans hob0
  have hoa := hoaJ s j0
  have hob := hobJ s j0
  have hla : ka.length = es.size := by rw [← hpa.length]; exact Array.length_toList
  have hlb : kb.length = es'.size := by rw [← hpb.length]; exact Array.length_toList
  have hfind : ∀ k, findBy knd.is es' k = valueAt kb k := fun k => by
    rw [← hpb.find k]
    clear hlb hpb hkb hdb hob hobJ hob0
    obtain ⟨l⟩ := es'
    simp [findBy]
  rw [hla, hlb] at h
  unfold Builtin.Dict.samePairs Builtin.Dict.showsAll
  rw [if_neg (show ¬ (a == sysModules) = true by rw [ha]; exact Bool.false_ne_true), if_neg (show ¬ (b == sysModules) = true by rw [hb]; exact Bool.false_ne_true)]
  refine wpAny_bind (wpAny_pure (wpAny_bind (wpAny_pure ?_)))
  refine wpAny_bind (wpAny_dictEntries hoa hda ?_)
  dsimp only
  refine wpAny_bind (wpAny_dictEntries hob hdb ?_)
  by_cases hsz : es.size = es'.size
  case neg =>
    rw [if_pos (by simpa using hsz)]
    have hbf : (es.size == es'.size) = false := by simpa using hsz
    rw [hbf, Bool.false_and] at h
    exact wpAny_bind (wpAny_rule (wpAny_pure (h s j0)))
  case pos =>
    have h' : ∀ s', J s' → Q r s' := fun s' q => by simpa [hsz] using h s' q
    have hits' := hits (by rw [hla, hlb]; exact hsz)
    rw [if_neg (by rw [hsz]; simp)]
    refine wpAny_bind (wpAny_dictEpoch hoa hda ?_)
    refine wpAny_bind ?_
    rw [Std.Legacy.Range.forIn_eq_forIn_range']
    simp only [Std.Legacy.Range.size, Nat.sub_zero, Nat.add_sub_cancel, Nat.div_one]
    refine wpAny_forIn_list _
      (fun rest q s' => J s' ∧ q = (none, ()) ∧ ∃ i, rest = List.range' i (es.size - i) ∧ i ≤ es.size ∧ KHits prog w A E J kb (ka.drop i) r)
      _ ?_ ?_ _ _ ⟨j0, rfl, 0, by simp, Nat.zero_le _, hits'⟩
    · rintro x rest q s' ⟨js, rfl, i, hr, hi, hpre⟩
      have hoa := hoaJ s' js
      have hob := hobJ s' js
      have hlt : i < es.size := by
        rcases Nat.lt_or_ge i es.size with h | h
        · exact h
        · rw [Nat.sub_eq_zero_of_le h] at hr; simp at hr
      obtain ⟨rfl, hrest⟩ : x = i ∧ rest = List.range' (i + 1) (es.size - (i + 1)) := by
        have e : es.size - i = (es.size - (i + 1)) + 1 := by omega
        rw [e, List.range'_succ] at hr
        injection hr with h1 h2
        exact ⟨h1, h2⟩
      refine wpAny_bind (wpAny_dictEntries hoa hda ?_)
      rw [Array.getElem?_eq_getElem hlt]
      have hlt' : x < ka.length := by rw [hla]; exact hlt
      obtain ⟨k, v, hkv⟩ : ∃ k v, ka[x] = (k, v) := ⟨_, _, rfl⟩
      have hdrop : ka.drop x = (k, v) :: ka.drop (x + 1) := by rw [← hkv]; exact List.drop_eq_getElem_cons hlt'
      obtain ⟨hkey, hval⟩ := hpa.get? (i := x) (e := es[x]) (k := k) (v := v) (by rw [Array.getElem?_toList]; exact Array.getElem?_eq_getElem hlt) (by rw [List.getElem?_eq_getElem hlt', hkv])
      obtain ⟨k', hk', hh⟩ := hka es[x] (Array.getElem_mem hlt)
      have ekk : k' = k := knd.inj _ _ _ hk' hkey
      rw [ekk] at hh
      rw [hdrop] at hpre
      show wpAny _ _ (holding [es[x].key, es[x].val] _ >>= _) _ _ _
      rw [hh]
      refine wpAny_bind (wpAny_holding (wpAny_bind (wpAny_dictFind_of hkey hob hdb hkb ?_)))
      cases hj : es'.findIdx? fun e => knd.is k e.key with
      | none =>
        have hn : valueAt kb k = none := by rw [← hfind k, findBy_of_findIdx?, hj]
        rcases hpre.inv with ⟨_, er⟩ | ⟨y, _, _, hy, _⟩
        · rw [er] at h'
          refine wpAny_pure ?_
          show wpAny _ _ (if (!false) = true then _ else _) _ _ _
          rw [if_pos (by decide)]
          exact wpAny_pure (wpAny_pure (h' s' js))
        · rw [hn] at hy; exact nomatch hy
      | some j =>
        obtain ⟨hjlt, _, _⟩ := Array.findIdx?_eq_some_iff_getElem.mp hj
        have hv' : valueAt kb k = some es'[j].val := by
          rw [← hfind k, findBy_of_findIdx?, hj]
          simp [Array.getElem?_eq_getElem hjlt]
        refine wpAny_bind (wpAny_dictEntries hob hdb ?_)
        rw [Array.getElem?_eq_getElem hjlt]
        rcases hpre.inv with ⟨hn, _⟩ | ⟨y, e, b', hy, he, hrr, er⟩
        · rw [hv'] at hn; exact nomatch hn
        · have ey : es'[j].val = y := Option.some.inj (hv'.symm.trans hy)
          rw [← ey, ← hval] at he
          refine wpAny_holding (wpAny_mono (he s' js) (fun r2 s2 hq => ?_) fun _ _ x => x)
          obtain ⟨her, js2⟩ := hq
          rw [her]; clear her
          have hoa2 := hoaJ s2 js2
          cases e with
          | false =>
            rw [er, Bool.false_and] at h'
            show wpAny _ _ (if (!false) = true then _ else _) _ _ _
            rw [if_pos (by decide)]
            exact wpAny_pure (wpAny_pure (h' s2 js2))
          | true =>
            rw [Bool.true_and] at er
            rw [← er] at hrr
            show wpAny _ _ (if (!true) = true then _ else _) _ _ _
            rw [if_neg (by decide)]
            refine wpAny_bind (wpAny_dictEpoch hoa2 hda ?_)
            rw [if_neg (by simp)]
            exact wpAny_pure ⟨js2, rfl, x + 1, hrest, hlt, hrr⟩
    · rintro q s' ⟨js, rfl, i, hr, hi, hpre⟩
      have hin : i = es.size := by
        rcases Nat.lt_or_ge i es.size with h | h
        · have e : es.size - i = (es.size - (i + 1)) + 1 := by omega
          rw [e, List.range'_succ] at hr; exact nomatch hr
        · exact Nat.le_antisymm hi h
      refine wpAny_pure ?_
      rw [hin, ← hla, List.drop_length] at hpre
      cases hpre
      exact h' s' js
theorem eqJ {a b : Addr} {ka kb : List (K × Value)} {r : Bool} {Q : Value → Shared → Prop} (ha : (a == sysModules) = false) (hb : (b == sysModules) = false)
    (J : Shared → Prop) (j0 : J s) (st : ∀ s', J s' → s'.heap.get? a = s.heap.get? a ∧ s'.heap.get? b = s.heap.get? b)
    (da : s.heap.DictOf knd a ka) (db : s.heap.DictOf knd b kb) (hu : A.units < cLine) (hits : ka.length = kb.length → KHits prog w A.in1 E J kb ka r) (h : ∀ s', J s' → Q (.bool (ka.length == kb.length && r)) s') :
    wpAny (model prog w) A (compareOp .Eq (.ref a) (.ref b)) Q E s := by
  refine wpAny_richCompare_same_room (op := .Eq) da.typeIs db.typeIs PySem.F.slot_dict_eq (wpAny_call_entry PySem.F.slot_dict_eq da.typeIs PySem.F.entry_dict_eq ?_ (PySem.F.args_dict_eq_2 _ _)) hu
  show wpAny _ _ (Builtin.Dict.dictSlotArgs "__eq__" ⟨[.ref a, .ref b], []⟩ >>= _) _ _ s
  refine wpAny_bind ?_
  unfold Builtin.Dict.dictSlotArgs
  refine wpAny_bind (wpAny_notOrdered_dict da.typeIs ?_)
  show wpAny _ _ (pure (Value.ref a, Value.ref b)) _ _ s
  refine wpAny_pure ?_
  refine wpAny_bind (wpAny_isInstance (T := "dict") db.typeIs PySem.F.sub_dict_dict ?_)
  simp only [Bool.not_true, Bool.false_eq_true, if_false]
  refine wpAny_bind (wpAny_pure (wpAny_bind (wpAny_pure ?_)))
  refine wpAny_bind (samePairsJ ha hb J j0 st da db hits fun s' js => ?_)
  refine wpAny_pure ⟨_, rfl, ?_, ?_⟩
  · exact fun x => nomatch x
  · simpa using h s' js
theorem neJ {a b : Addr} {ka kb : List (K × Value)} {r : Bool} {Q : Value → Shared → Prop} (ha : (a == sysModules) = false) (hb : (b == sysModules) = false)
    (J : Shared → Prop) (j0 : J s) (st : ∀ s', J s' → s'.heap.get? a = s.heap.get? a ∧ s'.heap.get? b = s.heap.get? b)
    (da : s.heap.DictOf knd a ka) (db : s.heap.DictOf knd b kb) (hu : A.units < cLine) (hits : ka.length = kb.length → KHits prog w A.in1 E J kb ka r) (h : ∀ s', J s' → Q (.bool (!(ka.length == kb.length && r))) s') :
    wpAny (model prog w) A (compareOp .NotEq (.ref a) (.ref b)) Q E s := by
  refine wpAny_richCompare_same_room (op := .NotEq) da.typeIs db.typeIs PySem.F.slot_dict_ne (wpAny_call_entry PySem.F.slot_dict_ne da.typeIs PySem.F.entry_dict_ne ?_ (PySem.F.args_dict_ne_2 _ _)) hu
  show wpAny _ _ (Builtin.Dict.dictSlotArgs "__ne__" ⟨[.ref a, .ref b], []⟩ >>= _) _ _ s
  refine wpAny_bind ?_
  unfold Builtin.Dict.dictSlotArgs
  refine wpAny_bind (wpAny_notOrdered_dict da.typeIs ?_)
  show wpAny _ _ (pure (Value.ref a, Value.ref b)) _ _ s
  refine wpAny_pure ?_
  refine wpAny_bind (wpAny_isInstance (T := "dict") db.typeIs PySem.F.sub_dict_dict ?_)
  simp only [Bool.not_true, Bool.false_eq_true, if_false]
  refine wpAny_bind (wpAny_pure (wpAny_bind (wpAny_pure ?_)))
  refine wpAny_bind (samePairsJ ha hb J j0 st da db hits fun s' js => ?_)
  refine wpAny_pure ⟨_, rfl, ?_, ?_⟩
  · exact fun x => nomatch x
  · simpa using h s' js

end
end DL
namespace DL
open PySem PySem.Spec PyProof.Rows L2
inductive EHits (E : D → D → Bool → Prop) (kb : List (Key × D)) : List (Key × D) → Bool → Prop
  | nil : EHits E kb [] true
  | miss {k : Key} {d : D} {r : List (Key × D)} : getG kb k = none → EHits E kb ((k, d) :: r) false
  | hit {k : Key} {d e : D} {r : List (Key × D)} {b b' : Bool} : getG kb k = some e → E d e b → EHits E kb r b' → EHits E kb ((k, d) :: r) (b && b')
def rEqDic (K : PySem.W.Frag) (E : D → D → Bool → Prop) : R2 := fun x y H Q => ∃ (G : Hp) (ka kb : List (Key × D)) (r : Bool), Same G H ∧ Rep K G (dicD ka) x ∧ Rep K G (dicD kb) y ∧ (ka.length = kb.length → EHits E kb ka r) ∧ ∀ H', Ext H H' → Q (.bl (ka.length == kb.length && r)) H'
theorem kv_get {kvs : List (Key × V)} {vs : List (Key × Value)} {k : Key} (h : KV kvs vs) : (∀ v, valV kvs k = some v → ∃ u, valueAt vs k = some u ∧ RelV v u) ∧ (valV kvs k = none → valueAt vs k = none) := by
  induction h with
  | nil => exact ⟨(fun v e => nomatch (show none = some v from e)), fun _ => rfl⟩
  | cons hd tl ih =>
    rename_i p q ps qs
    obtain ⟨pk, pv⟩ := p
    obtain ⟨qk, qv⟩ := q
    obtain ⟨e1, e2⟩ : pk = qk ∧ RelV pv qv := hd
    subst e1
    unfold valV valueAt at *
    simp only [List.find?_cons]
    by_cases e : pk = k
    · rw [decide_eq_true e]
      exact ⟨fun v h => by cases h; exact ⟨qv, rfl, e2⟩, fun h => by cases h⟩
    · rw [decide_eq_false e]
      exact ih
theorem hits_of {X : Cx} {n : Nat} {E : D → D → Bool → Prop} (h : EqB X n E) {A : Around} (sb : L2.Sub X n A) {pins : List (Addr × Obj)} {σ : L2.St} {G H : Hp} (sm : Same G H) {kb : List (Key × D)} {kvb : List (Key × V)} {vb : List (Key × Value)} (rb : KR X.K G kb kvb) (cb : KV kvb vb) :
    ∀ {ka : List (Key × D)} {r : Bool}, EHits E kb ka r → ∀ {kva : List (Key × V)} {va : List (Key × Value)}, KR X.K G ka kva → KV kva va → KHits X.prog X.w A X.xe (fun s' => ∃ H', Inv X pins σ H' s' ∧ Ext H H') vb va r := by
  intro ka r hh
  induction hh with
  | nil =>
    intro kva va ra ca
    rw [show kva = [] from ra] at ca
    cases ca
    exact .nil
  | miss hm =>
    intro kva va ⟨v, rr, e1, _, _⟩ ca
    rw [e1] at ca
    cases ca with
    | cons hd tl =>
      rename_i q qs
      obtain ⟨qk, qv⟩ := q
      obtain ⟨e2, _⟩ := (show _ = qk ∧ RelV v qv from hd)
      subst e2
      exact .miss ((kv_get cb).2 (rb.get.2 hm))
  | hit hg he _ ih =>
    intro kva va ⟨v, rr, e1, r1, r2⟩ ca
    rw [e1] at ca
    cases ca with
    | cons hd tl =>
      rename_i q qs
      obtain ⟨qk, qv⟩ := q
      obtain ⟨e2, rv⟩ := (show _ = qk ∧ RelV v qv from hd)
      subst e2
      obtain ⟨w, hw, rw_⟩ := rb.get.1 _ hg
      obtain ⟨u, hu, ru⟩ := (kv_get cb).1 _ hw
      refine .hit hu (fun s' ⟨H1, J1, ex1⟩ => ?_) (ih r2 tl)
      refine wpAny_mono (h.run A pins s' σ G H1 v w qv u _ _ _ sb J1 rv ru (fun p o hp => ex1 p o (sm p o hp)) r1 rw_ he) (fun r s2 q => ?_) fun _ _ x => x
      obtain ⟨hr, H2, J2, ex2⟩ := q
      exact ⟨hr, H2, J2, ex1.trans ex2⟩
theorem op_eqDic {X : Cx} {n : Nat} {E : D → D → Bool → Prop} (h : EqB X n E) (hr : Room (n + 1) X.A) : OpR X (compareOp .Eq) (rEqDic X.K E) := by
  intro pins s σ H x y v u Q I rx ry ⟨G, ka, kb, r, sm, r1, r2, hits, q⟩
  obtain ⟨a, oa, kva, ea, ga, ra⟩ := rep_dicD.mp r1
  obtain ⟨b, ob, kvb, eb, gb, rb⟩ := rep_dicD.mp r2
  subst ea eb
  cases (show v = Value.ref a from rx)
  cases (show u = Value.ref b from ry)
  obtain ⟨z1, lo1, va, rela, dda⟩ := dk_rd I.hok (.inr ⟨oa, sm _ _ ga⟩)
  obtain ⟨z2, lo2, vb, relb, ddb⟩ := dk_rd I.hok (.inr ⟨ob, sm _ _ gb⟩)
  have oka : s.heap.get? a = some oa := (show ObjOk X.prog X.w H s.heap a (.frz oa (.dK kva)) from I.hok a _ (sm _ _ ga)).1
  have okb : s.heap.get? b = some ob := (show ObjOk X.prog X.w H s.heap b (.frz ob (.dK kvb)) from I.hok b _ (sm _ _ gb)).1
  have hla : va.length = ka.length := by rw [← rela.length, ra.length]
  have hlb : vb.length = kb.length := by rw [← relb.length, rb.length]
  refine eqJ lo1 lo2 (fun s' => ∃ H', Inv X pins σ H' s' ∧ Ext H H') ⟨H, I, Ext.rfl'⟩ (fun s' ⟨H', J', ex⟩ => ?_) dda ddb hr.units0 (fun e => hits_of h (L2.Sub.in1 ⟨hr, rfl⟩) sm rb relb (hits (by omega)) ra rela) fun s' ⟨H', J', ex⟩ => ?_
  · rw [oka, okb]
    exact ⟨(show ObjOk X.prog X.w H' s'.heap a (.frz oa (.dK kva)) from J'.hok a _ (ex _ _ (sm _ _ ga))).1, (show ObjOk X.prog X.w H' s'.heap b (.frz ob (.dK kvb)) from J'.hok b _ (ex _ _ (sm _ _ gb))).1⟩
  · rw [hla, hlb]
    exact ⟨.bl _, H', J', rfl, q H' ex⟩
theorem Hd.ext {K : PySem.W.Frag} {I : Iv K} {G H H' : Hp} (h : Hd I G H) (e : Ext H H') : Hd I G H' :=
  ⟨I.loc G G H H' (Same.refl G) (fun a ha => by
    cases q : H a with
    | none => exact absurd q (h.dom ha)
    | some o => exact e a o q) h.ph, h.fr⟩
theorem p2_eqDic {K : PySem.W.Frag} {I : Iv K} {E : D → D → Bool → Prop} {ka kb : List (Key × D)} {r : Bool} (h : ka.length = kb.length → EHits E kb ka r) : P2 K I (rEqDic K E) (dicD ka) (dicD kb) (.bl (ka.length == kb.length && r)) := fun P pp G H v w Q s hI r1 r2 q =>
  ⟨G, ka, kb, r, s, r1, r2, h, fun H' ex => q (.bl _) (.bl _) G H' I (Same.refl G) (fun p o hp => ex p o (s p o hp)) (hI.ext ex) rfl pp⟩
end DL
set_option Elab.async false
set_option linter.all false
set_option maxRecDepth 100000
set_option maxHeartbeats 4000000
namespace DL
open PySem PySem.Spec PyProof.Rows L2
def IsI (H : Hp) (a C : Addr) (m : Str) : Prop := (∃ dx vs, SlX.Slt H a C dx vs) ∨ ∃ dx fs, H a = some (.ins C dx fs) ∧ fs.lookup m = none
theorem isi_inst {X : Cx} {pins : List (Addr × Obj)} {σ : L2.St} {H : Hp} {s : Shared} {a C : Addr} {m : Str} (J : Inv X pins σ H s) (h : IsI H a C m) : ∃ ox od, PySem.W.InstAt s.heap a ox C (some od) ∧ PySem.W.lookIn m od = some none := by
  rcases h with ⟨dx, vs, h⟩ | ⟨dx, fs, h, hl⟩
  · obtain ⟨sl, od, _, O, k⟩ := SlX.slt_inst J h
    exact ⟨_, od, O, k m⟩
  · obtain ⟨mA, O, r, _, _, _⟩ := ins_get J.hok h
    have hn : mA m = none := RelO.none_of (by rw [← hl]; exact r m)
    obtain ⟨od, J2, k⟩ := O.look
    exact ⟨_, od, J2, by rw [k, hn]⟩
def InsD {K : PySem.W.Frag} (C : Addr) (m : Str) (x : D) (I : Iv K) : Prop := ∀ (G H : Hp) (v : V), Same G H → Hd I G H → Rep K G x v → ∃ a, v = .ref a ∧ IsI H a C m
theorem insD_slo {K : PySem.W.Frag} {C : Addr} {m : Str} {fs : List D} {I : Iv K} : InsD C m (.slo C fs) I := fun G H v s _ ⟨a, dx, vs, e, t, _⟩ => ⟨a, e, .inl ⟨dx, _, slt_mono s t⟩⟩
section
variable {X : Cx} {W : WX} {R : Rx X.K} {n : Nat} {g : Addr} {S : Spec X.K} {pins : List (Addr × Obj)} {σ : L2.St} {H : Hp} {s : Shared}
theorem run_own (tk : Takes X W) {A : Around} {Q : VK} {us : List Value} {ws : List V} {sp : Sp} (F : FnR X.prog X.w X.K X.mg X.base (L2.CX X.prog X.w) n g sp) (hr : Room n A) (e0 : Env0 X.prog X.w X.K X.mg X.base A X.stack s H) (I : Inv X pins σ H s) (r : Vals ws us) (h : sp ws H Q (WE W σ)) :
    codeAny (model X.prog X.w) A (.call (.ref g) ⟨us, []⟩) (fun r s' => match r with | .ok (.ret v) => EP X pins σ Q v s' | .ok _ => False | .error e => X.xe e s') s := by
  refine codeAny_mono (F A X.stack s H us ws Q (WE W σ) hr e0 r h) fun r s' hq => ?_
  cases r with
  | error e => exact passAt tk σ pins H s e s' I hq
  | ok fl =>
    cases fl with
    | ret u => exact I.after hq
    | next => exact False.elim hq
    | brk => exact False.elim hq
    | cont => exact False.elim hq
end
theorem spD_at {X : Cx} {W : WX} {R : Rx X.K} {S : Spec X.K} {I : Iv X.K} {G H : Hp} {σ : L2.St} {ds : List D} {vs : List V} {Q : VK} {P : D → Iv X.K → Prop} (s : Same G H) (h : Hd I G H) (r : Reps X.K G ds vs) (k : S I ds P R) (q : Kv X.K Q G P) (qx : Kx X.K W σ G R) : spD X.K S vs H Q (WE W σ) :=
  ⟨I, G, ds, P, R, s, h, r, k, q, fun C dd fs l G' H' I' s2 t2 h2 r2 hx p => qx C dd fs l G' H' I' s2 t2 h2 r2 hx p⟩
structure PlG (K : PySem.W.Frag) (C : Addr) : Prop where
  g : ∀ f, PySem.W.plainGet K C f = true
section
variable {X : Cx} {W : WX} {R : Rx X.K} {n : Nat} {C : Addr} {m : Str} {S : Spec X.K} {δ : DEnv} {I : Iv X.K} {P : D → Iv X.K → Prop} {o a b e : Expr} {es : List Expr} {pos apos p : Pos} {κ : Ko X.K}
theorem ev_methA {pl : Sem Bool} (tk : Takes X W) (c : PlG X.K C) (hf : PySem.W.findIn X.K (.ref C) m = some (some (.ref (He.ma X.K C m)))) (hi : PySem.W.isFn X.K (.ref (He.ma X.K C m)) = true) (hk : PySem.W.keepIn X.K (.ref (He.ma X.K C m)) = true) (F : FnR X.prog X.w X.K X.mg X.base (L2.CX X.prog X.w) n (He.ma X.K C m) (spD X.K S)) (hr : Room n X.A)
    (h : EvX X W R o δ I fun x I1 => InsD C m x I1 ∧ EvA X W R (e :: es) δ I1 fun ds I2 => S I2 (x :: ds) P R)
    (hst : starEach (e :: es) X.env = (false, eval e X.env) :: starEach es X.env := by rfl) (hpl : (backTo pos (starEach es X.env)).any (·.1) = false := by rfl)
    (ht : eval (.Call (.Attribute o m apos) (e :: es) [] pos) X.env = (do
      let ov ← eval o X.env
      standAt apos.atName
      let (f, first) ← holding [ov] (getMethod ov m pl)
      callWith pos f first (backTo pos (starEach (e :: es) X.env)) (backToKw pos (keywordEach [] X.env))) := by rfl) : EvX X W R (.Call (.Attribute o m apos) (e :: es) [] pos) δ I P := fun σ G H Q hE s hI qx q => by
  refine ⟨fun pins st J => PySem.W.methodCall_KW (pl := pl) (thn (peC.run pins st σ H _ J (h σ G H (fun v H1 => ∃ a, v = .ref a ∧ IsI H1 a C m ∧ wpA X (e :: es) σ H1 fun vs H2 => spD X.K S (.ref a :: vs) H2 Q (WE W σ)) hE s hI qx fun v x G1 H1 I1 s1 t1 h1 r1 ⟨hx, ka⟩ => ?_)) fun u s1 ⟨x, H1, J1, rx, q1⟩ => ?_) ht⟩
  · obtain ⟨a, ea, hia⟩ := hx G1 H1 v t1 h1 r1
    refine ⟨a, ea, hia, ka σ G1 H1 _ (hE.mono s1) t1 h1 (qx.mono s1) fun vs ds G2 H2 I2 s2 t2 h2 r2 k2 => ?_⟩
    exact spD_at t2 h2 (.cons (by rw [← ea]; exact r1.mono s2) r2) k2 (q.mono (s1.trans s2)) (qx.mono (s1.trans s2))
  · obtain ⟨a, ea, hia, wa⟩ := q1
    subst ea
    obtain rfl : u = Value.ref a := rx
    obtain ⟨ox, od, O, hl⟩ := isi_inst J1 hia
    refine PySem.W.method_fn J1.kIn O (PySem.W.plainGet_of (c.g m)).1 (PySem.W.plainGet_of (c.g m)).2 hf (beq_iff_eq.mp hi) (by show (PySem.W.lookIn m od).map (·.isSome) = some false; rw [hl]; rfl) ?_
    refine PySem.W.callWith_K (first := [.ref a]) (h₀ := X.base) J1.ok.mod.kin hk (thn (paC.run pos pins s1 σ H1 _ J1 wa) fun us s2 ⟨vs, H2, J2, r, q2⟩ => ⟨J2.kIn, ?_⟩) hst hpl
    exact wpAny_call (run_own tk F hr J2.env0 J2 (us := .ref a :: us) (ws := .ref a :: vs) (.cons rfl r) q2)
theorem ev_meth0 {pl : Sem Bool} (tk : Takes X W) (c : PlG X.K C) (hf : PySem.W.findIn X.K (.ref C) m = some (some (.ref (He.ma X.K C m)))) (hi : PySem.W.isFn X.K (.ref (He.ma X.K C m)) = true) (hk : PySem.W.keepIn X.K (.ref (He.ma X.K C m)) = true) (F : FnR X.prog X.w X.K X.mg X.base (L2.CX X.prog X.w) n (He.ma X.K C m) (spD X.K S)) (hr : Room n X.A)
    (h : EvX X W R o δ I fun x I1 => InsD C m x I1 ∧ S I1 [x] P R)
    (ht : eval (.Call (.Attribute o m apos) [] [] pos) X.env = (do
      let ov ← eval o X.env
      standAt apos.atName
      let (f, first) ← holding [ov] (getMethod ov m pl)
      callWith pos f first (backTo pos (starEach [] X.env)) (backToKw pos (keywordEach [] X.env))) := by rfl) : EvX X W R (.Call (.Attribute o m apos) [] [] pos) δ I P := fun σ G H Q hE s hI qx q => by
  refine ⟨fun pins st J => PySem.W.methodCall_KW (pl := pl) (thn (peC.run pins st σ H _ J (h σ G H (fun v H1 => ∃ a, v = .ref a ∧ IsI H1 a C m ∧ spD X.K S [.ref a] H1 Q (WE W σ)) hE s hI qx fun v x G1 H1 I1 s1 t1 h1 r1 ⟨hx, ka⟩ => ?_)) fun u s1 ⟨x, H1, J1, rx, q1⟩ => ?_) ht⟩
  · obtain ⟨a, ea, hia⟩ := hx G1 H1 v t1 h1 r1
    exact ⟨a, ea, hia, spD_at t1 h1 (.cons (by rw [← ea]; exact r1) .nil) ka (q.mono s1) (qx.mono s1)⟩
  · obtain ⟨a, ea, hia, q2⟩ := q1
    subst ea
    obtain rfl : u = Value.ref a := rx
    obtain ⟨ox, od, O, hl⟩ := isi_inst J1 hia
    refine PySem.W.method_fn J1.kIn O (PySem.W.plainGet_of (c.g m)).1 (PySem.W.plainGet_of (c.g m)).2 hf (beq_iff_eq.mp hi) (by show (PySem.W.lookIn m od).map (·.isSome) = some false; rw [hl]; rfl) ?_
    exact PySem.W.callWith_K0 (first := [.ref a]) J1.kIn hk (wpAny_call (run_own tk F hr J1.env0 J1 (us := [.ref a]) (ws := [.ref a]) (.cons rfl .nil) q2))
theorem ev_subOwn (tk : Takes X W) (hf : PySem.W.findIn X.K (.ref C) "__getitem__" = some (some (.ref (He.ma X.K C "__getitem__")))) (hi : PySem.W.isFn X.K (.ref (He.ma X.K C "__getitem__")) = true) (hn : PySem.W.fnIn X.K (He.ma X.K C "__getitem__") = true) (F : FnR X.prog X.w X.K X.mg X.base (L2.CX X.prog X.w) n (He.ma X.K C "__getitem__") (spD X.K S)) (hr : Room (n + 1) X.A)
    (h : EvX X W R a δ I fun x I1 => EvX X W R b δ I1 fun y I2 => InsD C "" x I2 ∧ S I2 [x, y] P R)
    (hsl : ∀ v i, subscripted b true v i = runValue (.builtin "lifetime.subscript" ⟨[v, i], []⟩) := by intro _ _; with_unfolding_all rfl) : EvX X W R (.Subscript a b pos) δ I P := fun σ G H Q hE s hI qx q => by
  refine ⟨fun pins st J => Subscript_ (binT peC peC J (R := fun x y H2 => ∃ c, x = .ref c ∧ IsI H2 c C "" ∧ spD X.K S [x, y] H2 Q (WE W σ)) (h σ G H _ hE s hI qx fun v x G1 H1 I1 s1 t1 h1 r1 k1 => k1 σ G1 H1 _ (hE.mono s1) t1 h1 (qx.mono s1) fun w y G2 H2 I2 s2 t2 h2 r2 ⟨hx, k2⟩ => ?_) fun v u s2 x y H2 J2 rx ry ⟨c, ec, hic, q2⟩ => ?_)⟩
  · obtain ⟨c, ec, hic⟩ := hx G2 H2 v t2 h2 (r1.mono s2)
    exact ⟨c, ec, hic, spD_at t2 h2 (.cons (r1.mono s2) (.cons r2 .nil)) k2 (q.mono (s1.trans s2)) (qx.mono (s1.trans s2))⟩
  · subst ec
    obtain rfl : v = Value.ref c := rx
    obtain ⟨ox, od, O, _⟩ := isi_inst J2 hic
    obtain ⟨mm, hF⟩ := J2.fr
    exact PySem.W.sub_K hF J2.ok.mod.kin O hf hn hi (wpAny_call (run_own tk F hr.in1 J2.env0.in1 J2 (us := [.ref c, u]) (ws := [.ref c, y]) (.cons rfl (.cons ry .nil)) q2)) (hsl _ _)
end
end DL
set_option Elab.async false
set_option linter.all false
set_option maxRecDepth 100000
set_option maxHeartbeats 4000000
namespace DL
open PySem PySem.Spec PyProof.Rows L2
section
variable {K : PySem.W.Frag} {I : Iv K} {y : D} {p : Addr} {ds : List D} {c : Rc K}
end
section
variable {X : Cx} {I : Iv X.K} {a b e : Expr} {δ : DEnv} {pos pos2 : Pos} {y : D} {p : Addr} {ds : List D}
end
end DL
set_option Elab.async false
set_option linter.all false
set_option maxRecDepth 100000
set_option maxHeartbeats 4000000
namespace DL
open PySem PySem.Spec PyProof.Rows L2
section
variable {X : Cx} {W : WX} {R : Rx X.K} {a b e iter tg : Expr} {lo hi : Option Expr} {δ : DEnv} {I : Iv X.K} {pos p2 : Pos} {ds : List D} {P : D → Iv X.K → Prop} {κ : Ko X.K} {st : Stmt} {body : List Stmt}
theorem s_joint (M : DEnv → Iv X.K → Prop) (h : S1 X W st δ I { κ with nx := M }) (k : ∀ δ' I', M δ' I' → κ.nx δ' I') : S1 X W st δ I κ := S1.imp h k (fun _ _ x => x) (fun _ _ x => x) (fun _ _ x => x) (fun _ _ _ _ x => x)
def EvO (X : Cx) (W : WX) (R : Rx X.K) (lo : Option Expr) (δ : DEnv) (I : Iv X.K) (P : Option Int → Iv X.K → Prop) : Prop := ∀ (σ : L2.St) (G H : Hp) (Q : Option Int → Hp → Prop), EnvR X.K G δ σ → Same G H → Hd I G H → Kx X.K W σ G R →
  (∀ l G' H' I', Same G G' → Same G' H' → Hd I' G' H' → P l I' → Q l H') → wpO X lo σ H Q
theorem eo_none {P : Option Int → Iv X.K → Prop} (p : P none I) : EvO X W R none δ I P := fun σ G H Q hE s hI qx q => ⟨fun pins st J => po_none.run pins st σ H Q J (q none G H I (Same.refl G) s hI p)⟩
theorem eo_some {P : Option Int → Iv X.K → Prop} (h : EvX X W R e δ I fun d I1 => ∃ i, d = .int i ∧ P (some i) I1) : EvO X W R (some e) δ I P := fun σ G H Q hE s hI qx q => ⟨fun pins st J => (po_some peC).run pins st σ H Q J
  (h σ G H _ hE s hI qx fun v d G1 H1 I1 s1 t1 g1 r1 ⟨i, ed, p⟩ => by
    subst ed
    exact ⟨i, r1, q (some i) G1 H1 I1 s1 t1 g1 p⟩)⟩
theorem ev_slL (h : EvX X W R a δ I fun d I1 => ∃ ds, d = .lst ds ∧ EvO X W R lo δ I1 fun l I2 => EvO X W R hi δ I2 fun h I3 => P (.lst (cutD ds l h)) I3) : EvX X W R (.Subscript a (.Slice lo hi none p2) pos) δ I P := fun σ G H Q hE s hI qx q =>
  PE.wp (pe_slice sl_list peC poC poC) (h σ G H _ hE s hI qx fun v d G1 H1 I1 s1 t1 g1 r1 ⟨ds, ed, k1⟩ => by
    subst ed
    refine k1 σ G1 H1 _ (hE.mono s1) t1 g1 (qx.mono s1) fun l G2 H2 I2 s2 t2 g2 k2 => ?_
    refine k2 σ G2 H2 _ (hE.mono (s1.trans s2)) t2 g2 (qx.mono (s1.trans s2)) fun h G3 H3 I3 s3 t3 g3 pp => ?_
    obtain ⟨b, vs, ev, e1, e2⟩ := (r1.mono s2).mono s3
    refine ⟨b, vs, ev, SqL.of (t3 _ _ e1), fun p hp => ?_⟩
    have hg : G3 p = none := t3.free hp
    exact q (.ref p) (.lst (cutD ds l h)) _ _ I3 (((s1.trans s2).trans s3).trans (Evl.Ex.new hg)) (same_upd2 t3) (g3.keep hp t3) ⟨p, _, rfl, upd_same, (e2.cut l h).mono (Evl.Ex.new hg)⟩ pp)
theorem s_whileP {c : Expr} (po : PassesOwn (model X.prog X.w) X.A X.env X.xe) (Nv : Nat → DEnv → Iv X.K → Prop) (m : Nat) (i0 : Nv m δ I)
    (step : ∀ m δ' I', Nv m δ' I' → ∃ b, PVT X I' c δ' b ∧ (b = true → SX X W body δ' I' { κ with nx := fun δ'' I'' => ∃ m', m' < m ∧ Nv m' δ'' I'', ct := fun δ'' I'' => ∃ m', m' < m ∧ Nv m' δ'' I'', bk := κ.nx }) ∧ (b = false → κ.nx δ' I')) : S1 X W (.While c body [] pos) δ I κ :=
  s_while po Nv m i0 fun m δ' I' h => by
    obtain ⟨b, pt, h1, h2⟩ := step m δ' I' h
    refine pt W _ _ ?_
    cases b with
    | true => exact h1 rfl
    | false => exact h2 rfl
theorem s_forE (po : PassesOwn (model X.prog X.w) X.A X.env X.xe) (h : EvI X W (κ.r δ) tg iter δ I fun ds I1 => ∃ (α : Type) (xs : List α) (g : α → D) (Nv : List α → DEnv → Iv X.K → Prop), ds = xs.map g ∧ Nv [] δ I1 ∧
      (∀ p x r δ' I', xs = p ++ x :: r → Nv p δ' I' → ∃ δ'' vs, BindD X tg (g x) δ' δ'' vs ∧ SX X W body δ'' I' { κ with nx := Nv (p ++ [x]), ct := Nv (p ++ [x]), bk := κ.nx }) ∧ ∀ δ' I', Nv xs δ' I' → κ.nx δ' I')
    (hc : X.calm = true := by rfl) (hs : ∀ x, foldedSetIterable iter X.env x = pure x := by intro _; rfl) : S1 X W (.For tg iter body [] pos) δ I κ :=
  s_for po (fun σ G H RR hE s hI qx q => h σ G H RR hE s hI qx fun J ds G' H' I' s1 t1 h1 wd ⟨α, xs, g, Nv, ed, h0, step, fin⟩ => q J ds G' H' I' s1 t1 h1 wd (by
    subst ed
    exact ⟨fun i => Nv (xs.take i), h0, fun i d δ' I' hd nv => by
      obtain ⟨x, hx, rfl⟩ := get_map hd
      have hl := (List.getElem?_eq_some_iff.mp hx).1
      have e : xs = xs.take i ++ x :: xs.drop (i + 1) := by
        rw [← (List.getElem?_eq_some_iff.mp hx).2, List.getElem_cons_drop hl, List.take_append_drop]
      have e2 : xs.take (i + 1) = xs.take i ++ [x] := take_snoc hx
      obtain ⟨δ'', vs, b, q⟩ := step _ x _ δ' I' e nv
      rw [← e2] at q
      exact ⟨δ'', vs, b, q⟩, fun δ' I' nv => fin δ' I' (by rw [List.length_map, List.take_length] at nv; exact nv)⟩)) hc hs
end
theorem put_new {α : Type} {kvs : List (Key × α)} {k : Key} {v : α} (h : ∀ kv ∈ kvs, kv.1 ≠ k) : putG kvs k v = kvs ++ [(k, v)] := by
  unfold putG
  rw [if_neg]
  intro hh
  obtain ⟨kv, h1, h2⟩ := List.any_eq_true.mp hh
  exact h kv h1 (of_decide_eq_true h2)
theorem put_newT {α : Type} {xs : List α} {k : α → Str} {v : α → D} {n : Str} {d : D} (h : n ∉ xs.map k) : putG (xs.map fun x => ((.inr (k x) : Key), v x)) (.inr n) d = xs.map (fun x => ((.inr (k x) : Key), v x)) ++ [(.inr n, d)] := put_new fun kv hkv => by
  obtain ⟨x, hx, rfl⟩ := List.mem_map.mp hkv
  intro e
  exact h (List.mem_map.mpr ⟨x, hx, Sum.inr.inj e⟩)
end DL
set_option Elab.async false
set_option linter.all false
set_option maxRecDepth 100000
set_option maxHeartbeats 4000000
namespace DL
open PySem PySem.Spec PyProof.Rows L2
def iIns (K : PySem.W.Frag) (x C dx : Addr) (fs : List (Str × D)) : Iv K where
  F := fun a => a = x ∨ a = dx
  φ := fun G H => H dx = some (.own x) ∧ dx ≠ x ∧ ∃ vs, H x = some (.ins C dx vs) ∧ FRep K G fs vs
  loc := fun G G' H H' s k ⟨h1, h0, vs, h2, h3⟩ => ⟨by rw [k dx (.inr rfl)]; exact h1, h0, vs, by rw [k x (.inl rfl)]; exact h2, h3.mono s⟩
  dom := fun G H ⟨h1, _, vs, h2, _⟩ a ha => by
    rcases ha with e | e
    · subst e; rw [h2]; simp
    · subst e; rw [h1]; simp
def putA (f : Str) (d : D) : List (Str × D) → List (Str × D)
  | [] => [(f, d)]
  | (g, x) :: r => if g = f then (g, d) :: r else (g, x) :: putA f d r
theorem FRep.put {K : PySem.W.Frag} {G : Hp} {f : Str} {d : D} {v : V} (r : Rep K G d v) : ∀ {fs : List (Str × D)} {vs : List (Str × V)}, FRep K G fs vs → FRep K G (putA f d fs) (putF f v vs)
  | [], l, h => by
    rw [show l = [] from h]
    exact ⟨v, [], rfl, r, rfl⟩
  | (g, x) :: ps, l, ⟨u, m, e, r1, r2⟩ => by
    rw [e]
    show FRep K G (if g = f then _ else _) (if g = f then _ else _)
    by_cases hg : g = f
    · rw [if_pos hg, if_pos hg]
      exact ⟨v, m, rfl, r, r2⟩
    · rw [if_neg hg, if_neg hg]
      exact ⟨u, _, rfl, r1, FRep.put r r2⟩
theorem FRep.none {K : PySem.W.Frag} {G : Hp} {f : Str} : ∀ {fs : List (Str × D)} {vs : List (Str × V)}, FRep K G fs vs → fs.lookup f = none → vs.lookup f = none
  | [], l, h, _ => by rw [show l = [] from h]; rfl
  | (g, x) :: ps, l, ⟨u, m, e, r1, r2⟩, hn => by
    rw [e]
    simp only [List.lookup] at hn ⊢
    split at hn
    · cases hn
    · exact FRep.none r2 hn
theorem FRep.len {K : PySem.W.Frag} {G : Hp} {fs : List (Str × D)} {vs : List (Str × V)} (h : FRep K G fs vs) : vs.length = fs.length := by
  have := congrArg List.length (FRep.of h).1
  simpa using this
section
variable {K : PySem.W.Frag} {G H : Hp} {x C dx : Addr} {fs : List (Str × D)} {c : Rc K} {I : Iv K} {f m : Str} {d : D}
theorem Hd.ins (h : Hd (c.fill (iIns K x C dx fs)) G H) : ∃ vs, H x = some (.ins C dx vs) ∧ FRep K G fs vs ∧ G x = none := by
  obtain ⟨h1, h0, vs, h2, h3⟩ := h.inner.ph
  exact ⟨vs, h2, h3, h.inner.fr x (.inl rfl)⟩
theorem Hd.insSet {v : V} (h : Hd (c.fill (iIns K x C dx fs)) G H) (r : Rep K G d v) {vs : List (Str × V)} (hx : H x = some (.ins C dx vs)) (rf : FRep K G fs vs) : Hd (c.fill (iIns K x C dx (putA f d fs))) G (upd H x (.ins C dx (putF f v vs))) :=
  Hd.change (I := iIns K x C dx fs) (I' := iIns K x C dx (putA f d fs)) (fun _ => Iff.rfl) (fun a ha => upd_ne fun e => ha (.inl e)) ⟨by
    obtain ⟨h1, h0, _⟩ := h.inner.ph
    exact ⟨(upd_ne h0).trans h1, h0, _, upd_same, rf.put r⟩, h.inner.fr⟩ h
theorem insD_ins (c : Rc K) (hm : fs.lookup m = none) (eI : I = c.fill (iIns K x C dx fs) := by rfl) : InsD C m (.adr x) I := fun G H v s h r => by
  subst eI
  obtain ⟨vs, h2, h3, _⟩ := h.ins
  exact ⟨x, r, .inr ⟨dx, vs, h2, h3.none hm⟩⟩
end
section
variable {X : Cx} {W : WX} {R : Rx X.K} {a b e o : Expr} {es : List Expr} {δ : DEnv} {I : Iv X.K} {P : D → Iv X.K → Prop} {pos p q' : Pos} {f : Str} {d z : D} {x C dx : Addr} {fs : List (Str × D)} {κ : Ko X.K}
theorem ev_fld (k : Rc X.K) (c : Cls X.K C) (n : NoAttr X.K C f) (hd : fs.lookup f = some d) (h : EvX X W R o δ I fun y I1 => y = .adr x ∧ I1 = k.fill (iIns X.K x C dx fs) ∧ P d I1) (hb : attributeBase o f X.env (eval o X.env) = eval o X.env := by rfl) : EvX X W R (.Attribute o f pos) δ I P := fun σ G H Q hE s hI qx q =>
  PE.wp (pe_fld peC hb) (h σ G H _ hE s hI qx fun v y G1 H1 I1 s1 t1 h1 r1 ⟨ey, ei, pp⟩ => by
    subst ey ei
    obtain ⟨vs, h2, h3, _⟩ := h1.ins
    obtain ⟨u, hu, ru⟩ := (FRep.of h3).2 f d hd
    exact ⟨x, C, dx, vs, u, r1, h2, c, n, hu, q u d G1 H1 _ s1 t1 h1 ru pp⟩)
theorem pv_fld (k : Rc X.K) (c : Cls X.K C) (n : NoAttr X.K C f) (ho : PV X I o δ (.adr x)) (hd : fs.lookup f = some d) (hb : attributeBase o f X.env (eval o X.env) = eval o X.env := by rfl) (eI : I = k.fill (iIns X.K x C dx fs) := by rfl) : PV X I (.Attribute o f pos) δ d := fun W R P pp =>
  ev_fld k c n hd (ho W R _ ⟨rfl, eI, pp⟩) hb
theorem s_fld (c : Cls X.K C) (n : NoAttr X.K C f) (h : EvX X W (κ.r δ) e δ I fun d I1 => ∃ (k : Rc X.K) (x dx : Addr) (fs : List (Str × D)), I1 = k.fill (iIns X.K x C dx fs) ∧ PV X I1 o δ (.adr x) ∧ fs.length < 1000 ∧ κ.nx δ (k.fill (iIns X.K x C dx (putA f d fs))))
    (hs : swapsWith e (some (.Attribute o f q')) pos.line X.env = pure false := by rfl) : S1 X W (.Assign [.Attribute o f q'] e pos) δ I κ := fun σ G H E hE s hI kk =>
  PS.wp (ps_fld peC peC hs) (h σ G H _ hE s hI (kk.kx hE) fun v d1 G1 H1 I1 s1 t1 h1 r1 ⟨k, x, dx, fs, ei, ho, hl, nx⟩ => by
    subst ei
    refine ho W (κ.r δ) (fun z J => z = .adr x ∧ J = k.fill (iIns X.K x C dx fs)) ⟨rfl, rfl⟩ σ G1 H1 _ (hE.mono s1) t1 h1 ((kk.kx hE).mono s1) fun v2 d2 G2 H2 I2 s2 t2 h2 r2 ⟨ed2, ei2⟩ => ?_
    subst ed2 ei2
    obtain ⟨vs, h3, h4, h5⟩ := h2.ins
    refine ⟨x, C, dx, vs, r2, h3, c, n, by rw [h4.len]; exact hl, ?_⟩
    exact kk.nx δ σ G2 _ _ (s1.trans s2) (same_upd t2 h5) (h2.insSet (r1.mono s2) h3 h4) (hE.mono (s1.trans s2)) nx)
theorem s_fldP (k : Rc X.K) (c : Cls X.K C) (n : NoAttr X.K C f) (ho : PV X I o δ (.adr x)) (h : PV X I e δ d) (nx : κ.nx δ (k.fill (iIns X.K x C dx (putA f d fs))))
    (hs : swapsWith e (some (.Attribute o f q')) pos.line X.env = pure false := by rfl) (eI : I = k.fill (iIns X.K x C dx fs) := by rfl) (hl : decide (fs.length < 1000) = true := by rfl) : S1 X W (.Assign [.Attribute o f q'] e pos) δ I κ := by
  subst eI
  exact s_fld c n (h W _ _ ⟨k, x, dx, fs, rfl, ho, of_decide_eq_true hl, nx⟩) hs
theorem ev_makeI {x' : Str} {g : Addr} {fd : FuncData} {ps : List Str} {j : Nat} {S : Spec X.K} (tk : Takes X W) (M : Mk X.K C g) (F : FnOk X.prog X.w X.K X.mg X.base (L2.CX X.prog X.w) j g fd ps (spD X.K S)) (hr : Room (j + 1) X.A) (hm : X.mg x' = some (.ref C)) (hb : L2.Binds X.K fd ps [])
    (h : EvA X W R (e :: es) δ I fun ds I1 => ∀ y dy, (∀ a, ¬ (I1.F a ∧ (a = y ∨ a = dy))) → S (I1.and (iIns X.K y C dy [])) (.adr y :: ds) (fun v I3 => v = .non ∧ P (.adr y) I3) (fun C' fs I3 => R C' fs I3))
    (hg : Gl X x' := by rfl) (hdb : (x' == ("__debug__" : Str)) = false := by decide)
    (he : starEach (e :: es) X.env = (false, eval e X.env) :: starEach es X.env := by rfl) (hpl : (backTo pos (starEach es X.env)).any (·.1) = false := by rfl) : EvX X W R (.Call (.Name x' p) (e :: es) [] pos) δ I P := fun σ G H Q hE s hI qx q => ⟨fun pins s0 J0 => by
  refine wpAny_Call_Name_kw (ld_glob J0 hg hm ?_ hdb)
  refine PySem.W.callWith_K (h₀ := X.base) J0.ok.mod.kin M.kp (thn (paC.run pos pins s0 σ H _ J0 (h σ G H (fun vs H1 => ∀ x dx, H1 x = none → H1 dx = none → dx ≠ x → spD X.K S (.ref x :: vs) (upd (upd H1 dx (.own x)) x (.ins C dx [])) (fun v H2 => v = .non ∧ Q (.ref x) H2) (WE W σ)) hE s hI qx ?_)) fun us s1 ⟨vs, H1, J1, r, q1⟩ => ⟨J1.kIn, ?_⟩) he hpl
  · intro vs ds G1 H1 I1 s1 t1 h1 r1 hS y dy ny nd dn
    have gd : G1 dy = none := t1.free nd
    have gy : G1 y = none := t1.free ny
    have ny2 : upd H1 dy (.own y) y = none := by rw [upd_ne (Ne.symm dn)]; exact ny
    have na : ∀ a, ¬ (I1.F a ∧ (a = y ∨ a = dy)) := fun a ha => ha.2.elim (fun e => h1.dom ha.1 (by rw [e]; exact ny)) (fun e => h1.dom ha.1 (by rw [e]; exact nd))
    have hd3 : Hd (I1.and (iIns X.K y C dy [])) G1 (upd (upd H1 dy (.own y)) y (.ins C dy [])) := by
      refine Hd.mk2 ((h1.newp nd).newp ny2) ⟨⟨by rw [upd_ne dn, upd_same], dn, [], upd_same, rfl⟩, fun a ha => ?_⟩ na
      rcases ha with e | e
      · subst e; exact gy
      · subst e; exact gd
    refine spD_at (ds := .adr y :: ds) (same_upd (same_upd t1 gd) gy) hd3 (.cons rfl r1) (hS y dy na) ?_ ?_
    · intro v d G' H' I' s3 t3 h3 r3 ⟨ed, pp⟩
      subst ed
      exact ⟨r3, q (.ref y) (.adr y) G' H' I' (s1.trans s3) t3 h3 rfl pp⟩
    · exact fun C' dd fs l G' H' I' s3 t3 h3 r3 hx pp => qx C' dd fs l G' H' I' (s1.trans s3) t3 h3 r3 hx pp
  · have hq := q1 (s1.heap.objs.size + 1) s1.heap.objs.size (J1.hok.fresh (Nat.le_succ _)) (J1.hok.fresh (Nat.le_refl _)) (Nat.ne_of_lt (Nat.lt_succ_self _))
    have J2 := Inv.made (C := C) J1
    have r2 : Vals (V.ref (s1.heap.objs.size + 1) :: vs) (Value.ref (s1.heap.objs.size + 1) :: us) := .cons rfl r
    have hl : ((Value.ref (s1.heap.objs.size + 1) :: us) ++ []).length = ps.length := by
      rw [List.append_nil, ← r2.length]
      exact F.len _ _ _ _ hq
    refine wpAny_call (make_map (f := g) J1.kIn M.makes M.init (beq_iff_eq.mp M.fn) (codeAny_mono (F.run _ X.stack _ _ ⟨Value.ref (s1.heap.objs.size + 1) :: us, []⟩ ((Value.ref (s1.heap.objs.size + 1) :: us) ++ []) _ _ (WE W σ) (hr.make C us [])
      (J2.env0.make C us []) (hb _ (Value.ref (s1.heap.objs.size + 1) :: us) J2.kIn hl) (by rw [List.append_nil]; exact r2) hq) fun r s' hq' => ?_))
    cases r with
    | error e => exact passAt tk σ pins _ _ e s' J2 hq'
    | ok fl =>
      cases fl with
      | ret u =>
        obtain ⟨v, H', J4, rv', ev, q3⟩ := J2.after hq'
        subst ev
        exact ⟨rv', ⟨V.ref (s1.heap.objs.size + 1), H', J4, rfl, q3⟩⟩
      | next => exact False.elim hq'
      | brk => exact False.elim hq'
      | cont => exact False.elim hq'⟩
end
end DL
set_option Elab.async false
set_option linter.all false
set_option maxRecDepth 100000
set_option maxHeartbeats 4000000
namespace L2
open PySem PySem.Spec PyProof.Rows
section
variable {prog : Program} {w : World} {A : Around} {E : Value → Shared → Prop} {s : Shared} {l : Addr} {its : List Value} {ns : List Int} {Q : Value → Shared → Prop}
end
section
variable {X : Cx}
end
end L2
namespace DL
open PySem PySem.Spec PyProof.Rows L2
section
variable {X : Cx} {W : WX} {R : Rx X.K} {a b o e : Expr} {es : List Expr} {δ : DEnv} {I : Iv X.K} {P : D → Iv X.K → Prop} {pos p apos ep : Pos} {d x y z : D} {ds : List D} {κ : Ko X.K} {ns : List Int} {ss : List Str} {k : Str} {q : Addr} {n : Nat}
end
end DL
set_option Elab.async false
set_option linter.all false
set_option maxRecDepth 100000
set_option maxHeartbeats 4000000
namespace L2
open PySem PySem.Spec PyProof.Rows
section
variable {X : Cx} {a b o e : Expr} {es : List Expr} {ta tb to : TE} {t : TA} {pos cpos apos : Pos} {name : Str} {id : String} {r : V → List V → Hp → VK → Prop}
end
end L2
namespace DL
open PySem PySem.Spec PyProof.Rows L2
section
variable {X : Cx} {W : WX} {R : Rx X.K} {a b o e : Expr} {es : List Expr} {δ : DEnv} {I : Iv X.K} {P : D → Iv X.K → Prop} {pos p apos ep : Pos} {d x y z : D} {ds : List D} {κ : Ko X.K} {ns : List Int} {ss : List Str} {k : Str} {q : Addr} {n : Nat}
theorem va_star (he : PV X I e δ (.tup ds)) {fs : List D} (h : PVA X I es δ fs) (hs : starEach (.Starred e p :: es) X.env = (true, eval e X.env) :: starEach es X.env := by rfl) : PVA X I (.Starred e p :: es) δ (ds ++ fs) := fun W R P pp σ G H Q hE s hI qx qq => PA.wp (StX.pa_star peC paC hs)
  (he W R (fun z J => z = .tup ds ∧ J = I) ⟨rfl, rfl⟩ σ G H _ hE s hI qx fun v d1 G1 H1 I1 s1 t1 h1 r1 ⟨ed, ei⟩ => by
    subst ed
    subst ei
    obtain ⟨c, vs, ev, e2, e3⟩ := r1
    refine ⟨c, vs, ev, .inl (sqT_mono t1 e2), ?_⟩
    refine h W R (fun zs J => zs = fs ∧ J = I1) ⟨rfl, rfl⟩ σ G1 H1 _ (hE.mono s1) t1 h1 (qx.mono s1) fun ws d2 G2 H2 I2 s2 t2 h2 r2 ⟨ed2, ei2⟩ => ?_
    subst ed2 ei2
    exact qq _ _ G2 H2 _ (s1.trans s2) t2 h2 ((e3.mono s2).append r2) pp)
end
end DL
set_option Elab.async false
set_option linter.all false
set_option maxRecDepth 100000
set_option maxHeartbeats 4000000
namespace DL
open PySem PySem.Spec PyProof.Rows L2
section
variable {X : Cx} {W : WX} {R : Rx X.K} {elt tg iter tg1 iter1 e a : Expr} {scope : Scope} {δ : DEnv} {I : Iv X.K} {P : D → Iv X.K → Prop} {pos p : Pos} {κ : Ko X.K} {d z : D} {ds : List D}
end
end DL
set_option Elab.async false
set_option linter.all false
set_option maxRecDepth 100000
set_option maxHeartbeats 4000000
namespace DL
open PySem PySem.Spec PyProof.Rows L2
section
variable {X : Cx} {W : WX} {R : Rx X.K} {a b o e : Expr} {es : List Expr} {δ : DEnv} {I : Iv X.K} {P : D → Iv X.K → Prop} {pos p : Pos} {κ : Ko X.K} {d z : D} {ds : List D} {x' : Str} {n m : Int}
end
section
variable {X : Cx} {W : WX} {R : Rx X.K} {a b o e i : Expr} {δ : DEnv} {I : Iv X.K} {pos p : Pos} {y z : D} {kds : List (Key × D)} {k : Key}
theorem pt_din (hu : X.A.units + 1 < cLine) (dI : DicI X I z kds) (hi : PV X I i δ y) (ho : PV X I o δ z) (hk : keyD y = some k) (hm : behindInMarks .In o = false := by rfl) : PVT X I (.Compare i [.In] [o] pos) δ ((getG kds k).isSome) := fun W R P pp σ G H Q hE s hI qx q =>
  PT.wp (L2.pt_cmp (pc_din hu peC peC) hm) (hi W R (fun z1 I1 => z1 = y ∧ I1 = I) ⟨rfl, rfl⟩ σ G H _ hE s hI qx fun v d1 G1 H1 I1 s1 t1 h1 r1 ⟨ed, ei⟩ => by
    subst ed ei
    refine ho W R (fun z1 J => z1 = z ∧ J = I1) ⟨rfl, rfl⟩ σ G1 H1 _ (hE.mono s1) t1 h1 (qx.mono s1) fun v2 d2 G2 H2 I2 s2 t2 h2 r2 ⟨ed2, ei2⟩ => ?_
    subst ed2 ei2
    obtain ⟨a, kvs, e1, rd, kr⟩ := dic_rd dI t2 h2 r2
    refine ⟨a, valV kvs k, e1, .inl ⟨kvs, k, rd, rep_key hk (r1.mono s2), rfl⟩, ?_⟩
    have e5 : (valV kvs k).isSome = (getG kds k).isSome := by
      cases h : getG kds k with
      | none => rw [(kr.get (k := k)).2 h]; rfl
      | some d0 =>
        obtain ⟨u, e3, _⟩ := (kr.get (k := k)).1 d0 h
        rw [e3]; rfl
    rw [e5]
    exact ⟨_, rfl, q _ G2 H2 _ (s1.trans s2) t2 h2 pp⟩)
theorem pt_dnin (hu : X.A.units + 1 < cLine) (dI : DicI X I z kds) (hi : PV X I i δ y) (ho : PV X I o δ z) (hk : keyD y = some k) (hm : behindInMarks .NotIn o = false := by rfl) : PVT X I (.Compare i [.NotIn] [o] pos) δ (!(getG kds k).isSome) := fun W R P pp σ G H Q hE s hI qx q =>
  PT.wp (L2.pt_cmp (pc_dnotin hu peC peC) hm) (hi W R (fun z1 I1 => z1 = y ∧ I1 = I) ⟨rfl, rfl⟩ σ G H _ hE s hI qx fun v d1 G1 H1 I1 s1 t1 h1 r1 ⟨ed, ei⟩ => by
    subst ed ei
    refine ho W R (fun z1 J => z1 = z ∧ J = I1) ⟨rfl, rfl⟩ σ G1 H1 _ (hE.mono s1) t1 h1 (qx.mono s1) fun v2 d2 G2 H2 I2 s2 t2 h2 r2 ⟨ed2, ei2⟩ => ?_
    subst ed2 ei2
    obtain ⟨a, kvs, e1, rd, kr⟩ := dic_rd dI t2 h2 r2
    refine ⟨a, valV kvs k, e1, .inl ⟨kvs, k, rd, rep_key hk (r1.mono s2), rfl⟩, ?_⟩
    have e5 : (valV kvs k).isSome = (getG kds k).isSome := by
      cases h : getG kds k with
      | none => rw [(kr.get (k := k)).2 h]; rfl
      | some d0 =>
        obtain ⟨u, e3, _⟩ := (kr.get (k := k)).1 d0 h
        rw [e3]; rfl
    rw [e5]
    exact ⟨_, rfl, q _ G2 H2 _ (s1.trans s2) t2 h2 pp⟩)
theorem et_inOwn {n : Nat} {C : Addr} {S : Spec X.K} {PB : Bool → Iv X.K → Prop} (tk : Takes X W) (hf : PySem.W.findIn X.K (.ref C) "__contains__" = some (some (.ref (He.ma X.K C "__contains__")))) (hi : PySem.W.isFn X.K (.ref (He.ma X.K C "__contains__")) = true) (F : FnR X.prog X.w X.K X.mg X.base (L2.CX X.prog X.w) n (He.ma X.K C "__contains__") (spD X.K S)) (hr : Room n X.A)
    (h : EvX X W R a δ I fun x I1 => EvX X W R b δ I1 fun y I2 => InsD C "" y I2 ∧ S I2 [y, x] (fun d I3 => ∃ k, d = .bl k ∧ PB (k) I3) R) (hm : behindInMarks .In b = false := by rfl) : EvT X W R (.Compare a [.In] [b] pos) δ I PB := fun σ G H Q hE s hI qx q => by
  refine ⟨fun pins st J => wpAny_isTrue_Compare1 (binT peC peC J (R := fun x y H2 => ∃ c, y = .ref c ∧ IsI H2 c C "" ∧ spD X.K S [y, x] H2 (fun v H3 => ∃ k, v = .bl k ∧ Q (k) H3) (WE W σ)) (h σ G H _ hE s hI qx fun v x G1 H1 I1 s1 t1 h1 r1 k1 => k1 σ G1 H1 _ (hE.mono s1) t1 h1 (qx.mono s1) fun w y G2 H2 I2 s2 t2 h2 r2 ⟨hx, k2⟩ => ?_) fun v u s2 x y H2 J2 rx ry ⟨c, ec, hic, q2⟩ => ?_) hm⟩
  · obtain ⟨c, ec, hic⟩ := hx G2 H2 w t2 h2 r2
    refine ⟨c, ec, hic, spD_at t2 h2 (.cons r2 (.cons (r1.mono s2) .nil)) k2 (fun z d G3 H3 I3 s3 t3 h3 r3 ⟨k, ed, pp⟩ => ?_) (qx.mono (s1.trans s2))⟩
    subst ed
    exact ⟨k, r3, q _ G3 H3 I3 ((s1.trans s2).trans s3) t3 h3 pp⟩
  · subst ec
    obtain rfl : u = Value.ref c := ry
    obtain ⟨ox, od, O, _⟩ := isi_inst J2 hic
    obtain ⟨mm, hF⟩ := J2.fr
    refine PySem.W.in_K hF J2.ok.mod.kin O hf hi (wpAny_mono (wpAny_call (run_own tk F hr J2.env0 J2 (us := [.ref c, v]) (ws := [.ref c, x]) (.cons rfl (.cons rx .nil)) q2)) (fun r s3 z => ?_) fun _ _ x => x)
    obtain ⟨z', H3, J3, rz, k, ek, qz⟩ := z
    subst ek
    cases (show r = Value.bool k from rz)
    exact wpAny_truthy_bool (wpAny_truthy_bool ⟨H3, J3, qz⟩)
theorem et_ninOwn {n : Nat} {C : Addr} {S : Spec X.K} {PB : Bool → Iv X.K → Prop} (tk : Takes X W) (hf : PySem.W.findIn X.K (.ref C) "__contains__" = some (some (.ref (He.ma X.K C "__contains__")))) (hi : PySem.W.isFn X.K (.ref (He.ma X.K C "__contains__")) = true) (F : FnR X.prog X.w X.K X.mg X.base (L2.CX X.prog X.w) n (He.ma X.K C "__contains__") (spD X.K S)) (hr : Room n X.A)
    (h : EvX X W R a δ I fun x I1 => EvX X W R b δ I1 fun y I2 => InsD C "" y I2 ∧ S I2 [y, x] (fun d I3 => ∃ k, d = .bl k ∧ PB (!k) I3) R) (hm : behindInMarks .NotIn b = false := by rfl) : EvT X W R (.Compare a [.NotIn] [b] pos) δ I PB := fun σ G H Q hE s hI qx q => by
  refine ⟨fun pins st J => wpAny_isTrue_Compare1 (binT peC peC J (R := fun x y H2 => ∃ c, y = .ref c ∧ IsI H2 c C "" ∧ spD X.K S [y, x] H2 (fun v H3 => ∃ k, v = .bl k ∧ Q (!k) H3) (WE W σ)) (h σ G H _ hE s hI qx fun v x G1 H1 I1 s1 t1 h1 r1 k1 => k1 σ G1 H1 _ (hE.mono s1) t1 h1 (qx.mono s1) fun w y G2 H2 I2 s2 t2 h2 r2 ⟨hx, k2⟩ => ?_) fun v u s2 x y H2 J2 rx ry ⟨c, ec, hic, q2⟩ => ?_) hm⟩
  · obtain ⟨c, ec, hic⟩ := hx G2 H2 w t2 h2 r2
    refine ⟨c, ec, hic, spD_at t2 h2 (.cons r2 (.cons (r1.mono s2) .nil)) k2 (fun z d G3 H3 I3 s3 t3 h3 r3 ⟨k, ed, pp⟩ => ?_) (qx.mono (s1.trans s2))⟩
    subst ed
    exact ⟨k, r3, q _ G3 H3 I3 ((s1.trans s2).trans s3) t3 h3 pp⟩
  · subst ec
    obtain rfl : u = Value.ref c := ry
    obtain ⟨ox, od, O, _⟩ := isi_inst J2 hic
    obtain ⟨mm, hF⟩ := J2.fr
    refine PySem.W.notIn_K hF J2.ok.mod.kin O hf hi (wpAny_mono (wpAny_call (run_own tk F hr J2.env0 J2 (us := [.ref c, v]) (ws := [.ref c, x]) (.cons rfl (.cons rx .nil)) q2)) (fun r s3 z => ?_) fun _ _ x => x)
    obtain ⟨z', H3, J3, rz, k, ek, qz⟩ := z
    subst ek
    cases (show r = Value.bool k from rz)
    exact wpAny_truthy_bool (wpAny_truthy_bool ⟨H3, J3, qz⟩)
end
end DL
set_option Elab.async false
set_option linter.all false
set_option maxRecDepth 100000
set_option maxHeartbeats 4000000
namespace DL
open PySem PySem.Spec PyProof.Rows L2
section
variable {X : Cx} {W : WX} {R : Rx X.K} {e : Expr} {sts : List Stmt} {st : Stmt} {δ : DEnv} {I J : Iv X.K} {κ : Ko X.K} {P : D → Iv X.K → Prop}
theorem SX.drop (h : SX X W sts δ I κ) : SX X W sts δ (I.and J) κ := fun σ G H E hE s hI k => h σ G H E hE s hI.left k
theorem S1.drop (h : S1 X W st δ I κ) : S1 X W st δ (I.and J) κ := fun σ G H E hE s hI k => h σ G H E hE s hI.left k
theorem EvX.drop (h : EvX X W R e δ I fun d I1 => ∃ I2 J2, I1 = I2.and J2 ∧ P d I2) : EvX X W R e δ I P := fun σ G H Q hE s hI qx q => h σ G H Q hE s hI qx fun v d G1 H1 I1 s1 t1 h1 r1 ⟨I2, J2, ei, pp⟩ => by
  subst ei
  exact q v d G1 H1 I2 s1 t1 h1.left r1 pp
end
end DL
set_option Elab.async false
set_option linter.all false
set_option maxRecDepth 100000
set_option maxHeartbeats 4000000
namespace L2
open PySem PySem.Spec PyProof.Rows
abbrev MX := List (NestedKey × Addr × Value)
def memoΦ (P : Program) (w : World) (q : Addr) (xs : MX) (h : Heap) : Prop := (q == sysModules) = false ∧ xs.length ≤ 1000000 ∧ ∃ o es ep, h.get? q = some o ∧ o.ExactDict ∧ o.data = .dict es ep ∧ es.toList = xs.map (entryOfKey (nestedKind P w)) ∧ (xs.map (·.1)).Nodup
def memoO (P : Program) (w : World) (q : Addr) (xs : MX) : HO := .ext (memoΦ P w q xs)
section
variable {X : Cx} {pins : List (Addr × Obj)} {σ : St} {H H' : Hp} {s : Shared} {P : Program} {w : World} {q : Addr} {xs : MX} {h : Heap}
end
end L2
namespace DL
open PySem PySem.Spec PyProof.Rows L2
mutual
def keyN : NestedKey → D
  | .none => .non
  | .num i => .int i
  | .text x => .str x
  | .tup ks => .tup (keyNs ks)
def keyNs : List NestedKey → List D
  | [] => []
  | k :: ks => keyN k :: keyNs ks
end
mutual
theorem nested_of {X : Cx} {pins : List (Addr × Obj)} {σ : L2.St} {G H : Hp} {s : Shared} (I : Inv X pins σ H s) (sm : Same G H) : ∀ (k : NestedKey) (v : V) (u : Value), Rep X.K G (keyN k) v → RelV v u → NestedIs s.heap k u
  | .none, v, u, r, h => by
    rw [show v = .non from r] at h
    rw [show u = .none from h]; exact .none
  | .num i, v, u, r, h => by
    rw [show v = .int i from r] at h
    obtain ⟨t, rfl⟩ := (show ∃ t, u = Value.int i t from h)
    exact .int i t
  | .text x, v, u, r, h => by
    rw [show v = .str x from r] at h
    obtain ⟨t, rfl⟩ := (show ∃ t, u = Value.str x t from h)
    exact .text x t
  | .tup ks, v, u, ⟨a, vs, e1, e2, e3⟩, h => by
    rw [e1] at h
    obtain rfl : u = Value.ref a := h
    obtain ⟨its, r, ⟨o, ho, hc, n, hd⟩, _⟩ := I.tuple (sqT_mono sm e2)
    exact .tup ho hc hd (nesteds_of I sm ks vs its e3 r)
theorem nesteds_of {X : Cx} {pins : List (Addr × Obj)} {σ : L2.St} {G H : Hp} {s : Shared} (I : Inv X pins σ H s) (sm : Same G H) : ∀ (ks : List NestedKey) (vs : List V) (us : List Value), Reps X.K G (keyNs ks) vs → Vals vs us → NestedAll s.heap ks us
  | [], vs, us, r, h => by
    rw [show vs = [] from r] at h
    cases h; exact .nil
  | k :: ks, vs, us, ⟨v, vr, e, r1, r2⟩, h => by
    rw [e] at h
    cases h with
    | cons a b => exact .cons (nested_of I sm k _ _ r1 a) (nesteds_of I sm ks _ _ r2 b)
end
def MR (K : PySem.W.Frag) (G : Hp) : List (NestedKey × D) → MX → Prop
  | [], xs => xs = []
  | p :: r, xs => ∃ (a : Addr) (v : V) (u : Value) (rest : MX), xs = (p.1, a, u) :: rest ∧ Rep K G (keyN p.1) (.ref a) ∧ p.1.depth ≤ 8 ∧ RelV v u ∧ Rep K G p.2 v ∧ MR K G r rest
theorem MR.mono {K : PySem.W.Frag} {G G' : Hp} (s : Same G G') : ∀ {kds : List (NestedKey × D)} {xs : MX}, MR K G kds xs → MR K G' kds xs
  | [], _, h => h
  | _ :: _, _, ⟨a, v, u, rest, e, h1, h2, h3, h4, h5⟩ => ⟨a, v, u, rest, e, h1.mono s, h2, h3, h4.mono s, MR.mono s h5⟩
theorem MR.len {K : PySem.W.Frag} {G : Hp} : ∀ {kds : List (NestedKey × D)} {xs : MX}, MR K G kds xs → xs.length = kds.length
  | [], _, h => by rw [show _ = [] from h]; rfl
  | _ :: _, _, ⟨a, v, u, rest, e, _, _, _, _, h⟩ => by rw [e, List.length_cons, List.length_cons, MR.len h]
theorem MR.is {X : Cx} {pins : List (Addr × Obj)} {σ : L2.St} {G H : Hp} {s : Shared} (I : Inv X pins σ H s) (sm : Same G H) : ∀ {kds : List (NestedKey × D)} {xs : MX}, MR X.K G kds xs → ∀ x ∈ xs, (nestedKind X.prog X.w).is s.heap x.1 x.2.1
  | [], _, h, x, hx => by rw [show _ = [] from h] at hx; cases hx
  | _ :: _, _, ⟨a, v, u, rest, e, h1, h2, h3, h4, h5⟩, x, hx => by
    rw [e] at hx
    rcases List.mem_cons.mp hx with rfl | hx
    · exact ⟨nested_of I sm _ _ _ h1 rfl, h2⟩
    · exact MR.is I sm h5 x hx
def getN (kds : List (NestedKey × D)) (k : NestedKey) : Option D := (kds.find? fun p => decide (p.1 = k)).map (·.2)
theorem MR.get {K : PySem.W.Frag} {G : Hp} {k : NestedKey} : ∀ {kds : List (NestedKey × D)} {xs : MX}, MR K G kds xs → (∀ d, getN kds k = some d → ∃ a u v, atKey xs k = some (a, u) ∧ RelV v u ∧ Rep K G d v) ∧ (getN kds k = none → atKey xs k = none)
  | [], _, h => by rw [show _ = [] from h]; exact ⟨(fun d e => nomatch e), fun _ => rfl⟩
  | p :: r, _, ⟨a, v, u, rest, e, h1, h2, h3, h4, h5⟩ => by
    rw [e]
    unfold getN atKey
    rw [List.find?_cons, List.find?_cons]
    by_cases hk : p.1 = k
    · rw [decide_eq_true hk]
      exact ⟨fun d ed => by cases ed; exact ⟨a, u, v, rfl, h3, h4⟩, (fun en => nomatch en)⟩
    · rw [decide_eq_false hk]
      exact MR.get h5
theorem MR.app {K : PySem.W.Frag} {G : Hp} {k : NestedKey} {d : D} {a : Addr} {u : Value} {v : V} (h1 : Rep K G (keyN k) (.ref a)) (h2 : k.depth ≤ 8) (h3 : RelV v u) (h4 : Rep K G d v) : ∀ {kds : List (NestedKey × D)} {xs : MX}, MR K G kds xs → MR K G (kds ++ [(k, d)]) (xs ++ [(k, a, u)])
  | [], _, h => by rw [show _ = [] from h]; exact ⟨a, v, u, [], rfl, h1, h2, h3, h4, rfl⟩
  | _ :: _, _, ⟨a', v', u', rest, e, g1, g2, g3, g4, g5⟩ => by
    rw [e]
    exact ⟨a', v', u', _, rfl, g1, g2, g3, g4, MR.app h1 h2 h3 h4 g5⟩
def iMemo (P : Program) (w : World) (K : PySem.W.Frag) (q : Addr) (kds : List (NestedKey × D)) : Iv K := iObj K q (fun G o => ∃ xs, o = memoO P w q xs ∧ MR K G kds xs) fun _ _ _ s ⟨xs, h1, h2⟩ => ⟨xs, h1, h2.mono s⟩
section
variable {P : Program} {w : World} {K : PySem.W.Frag} {G H : Hp} {q : Addr} {kds : List (NestedKey × D)} {c : Rc K} {I : Iv K}
theorem Hd.memo (h : Hd (c.fill (iMemo P w K q kds)) G H) : ∃ xs, H q = some (memoO P w q xs) ∧ MR K G kds xs ∧ G q = none := by
  have z := h.inner
  obtain ⟨o, ho, xs, ev, r⟩ := z.ph
  subst ev
  exact ⟨xs, ho, r, z.fr q rfl⟩
end
section
variable {X : Cx} {W : WX} {R : Rx X.K} {o i e : Expr} {sts : List Stmt} {δ : DEnv} {I : Iv X.K} {pos ps : Pos} {q : Addr} {kds : List (NestedKey × D)} {ks : List NestedKey} {d : D} {κ : Ko X.K}
end
end DL
set_option Elab.async false
set_option linter.all false
set_option maxRecDepth 100000
set_option maxHeartbeats 4000000
namespace L2
open PySem PySem.Spec PyProof.Rows
end L2
namespace DL
open PySem PySem.Spec PyProof.Rows L2
section
variable {X : Cx} {W : WX} {e : Expr} {sts : List Stmt} {δ : DEnv} {I : Iv X.K} {pos : Pos} {q : Addr} {κ : Ko X.K} {x' : Str} {n : Int}
end
end DL
set_option Elab.async false
set_option linter.all false
set_option maxRecDepth 100000
set_option maxHeartbeats 4000000
namespace DL
open PySem PySem.Spec PyProof.Rows L2
structure DefK (P : Program) (w : World) (K : PySem.W.Frag) (mg : Str → Option Value) (base : Heap) (x : Str) (k : Nat) (ps : List Str) (n : Nat) (ks : List Str) (dds : List D) (S : Spec K) : Prop where
  ex : ∃ (f : Addr) (fd : FuncData) (g : List Value → List Value → List Value) (gV : List V → List V → List V) (dv : List V), mg x = some (.ref f) ∧ PySem.W.keepIn K (.ref f) = true ∧ FnOk P w K mg base (L2.CX P w) k f fd ps (spD K S) ∧ KBn K fd ps n ks g gV ∧ (∀ vs zs, zs.length = ks.length → gV vs zs = vs ++ zs ++ dv) ∧ ∀ G, Reps K G dds dv
section
variable {P : Program} {w : World} {K : PySem.W.Frag} {mg : Str → Option Value} {base : Heap} {x qual : Str} {params : Arguments} {body : List Stmt} {scope : Scope} {f : Addr} {fd : FuncData} {ps ks : List Str} {k n : Nat} {S : Spec K} {kws : List (Str × V)}
theorem DefK.of (g : mg x = some (.ref f)) (F : FunD K x qual params body scope [] kws f fd) (ok : FnOk P w K mg base (L2.CX P w) k f fd ps (spD K S)) (hk : kws ≠ [])
    (h : ∀ (D : Addr) (doc pm : Value) (an : Option Addr) (cdv ct : Value) (us ws : List Value), us.length = n → ws.length = ks.length → KwChain D [] (bindArgs (PySem.W.fnOf x qual params body scope .none (.ref D) doc pm an cdv ct) ⟨us, ks.zip ws⟩) (ps.zip (us ++ ws))) : DefK P w K mg base x k ps n ks [] S := by
  obtain ⟨_, b⟩ := FunD.kbinds0 (ps := ps) F n ks [] (fun us _ ws => us ++ ws) hk (fun q hq => by cases hq) (fun r1 _ r3 => r1.append r3) fun D doc pm an cdv ct us mv ws h1 h2 h3 => by
    have e : mv = [] := List.length_eq_zero_iff.mp h2
    subst e
    exact h D doc pm an cdv ct us ws h1 h3
  exact ⟨f, fd, _, _, [], g, F.kp, ok, b, fun vs zs _ => (List.append_nil _).symm, fun _ => rfl⟩
end
section
variable {X : Cx} {W : WX} {R : Rx X.K} {e : Expr} {es : List Expr} {δ : DEnv} {I : Iv X.K} {P : D → Iv X.K → Prop} {pos p : Pos} {x : Str} {ps ks : List Str} {k n : Nat} {S : Spec X.K} {d : D} {kws : List Keyword}
end
def emptB (K : PySem.W.Frag) (a : Addr) : Bool := match K.lookup a with
  | some ⟨.type t, _, .seq its _, _⟩ => (t == "tuple") && its.isEmpty
  | _ => false
end DL
set_option Elab.async false
set_option linter.all false
set_option maxRecDepth 100000
set_option maxHeartbeats 4000000
namespace DL
open PySem PySem.Spec PyProof.Rows L2
abbrev tyNs : List String := ["NoneType", "bool", "int", "str", "tuple", "list", "dict"]
theorem tyD_in {d : D} {t : String} (h : tyD d = some t) : tyNs.contains t = true := by
  cases d <;> first | (cases h; decide) | cases h
theorem raw0 {P : Program} {w : World} {K : PySem.W.Frag} {mg : Str → Option Value} {base : Heap} {CX : CXT} {k : Nat} {f : Addr} {fd : FuncData} {ps : List Str} {sp : Sp} (F : FnOk P w K mg base CX k f fd ps sp) (hb : L2.Binds K fd ps []) : FnR P w K mg base CX k f sp :=
  FnR.imp (F.raw hb .nil) fun vs H Q E h => by rw [List.append_nil]; exact h
def Has (K : PySem.W.Frag) (d : He.DefD) : Prop := ∃ fd, FunD K d.name d.qual d.params d.body d.scope (d.dvs K) (d.kws K) (He.fAd K d.at_) fd
def HasG (K : PySem.W.Frag) (d : He.DefD) : Prop := ∃ fd, FunD K d.name d.qual d.params d.body d.scope (d.dvs K) (d.kws K) (pAd K d.at_) fd
theorem SaysP.has {fn gs : List He.DefD} {ex : PySem.W.Frag → Bool} {w : World} {h : Heap} {K : PySem.W.Frag} (c : SaysP fn gs ex w h K) {d : He.DefD} (hd : d ∈ fn) : Has K d := by
  obtain ⟨i, h1, h2⟩ := List.mem_iff_getElem.mp hd
  exact c.def_ i (by rw [List.getElem?_eq_getElem h1, h2])
theorem SaysP.hasG {fn gs : List He.DefD} {ex : PySem.W.Frag → Bool} {w : World} {h : Heap} {K : PySem.W.Frag} (c : SaysP fn gs ex w h K) {d : He.DefD} (hd : d ∈ gs) : HasG K d := by
  obtain ⟨i, h1, h2⟩ := List.mem_iff_getElem.mp hd
  exact c.get_ i (by rw [List.getElem?_eq_getElem h1, h2])
theorem all_at {bs : List Bool} (h : bs.all id = true) (i : Nat) {b : Bool} (e : bs[i]? = some b) : b = true := List.all_eq_true.mp h b (List.mem_of_getElem? e)
structure TCls (K : PySem.W.Frag) (C : Addr) : Prop where
  sc : SlX.SCls K C
  si : SlX.SIsi K C
  kW : PySem.W.kitOne K (.ref C) (.ref C) = some true
  kT : ∀ t, tyNs.contains t = true → PySem.W.kitOne K (.type t) (.ref C) = some false
  nT : ∀ t, tyNs.contains t = true → PySem.W.notFirst K C (.type t) = true
  nW : PySem.W.notFirst K C (.ref C) = true
def tclB (K : PySem.W.Frag) (C : Addr) : Bool := scB K C && (siB K C && (decide (PySem.W.kitOne K (.ref C) (.ref C) = some true) && ((tyNs.all fun t => decide (PySem.W.kitOne K (.type t) (.ref C) = some false)) && ((tyNs.all fun t => PySem.W.notFirst K C (.type t)) && PySem.W.notFirst K C (.ref C)))))
theorem tclB_ok {K : PySem.W.Frag} {C : Addr} (q : tclB K C = true) : TCls K C := by
  obtain ⟨q0, q⟩ := He.ba q
  obtain ⟨q1, q⟩ := He.ba q
  obtain ⟨q2, q⟩ := He.ba q
  obtain ⟨q3, q⟩ := He.ba q
  obtain ⟨q4, q5⟩ := He.ba q
  exact ⟨scB_ok q0, siB_ok q1, of_decide_eq_true q2, fun t ht => of_decide_eq_true (List.all_eq_true.mp q3 t (List.contains_iff_mem.mp ht)), fun t ht => List.all_eq_true.mp q4 t (List.contains_iff_mem.mp ht), q5⟩
structure TMeth (K : PySem.W.Frag) (C : Addr) (m : Str) : Prop where
  f : PySem.W.findIn K (.ref C) m = some (some (.ref (He.ma K C m)))
  i : PySem.W.isFn K (.ref (He.ma K C m)) = true
  k : PySem.W.keepIn K (.ref (He.ma K C m)) = true
theorem tmeth_ok {K : PySem.W.Frag} {x m : Str} (q : (He.Fa.meth x m).ok K = true) : TMeth K (He.ga K x) m := by
  obtain ⟨c1, c⟩ := He.ba q
  obtain ⟨c2, c3⟩ := He.ba c
  exact ⟨He.eqO_ok c1, c2, c3⟩
def kwdAt (f : Str × Option Str) (x : Str) (K : PySem.W.Frag) : Addr := match K.lookup (He.fAd K f) with
  | some ⟨_, _, .func fd, _⟩ => (match fd.kwdefaults with
    | .ref D => (match PySem.W.nsIn K D x with
      | some (some (.ref a)) => a
      | _ => 0)
    | _ => 0)
  | _ => 0
section
variable {P : Program} {w : World} {K : PySem.W.Frag} {mg : Str → Option Value} {base : Heap} {f : Addr} {fd : FuncData} {C : Addr} {x qual f1 f2 : Str} {params : Arguments} {scope : Scope} {p1 p2 p3 p4 p5 p6 : Pos} {b1 b2 : Pos}
theorem ok_ini1 {q1 q2 q3 q4 : Pos} (F : FunD K x qual params [.Assign [.Attribute (.Name "self" q1) f1 q2] (.Name f1 q3) q4] scope [] [] f fd) (sc : FnScope ["self", f1] ["self", f1] scope) (oe : OexC K C) (n1 : PySem.W.findIn K (.ref C) f1 = some none)
    (v1 : Vis scope "self") (v2 : Vis scope f1) (d1 : (f1 == ("__debug__" : Str)) = false) (d2 : (f1 == ("__classdict__" : Str)) = false) : FnOk P w K mg base (L2.CX P w) 1 f fd ["self", f1] (spXIC C [f1]) := by
  refine F.ok sc (fun vs H Q E h => ?_) (fun cdv A outer s H vs Q E hr h => ?_)
  · obtain ⟨a, ws, rfl, hl, _⟩ := h
    simp [hl]
  · obtain ⟨a, ws, rfl, hl, ha, q⟩ := h
    obtain ⟨v, rfl⟩ : ∃ v, ws = [v] := by
      match ws, hl with
      | [v], _ => exact ⟨v, rfl⟩
    refine ⟨_, pss_one (ps_ost (pe_var (i := 0) rfl v1 (by decide) (by decide)) (pe_var (i := 1) rfl v2 d1 d2)), ?_⟩
    refine ⟨v, rfl, .ref a, rfl, a, _, rfl, oe, n1, .inl ⟨ha, fun dx hd hne => ?_⟩⟩
    exact q dx _ hd hne upd_same (by rw [upd_ne hne]; exact upd_same) fun b h1 h2 => by rw [upd_ne h1, upd_ne h2]
theorem ok_ini2 {q1 q2 q3 q4 r1 r2 r3 r4 : Pos} (F : FunD K x qual params [.Assign [.Attribute (.Name "self" q1) f1 q2] (.Name f1 q3) q4, .Assign [.Attribute (.Name "self" r1) f2 r2] (.Name f2 r3) r4] scope [] [] f fd) (sc : FnScope ["self", f1, f2] ["self", f1, f2] scope) (oe : OexC K C) (n1 : PySem.W.findIn K (.ref C) f1 = some none) (n2 : PySem.W.findIn K (.ref C) f2 = some none)
    (v1 : Vis scope "self") (v2 : Vis scope f1) (v3 : Vis scope f2) (d1 : (f1 == ("__debug__" : Str)) = false) (d2 : (f1 == ("__classdict__" : Str)) = false) (d3 : (f2 == ("__debug__" : Str)) = false) (d4 : (f2 == ("__classdict__" : Str)) = false) : FnOk P w K mg base (L2.CX P w) 1 f fd ["self", f1, f2] (spXIC C [f1, f2]) := by
  refine F.ok sc (fun vs H Q E h => ?_) (fun cdv A outer s H vs Q E hr h => ?_)
  · obtain ⟨a, ws, rfl, hl, _⟩ := h
    simp [hl]
  · obtain ⟨a, ws, rfl, hl, ha, q⟩ := h
    obtain ⟨v, u, rfl⟩ : ∃ v u, ws = [v, u] := by
      match ws, hl with
      | [v, u], _ => exact ⟨v, u, rfl⟩
    refine ⟨_, pss_cons (ps_ost (pe_var (i := 0) rfl v1 (by decide) (by decide)) (pe_var (i := 1) rfl v2 d1 d2)) (pss_one (ps_ost (pe_var (i := 0) rfl v1 (by decide) (by decide)) (pe_var (i := 2) rfl v3 d3 d4))), ?_⟩
    refine ⟨v, rfl, .ref a, rfl, a, _, rfl, oe, n1, .inl ⟨ha, fun dx hd hne => ?_⟩⟩
    refine ⟨u, rfl, .ref a, rfl, a, _, rfl, oe, n2, .inr ⟨dx, _, upd_same, by rw [upd_ne hne]; exact upd_same, by show 1 ≤ 900; decide, ?_⟩⟩
    exact q dx _ hd hne (by rw [upd_ne (Ne.symm hne)]; exact upd_same) upd_same fun b h1 h2 => by rw [upd_ne h2, upd_ne h1, upd_ne h2]
end
end DL
set_option Elab.async false
set_option linter.all false
set_option maxRecDepth 100000
set_option maxHeartbeats 4000000
namespace L2
open PySem PySem.Spec PyProof.Rows
section
variable {X : Cx} {a b : Expr} {ta : TE} {t : TEw} {pos : Pos}
end
end L2
set_option Elab.async false
set_option linter.all false
set_option maxRecDepth 100000
set_option maxHeartbeats 400000
namespace DL
open PySem PySem.Spec PyProof.Rows L2
section
variable {X : Cx} {W : WX} {a e : Expr} {op : CmpOp} {sts els : List Stmt} {δ : DEnv} {I : Iv X.K} {pos p1 p2 p3 : Pos} {κ : Ko X.K} {x' : Str}
end
end DL
set_option Elab.async false
set_option linter.all false
set_option maxRecDepth 100000
set_option maxHeartbeats 4000000
namespace L2
open PySem PySem.Spec PyProof.Rows
section
variable {X : Cx} {es : List Expr} {t : TA} {pos : Pos}
end
end L2
namespace DL
open PySem PySem.Spec PyProof.Rows L2
section
variable {X : Cx} {W : WX} {R : Rx X.K} {a b o e : Expr} {es : List Expr} {δ : DEnv} {I : Iv X.K} {P : D → Iv X.K → Prop} {pos p apos : Pos} {d z : D} {ds fs : List D} {ss : List Str} {k : Str}
end
end DL
set_option Elab.async false
set_option linter.all false
set_option maxRecDepth 100000
set_option maxHeartbeats 4000000
namespace DL
open PySem PySem.Spec PyProof.Rows L2
section
variable {P : Program} {w : World} {K : PySem.W.Frag} {mg : Str → Option Value} {base : Heap} {x qual : Str} {params : Arguments} {body : List Stmt} {scope : Scope} {f : Addr} {fd : FuncData} {ps ks : List Str} {k n : Nat} {S : Spec K} {kws : List (Str × V)}
end
section
variable {K : PySem.W.Frag} {G : Hp} {α : Type} {f : α → List D}
end
end DL
set_option Elab.async false
set_option linter.all false
set_option maxRecDepth 100000
set_option maxHeartbeats 4000000
namespace LK
open PySem PySem.Spec PyProof.Rows L2 DL
def top (i : Nat) : Stmt := PySem.Challenge.pw_linesharing_k37_desks_changed.main.body.getD i (.Pass ⟨0, 0, 0, 0⟩)
abbrev m_InvalidWidth_init : Stmt := inClass (top 3) 0
abbrev m_InvalidWrite_init : Stmt := inClass (top 4) 0
theorem sc_m_InvalidWrite_init : FnScope ["self", "part"] ["self", "part"] (defScope m_InvalidWrite_init) := ⟨rfl, rfl, rfl, by decide +kernel, rfl, by decide +kernel, by decide +kernel⟩
abbrev m_InvalidCast_init : Stmt := inClass (top 5) 0
theorem sc_m_InvalidCast_init : FnScope ["self", "name", "number"] ["self", "name", "number"] (defScope m_InvalidCast_init) := ⟨rfl, rfl, rfl, by decide +kernel, rfl, by decide +kernel, by decide +kernel⟩
abbrev m_UnknownWork_init : Stmt := inClass (top 6) 0
theorem sc_m_UnknownWork_init : FnScope ["self", "name"] ["self", "name"] (defScope m_UnknownWork_init) := ⟨rfl, rfl, rfl, by decide +kernel, rfl, by decide +kernel, by decide +kernel⟩
abbrev m_Clash_init : Stmt := inClass (top 7) 0
theorem sc_m_Clash_init : FnScope ["self", "name"] ["self", "name"] (defScope m_Clash_init) := ⟨rfl, rfl, rfl, by decide +kernel, rfl, by decide +kernel, by decide +kernel⟩
abbrev m_NoWrite_init : Stmt := inClass (top 8) 0
theorem sc_m_NoWrite_init : FnScope ["self", "number"] ["self", "number"] (defScope m_NoWrite_init) := ⟨rfl, rfl, rfl, by decide +kernel, rfl, by decide +kernel, by decide +kernel⟩
abbrev m_WrongGap_init : Stmt := inClass (top 9) 0
abbrev m_WrongLine_init : Stmt := inClass (top 10) 0
abbrev f_is_text : Stmt := top 26
theorem sc_f_is_text : FnScope ["value", "sign"] ["value"] (defScope f_is_text) := ⟨rfl, rfl, rfl, by decide +kernel, rfl, by decide +kernel, by decide +kernel⟩
abbrev f_is_name : Stmt := top 27
theorem sc_f_is_name : FnScope ["value", "sign"] ["value"] (defScope f_is_name) := ⟨rfl, rfl, rfl, by decide +kernel, rfl, by decide +kernel, by decide +kernel⟩
abbrev f_is_one_of : Stmt := top 28
theorem sc_f_is_one_of : FnScope ["value", "words"] ["value", "words"] (defScope f_is_one_of) := ⟨rfl, rfl, rfl, by decide +kernel, rfl, by decide +kernel, by decide +kernel⟩
abbrev m_Write_init : Stmt := inClass (top 29) 1
theorem sc_m_Write_init : FnScope ["self", "kind", "text", "lead", "tail"] ["self", "kind", "text", "lead", "tail"] (defScope m_Write_init) := ⟨rfl, rfl, rfl, by decide +kernel, rfl, by decide +kernel, by decide +kernel⟩
abbrev m_Write_kind : Stmt := inClass (top 29) 2
theorem sc_m_Write_kind : FnScope ["self"] ["self"] (defScope m_Write_kind) := ⟨rfl, rfl, rfl, by decide +kernel, rfl, by decide +kernel, by decide +kernel⟩
abbrev m_Write_text : Stmt := inClass (top 29) 3
abbrev m_Write_lead : Stmt := inClass (top 29) 4
abbrev m_Write_tail : Stmt := inClass (top 29) 5
abbrev m_Write_stays : Stmt := inClass (top 29) 6
abbrev m_Write_len : Stmt := inClass (top 29) 7
abbrev m_Write_eq : Stmt := inClass (top 29) 8
theorem sc_m_Write_eq : FnScope ["self", "other"] ["self", "other"] (defScope m_Write_eq) := ⟨rfl, rfl, rfl, by decide +kernel, rfl, by decide +kernel, by decide +kernel⟩
abbrev f_is_plain : Stmt := top 30
abbrev f_look_at_writes : Stmt := top 31
theorem sc_f_look_at_writes : FnScope ["name", "writes", "kinds", "number", "kind", "is_alone", "write"] ["name", "writes"] (defScope f_look_at_writes) := ⟨rfl, rfl, rfl, by decide +kernel, rfl, by decide +kernel, by decide +kernel⟩
abbrev m_Cast_init : Stmt := inClass (top 32) 1
theorem sc_m_Cast_init : FnScope ["self", "works", "name"] ["self", "works"] (defScope m_Cast_init) := ⟨rfl, rfl, rfl, by decide +kernel, rfl, by decide +kernel, by decide +kernel⟩
abbrev m_Cast_names : Stmt := inClass (top 32) 2
abbrev m_Cast_getitem : Stmt := inClass (top 32) 3
theorem sc_m_Cast_getitem : FnScope ["self", "name"] ["self", "name"] (defScope m_Cast_getitem) := ⟨rfl, rfl, rfl, by decide +kernel, rfl, by decide +kernel, by decide +kernel⟩
abbrev m_Cast_contains : Stmt := inClass (top 32) 4
theorem sc_m_Cast_contains : FnScope ["self", "name"] ["self", "name"] (defScope m_Cast_contains) := ⟨rfl, rfl, rfl, by decide +kernel, rfl, by decide +kernel, by decide +kernel⟩
abbrev m_Cast_iter : Stmt := inClass (top 32) 5
abbrev m_Cast_len : Stmt := inClass (top 32) 6
abbrev m_Cast_eq : Stmt := inClass (top 32) 7
theorem sc_m_Cast_eq : FnScope ["self", "other"] ["self", "other"] (defScope m_Cast_eq) := ⟨rfl, rfl, rfl, by decide +kernel, rfl, by decide +kernel, by decide +kernel⟩
abbrev m_Cast_add : Stmt := inClass (top 32) 8
abbrev m_Cast_gaps : Stmt := inClass (top 32) 10
abbrev m_Cast_lines : Stmt := inClass (top 32) 11
abbrev f_is_integer : Stmt := top 35
theorem sc_f_is_integer : FnScope ["value"] ["value"] (defScope f_is_integer) := ⟨rfl, rfl, rfl, by decide +kernel, rfl, by decide +kernel, by decide +kernel⟩
abbrev f_look_at_width : Stmt := top 36
theorem sc_f_look_at_width : FnScope ["value"] ["value"] (defScope f_look_at_width) := ⟨rfl, rfl, rfl, by decide +kernel, rfl, by decide +kernel, by decide +kernel⟩
abbrev f_is_pair : Stmt := top 37
abbrev f_holds_of : Stmt := top 38
abbrev f_lines_of : Stmt := top 39
abbrev m_Course_init : Stmt := inClass (top 41) 0
abbrev m_Course_start : Stmt := inClass (top 41) 1
abbrev m_Course_ready : Stmt := inClass (top 41) 2
abbrev m_Course_after : Stmt := inClass (top 41) 3
abbrev m_Course_next_number : Stmt := inClass (top 41) 4
abbrev m_Course_is_whole : Stmt := inClass (top 41) 5
abbrev m_Course_count_from : Stmt := inClass (top 41) 6
abbrev m_Row_init : Stmt := inClass (top 43) 0
abbrev m_Row_write_of : Stmt := inClass (top 43) 1
abbrev m_Row_take_away : Stmt := inClass (top 43) 2
abbrev m_Row_is_torn : Stmt := inClass (top 43) 3
abbrev m_Row_look_at_leaving : Stmt := inClass (top 43) 4
abbrev m_Row_leave : Stmt := inClass (top 43) 5
abbrev m_Row_erase : Stmt := inClass (top 43) 6
abbrev m_Row_do_word : Stmt := inClass (top 43) 7
abbrev m_Row_look_at_reply : Stmt := inClass (top 43) 8
abbrev m_Row_put : Stmt := inClass (top 43) 9
abbrev m_Row_perform : Stmt := inClass (top 43) 10
abbrev m_Stage_init : Stmt := inClass (top 44) 0
abbrev m_Stage_start : Stmt := inClass (top 44) 1
abbrev m_Stage_ready : Stmt := inClass (top 44) 2
abbrev m_Stage_after : Stmt := inClass (top 44) 3
abbrev m_Stage_is_lost : Stmt := inClass (top 44) 4
abbrev m_Stage_is_end : Stmt := inClass (top 44) 5
abbrev m_Stage_is_good : Stmt := inClass (top 44) 6
abbrev f_stage_of : Stmt := top 46
abbrev f_tallied : Stmt := top 47
abbrev f_after_all : Stmt := top 48
abbrev f_first_with : Stmt := top 49
abbrev f_first_garbled : Stmt := top 50
abbrev m_Desk_init : Stmt := inClass (top 52) 0
theorem sc_m_Desk_init : FnScope ["self", "cast", "width"] ["self", "cast", "width"] (defScope m_Desk_init) := ⟨rfl, rfl, rfl, by decide +kernel, rfl, by decide +kernel, by decide +kernel⟩
abbrev m_Desk_cast : Stmt := inClass (top 52) 1
theorem sc_m_Desk_cast : FnScope ["self"] ["self"] (defScope m_Desk_cast) := ⟨rfl, rfl, rfl, by decide +kernel, rfl, by decide +kernel, by decide +kernel⟩
abbrev m_Desk_width : Stmt := inClass (top 52) 2
theorem sc_m_Desk_width : FnScope ["self"] ["self"] (defScope m_Desk_width) := ⟨rfl, rfl, rfl, by decide +kernel, rfl, by decide +kernel, by decide +kernel⟩
abbrev m_Desk_is_safe : Stmt := inClass (top 52) 3
abbrev m_Desk_getitem : Stmt := inClass (top 52) 4
theorem sc_m_Desk_getitem : FnScope ["self", "at", "name", "number", "writes"] ["self", "at"] (defScope m_Desk_getitem) := ⟨rfl, rfl, rfl, by decide +kernel, rfl, by decide +kernel, by decide +kernel⟩
abbrev m_Desk_setitem : Stmt := inClass (top 52) 5
theorem sc_m_Desk_setitem : FnScope ["self", "at", "write", "name", "number", "writes"] ["self", "at", "write"] (defScope m_Desk_setitem) := ⟨rfl, rfl, rfl, by decide +kernel, rfl, by decide +kernel, by decide +kernel⟩
abbrev m_Desk_iter : Stmt := inClass (top 52) 6
abbrev m_Desk_with_writes : Stmt := inClass (top 52) 7
theorem sc_m_Desk_with_writes : FnScope ["self", "name", "writes"] ["self", "name", "writes"] (defScope m_Desk_with_writes) := ⟨rfl, rfl, rfl, by decide +kernel, rfl, by decide +kernel, by decide +kernel⟩
abbrev m_Desk_insert : Stmt := inClass (top 52) 8
theorem sc_m_Desk_insert : FnScope ["self", "name", "number", "writes", "old"] ["self", "name", "number", "writes"] (defScope m_Desk_insert) := ⟨rfl, rfl, rfl, by decide +kernel, rfl, by decide +kernel, by decide +kernel⟩
abbrev m_Desk_remove : Stmt := inClass (top 52) 9
theorem sc_m_Desk_remove : FnScope ["self", "name", "number", "many", "old", "place"] ["self", "name", "number", "many"] (defScope m_Desk_remove) := ⟨rfl, rfl, rfl, by decide +kernel, rfl, by decide +kernel, by decide +kernel⟩
abbrev m_Desk_add : Stmt := inClass (top 52) 10
theorem sc_m_Desk_add : FnScope ["self", "name", "writes"] ["self", "name", "writes"] (defScope m_Desk_add) := ⟨rfl, rfl, rfl, by decide +kernel, rfl, by decide +kernel, by decide +kernel⟩
abbrev m_Desk_drop : Stmt := inClass (top 52) 11
theorem sc_m_Desk_drop : FnScope ["self", "name", "table", "other"] ["self", "name"] (defScope m_Desk_drop) := ⟨rfl, rfl, rfl, by decide +kernel, rfl, by decide +kernel, by decide +kernel⟩
abbrev m_Desk_change_to : Stmt := inClass (top 52) 12
theorem sc_m_Desk_change_to : FnScope ["self", "cast"] ["self", "cast"] (defScope m_Desk_change_to) := ⟨rfl, rfl, rfl, by decide +kernel, rfl, by decide +kernel, by decide +kernel⟩
abbrev m_Desk_undo : Stmt := inClass (top 52) 13
theorem sc_m_Desk_undo : FnScope ["self"] ["self"] (defScope m_Desk_undo) := ⟨rfl, rfl, rfl, by decide +kernel, rfl, by decide +kernel, by decide +kernel⟩
abbrev m_Desk_redo : Stmt := inClass (top 52) 14
theorem sc_m_Desk_redo : FnScope ["self"] ["self"] (defScope m_Desk_redo) := ⟨rfl, rfl, rfl, by decide +kernel, rfl, by decide +kernel, by decide +kernel⟩
abbrev m_Desk_tell : Stmt := inClass (top 52) 15
theorem sc_m_Desk_tell : FnScope ["self", "is_safe", "number", "function"] ["self"] (defScope m_Desk_tell) := ⟨rfl, rfl, rfl, by decide +kernel, rfl, by decide +kernel, by decide +kernel⟩
abbrev m_Desk_watch : Stmt := inClass (top 52) 16
abbrev f_Lmix : Stmt := top 54
theorem sc_f_Lmix : FnScope ["_law_script", "_law_seed", "_law_state", "_law_cell"] ["_law_script", "_law_seed"] (defScope f_Lmix) := ⟨rfl, rfl, rfl, by decide +kernel, rfl, by decide +kernel, by decide +kernel⟩
abbrev f_Lnext : Stmt := top 55
theorem sc_f_Lnext : FnScope ["_law_h", "_law_bound", "_law_cell"] ["_law_h", "_law_bound"] (defScope f_Lnext) := ⟨rfl, rfl, rfl, by decide +kernel, rfl, by decide +kernel, by decide +kernel⟩
abbrev f_Lletters : Stmt := top 56
theorem sc_f_Lletters : FnScope ["_law_h", "_law_most", "_law_signs", "_law_size", "_law_k"] ["_law_h", "_law_most"] (defScope f_Lletters) := ⟨rfl, rfl, rfl, by decide +kernel, rfl, by decide +kernel, by decide +kernel⟩
abbrev f_Lone : Stmt := top 57
theorem sc_f_Lone : FnScope ["_law_h", "_law_form", "_law_most", "_law_words", "_law_ahead", "_law_behind"] ["_law_h", "_law_form", "_law_most"] (defScope f_Lone) := ⟨rfl, rfl, rfl, by decide +kernel, rfl, by decide +kernel, by decide +kernel⟩
abbrev f_Lrowof : Stmt := top 58
theorem sc_f_Lrowof : FnScope ["_law_h", "_law_many", "_law_most", "_law_found", "_law_form"] ["_law_h", "_law_many", "_law_most"] (defScope f_Lrowof) := ⟨rfl, rfl, rfl, by decide +kernel, rfl, by decide +kernel, by decide +kernel⟩
abbrev f_Ltable : Stmt := top 59
theorem sc_f_Ltable : FnScope ["_law_h", "_law_works", "_law_total", "_law_most", "_law_found", "_law_left", "_law_name", "_law_many"] ["_law_h", "_law_works", "_law_total", "_law_most"] (defScope f_Ltable) := ⟨rfl, rfl, rfl, by decide +kernel, rfl, by decide +kernel, by decide +kernel⟩
abbrev f_Lgapsof : Stmt := top 60
abbrev f_Lbad : Stmt := top 61
theorem sc_f_Lbad : FnScope ["_law_t", "_law_name", "_law_forms", "_law_k", "_law_sign", "_law_one_here"] ["_law_t"] (defScope f_Lbad) := ⟨rfl, rfl, rfl, by decide +kernel, rfl, by decide +kernel, by decide +kernel⟩
abbrev f_Ledit : Stmt := top 62
theorem sc_f_Ledit : FnScope ["_law_h", "_law_t", "_law_name", "_law_k", "_law_some", "_law_turn"] ["_law_h", "_law_t"] (defScope f_Ledit) := ⟨rfl, rfl, rfl, by decide +kernel, rfl, by decide +kernel, by decide +kernel⟩
abbrev f_Ledited : Stmt := top 63
theorem sc_f_Ledited : FnScope ["_law_t", "_law_edit_here", "_law_name", "_law_later", "_law_old", "_law_many", "_law_most", "_law_n", "_law_new", "_law_fault"] ["_law_t", "_law_edit_here"] (defScope f_Ledited) := ⟨rfl, rfl, rfl, by decide +kernel, rfl, by decide +kernel, by decide +kernel⟩
abbrev f_Lthing : Stmt := top 64
theorem sc_f_Lthing : FnScope ["_law_one_here"] ["_law_one_here"] (defScope f_Lthing) := ⟨rfl, rfl, rfl, by decide +kernel, rfl, by decide +kernel, by decide +kernel⟩
abbrev f_Ldone : Stmt := top 65
theorem sc_f_Ldone : FnScope ["_law_d", "_law_edit_here", "_law_one_here"] ["_law_d", "_law_edit_here"] (defScope f_Ldone) := ⟨rfl, rfl, rfl, by decide +kernel, rfl, by decide +kernel, by decide +kernel⟩
abbrev f_Lchange : Stmt := top 66
theorem sc_f_Lchange : FnScope ["_law_d", "_law_edit_here", "_law_told", "e"] ["_law_d", "_law_edit_here"] (defScope f_Lchange) := ⟨rfl, rfl, rfl, by decide +kernel, rfl, by decide +kernel, by decide +kernel⟩
abbrev f_Lbuilt : Stmt := top 67
theorem sc_f_Lbuilt : FnScope ["_law_t", "_law_made", "_law_name", "_law_one_here"] ["_law_t"] (defScope f_Lbuilt) := ⟨rfl, rfl, rfl, by decide +kernel, rfl, by decide +kernel, by decide +kernel⟩
abbrev f_Lwidth : Stmt := top 68
theorem sc_f_Lwidth : FnScope ["_law_h"] ["_law_h"] (defScope f_Lwidth) := ⟨rfl, rfl, rfl, by decide +kernel, rfl, by decide +kernel, by decide +kernel⟩
abbrev f_Lwrite : Stmt := top 69
theorem sc_f_Lwrite : FnScope ["_law_d", "_law_name", "_law_k", "_law_told", "e"] ["_law_d", "_law_name", "_law_k"] (defScope f_Lwrite) := ⟨rfl, rfl, rfl, by decide +kernel, rfl, by decide +kernel, by decide +kernel⟩
abbrev f_Lshown : Stmt := top 70
theorem sc_f_Lshown : FnScope ["_law_d", "_law_t", "_law_w", "_law_name", "_law_k"] ["_law_d", "_law_t", "_law_w"] (defScope f_Lshown) := ⟨rfl, rfl, rfl, by decide +kernel, rfl, by decide +kernel, by decide +kernel⟩
abbrev f_Lturned : Stmt := top 71
theorem sc_f_Lturned : FnScope ["_law_d", "_law_t", "_law_past", "_law_later", "_law_back"] ["_law_d", "_law_t", "_law_past", "_law_later", "_law_back"] (defScope f_Lturned) := ⟨rfl, rfl, rfl, by decide +kernel, rfl, by decide +kernel, by decide +kernel⟩
abbrev f_law : Stmt := top 72
theorem sc_f_law : FnScope ["_law_script", "_law_h", "_law_t", "_law_w", "_law_d", "_law_past", "_law_later", "_law_turn", "_law_way", "_law_edit_here", "_law_due", "_law_told", "_law_name"] ["_law_script"] (defScope f_law) := ⟨rfl, rfl, rfl, by decide +kernel, rfl, by decide +kernel, by decide +kernel⟩
abbrev tfL : List He.Defn := [("tallied", none), ("first_garbled", none), ("Desk", some "watch")]
abbrev FnP (K : PySem.W.Frag) (x qual : Str) (st : Stmt) (f : Addr) (fd : FuncData) : Prop := FunD K x qual (defArgs st) (defBody st) (defScope st) [] [] f fd
abbrev d_m_InvalidWidth_init : He.DefD := dM "InvalidWidth" "__init__" "InvalidWidth.__init__" m_InvalidWidth_init
abbrev d_m_InvalidWrite_init : He.DefD := dM "InvalidWrite" "__init__" "InvalidWrite.__init__" m_InvalidWrite_init
abbrev d_m_InvalidCast_init : He.DefD := dM "InvalidCast" "__init__" "InvalidCast.__init__" m_InvalidCast_init
abbrev d_m_UnknownWork_init : He.DefD := dM "UnknownWork" "__init__" "UnknownWork.__init__" m_UnknownWork_init
abbrev d_m_Clash_init : He.DefD := dM "Clash" "__init__" "Clash.__init__" m_Clash_init
abbrev d_m_NoWrite_init : He.DefD := dM "NoWrite" "__init__" "NoWrite.__init__" m_NoWrite_init
abbrev d_m_WrongGap_init : He.DefD := dM "WrongGap" "__init__" "WrongGap.__init__" m_WrongGap_init
abbrev d_m_WrongLine_init : He.DefD := dM "WrongLine" "__init__" "WrongLine.__init__" m_WrongLine_init
abbrev d_f_is_text : He.DefD := dF "is_text" f_is_text
abbrev d_f_is_name : He.DefD := dF "is_name" f_is_name
abbrev d_f_is_one_of : He.DefD := dF "is_one_of" f_is_one_of
abbrev d_m_Write_init : He.DefD := dM "Write" "__init__" "Write.__init__" m_Write_init [] [("lead", .str ""), ("tail", .str "")]
abbrev d_m_Write_kind : He.DefD := dM "Write" "kind" "Write.kind" m_Write_kind
abbrev d_m_Write_text : He.DefD := dM "Write" "text" "Write.text" m_Write_text
abbrev d_m_Write_lead : He.DefD := dM "Write" "lead" "Write.lead" m_Write_lead
abbrev d_m_Write_tail : He.DefD := dM "Write" "tail" "Write.tail" m_Write_tail
abbrev d_m_Write_stays : He.DefD := dM "Write" "stays" "Write.stays" m_Write_stays
abbrev d_m_Write_len : He.DefD := dM "Write" "__len__" "Write.__len__" m_Write_len
abbrev d_m_Write_eq : He.DefD := dM "Write" "__eq__" "Write.__eq__" m_Write_eq
abbrev d_f_is_plain : He.DefD := dF "is_plain" f_is_plain
abbrev d_f_look_at_writes : He.DefD := dF "look_at_writes" f_look_at_writes
abbrev d_m_Cast_init : He.DefD := dM "Cast" "__init__" "Cast.__init__" m_Cast_init
abbrev d_m_Cast_names : He.DefD := dM "Cast" "names" "Cast.names" m_Cast_names
abbrev d_m_Cast_getitem : He.DefD := dM "Cast" "__getitem__" "Cast.__getitem__" m_Cast_getitem
abbrev d_m_Cast_contains : He.DefD := dM "Cast" "__contains__" "Cast.__contains__" m_Cast_contains
abbrev d_m_Cast_iter : He.DefD := dM "Cast" "__iter__" "Cast.__iter__" m_Cast_iter
abbrev d_m_Cast_len : He.DefD := dM "Cast" "__len__" "Cast.__len__" m_Cast_len
abbrev d_m_Cast_eq : He.DefD := dM "Cast" "__eq__" "Cast.__eq__" m_Cast_eq
abbrev d_m_Cast_add : He.DefD := dM "Cast" "__add__" "Cast.__add__" m_Cast_add
abbrev d_m_Cast_gaps : He.DefD := dM "Cast" "gaps" "Cast.gaps" m_Cast_gaps
abbrev d_m_Cast_lines : He.DefD := dM "Cast" "lines" "Cast.lines" m_Cast_lines
abbrev d_f_is_integer : He.DefD := dF "is_integer" f_is_integer
abbrev d_f_look_at_width : He.DefD := dF "look_at_width" f_look_at_width
abbrev d_f_is_pair : He.DefD := dF "is_pair" f_is_pair
abbrev d_f_holds_of : He.DefD := dF "holds_of" f_holds_of
abbrev d_f_lines_of : He.DefD := dF "lines_of" f_lines_of
abbrev d_m_Course_init : He.DefD := dM "Course" "__init__" "Course.__init__" m_Course_init
abbrev d_m_Course_start : He.DefD := dM "Course" "start" "Course.start" m_Course_start
abbrev d_m_Course_ready : He.DefD := dM "Course" "ready" "Course.ready" m_Course_ready
abbrev d_m_Course_after : He.DefD := dM "Course" "after" "Course.after" m_Course_after
abbrev d_m_Course_next_number : He.DefD := dM "Course" "next_number" "Course.next_number" m_Course_next_number
abbrev d_m_Course_is_whole : He.DefD := dM "Course" "is_whole" "Course.is_whole" m_Course_is_whole
abbrev d_m_Course_count_from : He.DefD := dM "Course" "count_from" "Course.count_from" m_Course_count_from
abbrev d_m_Row_init : He.DefD := dM "Row" "__init__" "Row.__init__" m_Row_init
abbrev d_m_Row_write_of : He.DefD := dM "Row" "write_of" "Row.write_of" m_Row_write_of
abbrev d_m_Row_take_away : He.DefD := dM "Row" "take_away" "Row.take_away" m_Row_take_away
abbrev d_m_Row_is_torn : He.DefD := dM "Row" "is_torn" "Row.is_torn" m_Row_is_torn
abbrev d_m_Row_look_at_leaving : He.DefD := dM "Row" "look_at_leaving" "Row.look_at_leaving" m_Row_look_at_leaving
abbrev d_m_Row_leave : He.DefD := dM "Row" "leave" "Row.leave" m_Row_leave
abbrev d_m_Row_erase : He.DefD := dM "Row" "erase" "Row.erase" m_Row_erase
abbrev d_m_Row_do_word : He.DefD := dM "Row" "do_word" "Row.do_word" m_Row_do_word
abbrev d_m_Row_look_at_reply : He.DefD := dM "Row" "look_at_reply" "Row.look_at_reply" m_Row_look_at_reply
abbrev d_m_Row_put : He.DefD := dM "Row" "put" "Row.put" m_Row_put
abbrev d_m_Row_perform : He.DefD := dM "Row" "perform" "Row.perform" m_Row_perform
abbrev d_m_Stage_init : He.DefD := dM "Stage" "__init__" "Stage.__init__" m_Stage_init
abbrev d_m_Stage_start : He.DefD := dM "Stage" "start" "Stage.start" m_Stage_start
abbrev d_m_Stage_ready : He.DefD := dM "Stage" "ready" "Stage.ready" m_Stage_ready
abbrev d_m_Stage_after : He.DefD := dM "Stage" "after" "Stage.after" m_Stage_after
abbrev d_m_Stage_is_lost : He.DefD := dM "Stage" "is_lost" "Stage.is_lost" m_Stage_is_lost
abbrev d_m_Stage_is_end : He.DefD := dM "Stage" "is_end" "Stage.is_end" m_Stage_is_end
abbrev d_m_Stage_is_good : He.DefD := dM "Stage" "is_good" "Stage.is_good" m_Stage_is_good
abbrev d_f_stage_of : He.DefD := dF "stage_of" f_stage_of
abbrev d_f_tallied : He.DefD := dF "tallied" f_tallied
abbrev d_f_after_all : He.DefD := dF "after_all" f_after_all
abbrev d_f_first_with : He.DefD := dF "first_with" f_first_with
abbrev d_f_first_garbled : He.DefD := dF "first_garbled" f_first_garbled [] [("holds", .adr (kwdAt ("first_garbled", none) "holds")), ("careful", .adr (kwdAt ("first_garbled", none) "careful"))]
abbrev d_m_Desk_init : He.DefD := dM "Desk" "__init__" "Desk.__init__" m_Desk_init
abbrev d_m_Desk_cast : He.DefD := dM "Desk" "cast" "Desk.cast" m_Desk_cast
abbrev d_m_Desk_width : He.DefD := dM "Desk" "width" "Desk.width" m_Desk_width
abbrev d_m_Desk_is_safe : He.DefD := dM "Desk" "is_safe" "Desk.is_safe" m_Desk_is_safe
abbrev d_m_Desk_getitem : He.DefD := dM "Desk" "__getitem__" "Desk.__getitem__" m_Desk_getitem
abbrev d_m_Desk_setitem : He.DefD := dM "Desk" "__setitem__" "Desk.__setitem__" m_Desk_setitem
abbrev d_m_Desk_iter : He.DefD := dM "Desk" "__iter__" "Desk.__iter__" m_Desk_iter
abbrev d_m_Desk_with_writes : He.DefD := dM "Desk" "with_writes" "Desk.with_writes" m_Desk_with_writes
abbrev d_m_Desk_insert : He.DefD := dM "Desk" "insert" "Desk.insert" m_Desk_insert
abbrev d_m_Desk_remove : He.DefD := dM "Desk" "remove" "Desk.remove" m_Desk_remove [.int 1] []
abbrev d_m_Desk_add : He.DefD := dM "Desk" "add" "Desk.add" m_Desk_add
abbrev d_m_Desk_drop : He.DefD := dM "Desk" "drop" "Desk.drop" m_Desk_drop
abbrev d_m_Desk_change_to : He.DefD := dM "Desk" "change_to" "Desk.change_to" m_Desk_change_to
abbrev d_m_Desk_undo : He.DefD := dM "Desk" "undo" "Desk.undo" m_Desk_undo
abbrev d_m_Desk_redo : He.DefD := dM "Desk" "redo" "Desk.redo" m_Desk_redo
abbrev d_m_Desk_tell : He.DefD := dM "Desk" "tell" "Desk.tell" m_Desk_tell
abbrev d_m_Desk_watch : He.DefD := dM "Desk" "watch" "Desk.watch" m_Desk_watch
abbrev d_f_Lmix : He.DefD := dF "_law_mix" f_Lmix
abbrev d_f_Lnext : He.DefD := dF "_law_next" f_Lnext
abbrev d_f_Lletters : He.DefD := dF "_law_letters" f_Lletters
abbrev d_f_Lone : He.DefD := dF "_law_one" f_Lone
abbrev d_f_Lrowof : He.DefD := dF "_law_rowof" f_Lrowof
abbrev d_f_Ltable : He.DefD := dF "_law_table" f_Ltable
abbrev d_f_Lgapsof : He.DefD := dF "_law_gapsof" f_Lgapsof
abbrev d_f_Lbad : He.DefD := dF "_law_bad" f_Lbad
abbrev d_f_Ledit : He.DefD := dF "_law_edit" f_Ledit
abbrev d_f_Ledited : He.DefD := dF "_law_edited" f_Ledited
abbrev d_f_Lthing : He.DefD := dF "_law_thing" f_Lthing
abbrev d_f_Ldone : He.DefD := dF "_law_done" f_Ldone
abbrev d_f_Lchange : He.DefD := dF "_law_change" f_Lchange
abbrev d_f_Lbuilt : He.DefD := dF "_law_built" f_Lbuilt
abbrev d_f_Lwidth : He.DefD := dF "_law_width" f_Lwidth
abbrev d_f_Lwrite : He.DefD := dF "_law_write" f_Lwrite
abbrev d_f_Lshown : He.DefD := dF "_law_shown" f_Lshown
abbrev d_f_Lturned : He.DefD := dF "_law_turned" f_Lturned
abbrev d_f_law : He.DefD := dF "law" f_law
abbrev fnL : List He.DefD := [d_m_InvalidWidth_init, d_m_InvalidWrite_init, d_m_InvalidCast_init, d_m_UnknownWork_init, d_m_Clash_init, d_m_NoWrite_init, d_m_WrongGap_init, d_m_WrongLine_init, d_f_is_text, d_f_is_name, d_f_is_one_of, d_m_Write_init, d_m_Write_len, d_m_Write_eq, d_f_is_plain, d_f_look_at_writes, d_m_Cast_init, d_m_Cast_getitem, d_m_Cast_contains, d_m_Cast_iter, d_m_Cast_len, d_m_Cast_eq, d_m_Cast_add, d_m_Cast_gaps, d_m_Cast_lines, d_f_is_integer, d_f_look_at_width, d_f_is_pair, d_f_holds_of, d_f_lines_of, d_m_Course_init, d_m_Course_start, d_m_Course_ready, d_m_Course_after, d_m_Course_next_number, d_m_Course_is_whole, d_m_Course_count_from, d_m_Row_init, d_m_Row_write_of, d_m_Row_take_away, d_m_Row_is_torn, d_m_Row_look_at_leaving, d_m_Row_leave, d_m_Row_erase, d_m_Row_do_word, d_m_Row_look_at_reply, d_m_Row_put, d_m_Row_perform, d_m_Stage_init, d_m_Stage_start, d_m_Stage_ready, d_m_Stage_after, d_m_Stage_is_lost, d_m_Stage_is_end, d_m_Stage_is_good, d_f_stage_of, d_f_tallied, d_f_after_all, d_f_first_with, d_f_first_garbled, d_m_Desk_init, d_m_Desk_is_safe, d_m_Desk_getitem, d_m_Desk_setitem, d_m_Desk_iter, d_m_Desk_with_writes, d_m_Desk_insert, d_m_Desk_remove, d_m_Desk_add, d_m_Desk_drop, d_m_Desk_change_to, d_m_Desk_undo, d_m_Desk_redo, d_m_Desk_tell, d_m_Desk_watch, d_f_Lmix, d_f_Lnext, d_f_Lletters, d_f_Lone, d_f_Lrowof, d_f_Ltable, d_f_Lgapsof, d_f_Lbad, d_f_Ledit, d_f_Ledited, d_f_Lthing, d_f_Ldone, d_f_Lchange, d_f_Lbuilt, d_f_Lwidth, d_f_Lwrite, d_f_Lshown, d_f_Lturned, d_f_law]
abbrev gsL : List He.DefD := [d_m_Write_kind, d_m_Write_text, d_m_Write_lead, d_m_Write_tail, d_m_Write_stays, d_m_Cast_names, d_m_Desk_cast, d_m_Desk_width]
def lk0 (K : PySem.W.Frag) : List Bool := [(He.Fa.free "isinstance").ok K,
  (He.Fa.free "str").ok K,
  (He.Fa.free "int").ok K,
  (He.Fa.free "bool").ok K,
  (He.Fa.free "list").ok K,
  (He.Fa.free "tuple").ok K,
  (He.Fa.free "dict").ok K,
  (He.Fa.free "len").ok K,
  (He.Fa.free "all").ok K,
  (He.Fa.free "any").ok K,
  (He.Fa.free "sum").ok K,
  (He.Fa.free "max").ok K,
  (He.Fa.free "min").ok K,
  (He.Fa.free "range").ok K,
  (He.Fa.free "sorted").ok K,
  (He.Fa.free "reversed").ok K,
  (He.Fa.free "enumerate").ok K,
  (He.Fa.free "set").ok K,
  (He.Fa.free "ValueError").ok K,
  (He.Fa.free "TypeError").ok K]
def lk1 (K : PySem.W.Frag) : List Bool := [(He.Fa.free "super").ok K,
  (He.Fa.glo "is_text").ok K,
  (He.Fa.glo "is_name").ok K,
  (He.Fa.glo "is_one_of").ok K,
  (He.Fa.glo "is_plain").ok K,
  (He.Fa.glo "look_at_writes").ok K,
  (He.Fa.glo "is_integer").ok K,
  (He.Fa.glo "look_at_width").ok K,
  (He.Fa.glo "is_pair").ok K,
  (He.Fa.glo "holds_of").ok K,
  (He.Fa.glo "lines_of").ok K,
  (He.Fa.glo "stage_of").ok K,
  (He.Fa.glo "tallied").ok K,
  (He.Fa.glo "after_all").ok K,
  (He.Fa.glo "first_with").ok K,
  (He.Fa.glo "first_garbled").ok K,
  (He.Fa.glo "_law_mix").ok K,
  (He.Fa.glo "_law_next").ok K,
  (He.Fa.glo "_law_letters").ok K,
  (He.Fa.glo "_law_one").ok K]
def lk2 (K : PySem.W.Frag) : List Bool := [(He.Fa.glo "_law_rowof").ok K,
  (He.Fa.glo "_law_table").ok K,
  (He.Fa.glo "_law_gapsof").ok K,
  (He.Fa.glo "_law_bad").ok K,
  (He.Fa.glo "_law_edit").ok K,
  (He.Fa.glo "_law_edited").ok K,
  (He.Fa.glo "_law_thing").ok K,
  (He.Fa.glo "_law_done").ok K,
  (He.Fa.glo "_law_change").ok K,
  (He.Fa.glo "_law_built").ok K,
  (He.Fa.glo "_law_width").ok K,
  (He.Fa.glo "_law_write").ok K,
  (He.Fa.glo "_law_shown").ok K,
  (He.Fa.glo "_law_turned").ok K,
  (He.Fa.glo "law").ok K,
  (He.Fa.glo "LineError").ok K,
  (He.Fa.glo "InvalidWidth").ok K,
  (He.Fa.glo "InvalidWrite").ok K,
  (He.Fa.glo "InvalidCast").ok K,
  (He.Fa.glo "UnknownWork").ok K]
def lk3 (K : PySem.W.Frag) : List Bool := [(He.Fa.glo "Clash").ok K,
  (He.Fa.glo "NoWrite").ok K,
  (He.Fa.glo "WrongGap").ok K,
  (He.Fa.glo "WrongLine").ok K,
  (He.Fa.glo "Write").ok K,
  (He.Fa.glo "Cast").ok K,
  (He.Fa.glo "Course").ok K,
  (He.Fa.glo "Row").ok K,
  (He.Fa.glo "Stage").ok K,
  (He.Fa.glo "Desk").ok K,
  PySem.W.keepIn K (.ref (He.ga K "is_text")),
  PySem.W.keepIn K (.ref (He.ga K "is_name")),
  PySem.W.keepIn K (.ref (He.ga K "is_one_of")),
  PySem.W.keepIn K (.ref (He.ga K "is_plain")),
  PySem.W.keepIn K (.ref (He.ga K "look_at_writes")),
  PySem.W.keepIn K (.ref (He.ga K "is_integer")),
  PySem.W.keepIn K (.ref (He.ga K "look_at_width")),
  PySem.W.keepIn K (.ref (He.ga K "is_pair")),
  PySem.W.keepIn K (.ref (He.ga K "holds_of")),
  PySem.W.keepIn K (.ref (He.ga K "lines_of"))]
def lk4 (K : PySem.W.Frag) : List Bool := [PySem.W.keepIn K (.ref (He.ga K "stage_of")),
  PySem.W.keepIn K (.ref (He.ga K "tallied")),
  PySem.W.keepIn K (.ref (He.ga K "after_all")),
  PySem.W.keepIn K (.ref (He.ga K "first_with")),
  PySem.W.keepIn K (.ref (He.ga K "first_garbled")),
  PySem.W.keepIn K (.ref (He.ga K "_law_mix")),
  PySem.W.keepIn K (.ref (He.ga K "_law_next")),
  PySem.W.keepIn K (.ref (He.ga K "_law_letters")),
  PySem.W.keepIn K (.ref (He.ga K "_law_one")),
  PySem.W.keepIn K (.ref (He.ga K "_law_rowof")),
  PySem.W.keepIn K (.ref (He.ga K "_law_table")),
  PySem.W.keepIn K (.ref (He.ga K "_law_gapsof")),
  PySem.W.keepIn K (.ref (He.ga K "_law_bad")),
  PySem.W.keepIn K (.ref (He.ga K "_law_edit")),
  PySem.W.keepIn K (.ref (He.ga K "_law_edited")),
  PySem.W.keepIn K (.ref (He.ga K "_law_thing")),
  PySem.W.keepIn K (.ref (He.ga K "_law_done")),
  PySem.W.keepIn K (.ref (He.ga K "_law_change")),
  PySem.W.keepIn K (.ref (He.ga K "_law_built")),
  PySem.W.keepIn K (.ref (He.ga K "_law_width"))]
def lk5 (K : PySem.W.Frag) : List Bool := [PySem.W.keepIn K (.ref (He.ga K "_law_write")),
  PySem.W.keepIn K (.ref (He.ga K "_law_shown")),
  PySem.W.keepIn K (.ref (He.ga K "_law_turned")),
  PySem.W.keepIn K (.ref (He.ga K "law")),
  (He.Fa.str "LETTERS" ("abcdefghijklmnopqrstuvwxyz")).ok K,
  (He.Fa.str "FIGURES" ("0123456789")).ok K,
  (He.Fa.str "SIGNS" (Str.ofString ("abcdefghijklmnopqrstuvwxyzABCDEFGHIJKLMNOPQRSTUVWXYZ0123456789 !\"#$&'()*+,-./:;<=>?@" ++ "[\\]^_`{|}~"))).ok K,
  (He.Fa.str "SAY" ("say")).ok K,
  (He.Fa.str "ASK" ("ask")).ok K,
  (He.Fa.str "REPLY" ("reply")).ok K,
  (He.Fa.str "SHOW" ("show")).ok K,
  (He.tupB K "KINDS" [He.Dv.str "say", He.Dv.str "ask", He.Dv.str "reply", He.Dv.str "show"] && He.eqO (PySem.W.nsIn K mainGlobals "KINDS") (some (some (.ref (He.ga K "KINDS"))))),
  (He.tupB K "LEADS" [He.Dv.str "", He.Dv.str "return", He.Dv.str "wipe", He.Dv.str "fresh"] && He.eqO (PySem.W.nsIn K mainGlobals "LEADS") (some (some (.ref (He.ga K "LEADS"))))),
  (He.tupB K "TAILS" [He.Dv.str "", He.Dv.str "erase", He.Dv.str "newline"] && He.eqO (PySem.W.nsIn K mainGlobals "TAILS") (some (some (.ref (He.ga K "TAILS"))))),
  (He.Fa.int "MOST_SIGNS" 40).ok K,
  (He.Fa.int "MOST_NAME" 8).ok K,
  (He.Fa.int "MOST_WORKS" 6).ok K,
  (He.Fa.int "MOST_WRITES" 8).ok K,
  (He.Fa.int "MOST_WIDTH" 99).ok K,
  exB K "InvalidWidth"]
def lk6 (K : PySem.W.Frag) : List Bool := [txB K (He.ga K "InvalidWidth"),
  (He.Fa.noat "InvalidWidth" "value").ok K,
  (He.Fa.exm "InvalidWidth" "Clash" false).ok K,
  (He.Fa.exm "InvalidWidth" "InvalidCast" false).ok K,
  (He.Fa.exm "InvalidWidth" "NoWrite" false).ok K,
  (He.Fa.exm "InvalidWidth" "UnknownWork" false).ok K,
  exB K "InvalidWrite",
  txB K (He.ga K "InvalidWrite"),
  (He.Fa.noat "InvalidWrite" "part").ok K,
  (He.Fa.exm "InvalidWrite" "Clash" false).ok K,
  (He.Fa.exm "InvalidWrite" "InvalidCast" false).ok K,
  (He.Fa.exm "InvalidWrite" "NoWrite" false).ok K,
  (He.Fa.exm "InvalidWrite" "UnknownWork" false).ok K,
  exB K "InvalidCast",
  txB K (He.ga K "InvalidCast"),
  (He.Fa.noat "InvalidCast" "name").ok K,
  (He.Fa.noat "InvalidCast" "number").ok K,
  (He.Fa.exm "InvalidCast" "Clash" false).ok K,
  (He.Fa.exm "InvalidCast" "InvalidCast" true).ok K,
  (He.Fa.exm "InvalidCast" "NoWrite" false).ok K]
def lk7 (K : PySem.W.Frag) : List Bool := [(He.Fa.exm "InvalidCast" "UnknownWork" false).ok K,
  exB K "UnknownWork",
  txB K (He.ga K "UnknownWork"),
  (He.Fa.noat "UnknownWork" "name").ok K,
  (He.Fa.exm "UnknownWork" "Clash" false).ok K,
  (He.Fa.exm "UnknownWork" "InvalidCast" false).ok K,
  (He.Fa.exm "UnknownWork" "NoWrite" false).ok K,
  (He.Fa.exm "UnknownWork" "UnknownWork" true).ok K,
  exB K "Clash",
  txB K (He.ga K "Clash"),
  (He.Fa.noat "Clash" "name").ok K,
  (He.Fa.exm "Clash" "Clash" true).ok K,
  (He.Fa.exm "Clash" "InvalidCast" false).ok K,
  (He.Fa.exm "Clash" "NoWrite" false).ok K,
  (He.Fa.exm "Clash" "UnknownWork" false).ok K,
  exB K "NoWrite",
  txB K (He.ga K "NoWrite"),
  (He.Fa.noat "NoWrite" "number").ok K,
  (He.Fa.exm "NoWrite" "Clash" false).ok K,
  (He.Fa.exm "NoWrite" "InvalidCast" false).ok K]
def lk8 (K : PySem.W.Frag) : List Bool := [(He.Fa.exm "NoWrite" "NoWrite" true).ok K,
  (He.Fa.exm "NoWrite" "UnknownWork" false).ok K,
  exB K "WrongGap",
  txB K (He.ga K "WrongGap"),
  (He.Fa.noat "WrongGap" "gap").ok K,
  (He.Fa.exm "WrongGap" "Clash" false).ok K,
  (He.Fa.exm "WrongGap" "InvalidCast" false).ok K,
  (He.Fa.exm "WrongGap" "NoWrite" false).ok K,
  (He.Fa.exm "WrongGap" "UnknownWork" false).ok K,
  exB K "WrongLine",
  txB K (He.ga K "WrongLine"),
  (He.Fa.noat "WrongLine" "line").ok K,
  (He.Fa.exm "WrongLine" "Clash" false).ok K,
  (He.Fa.exm "WrongLine" "InvalidCast" false).ok K,
  (He.Fa.exm "WrongLine" "NoWrite" false).ok K,
  (He.Fa.exm "WrongLine" "UnknownWork" false).ok K,
  (He.Fa.mkr "Write").ok K,
  (He.Fa.meth "Write" "__init__").ok K,
  prB K (He.ga K "Write") "kind",
  prB K (He.ga K "Write") "text"]
def lk9 (K : PySem.W.Frag) : List Bool := [prB K (He.ga K "Write") "lead",
  prB K (He.ga K "Write") "tail",
  prB K (He.ga K "Write") "stays",
  (He.Fa.meth "Write" "__len__").ok K,
  (He.Fa.meth "Write" "__eq__").ok K,
  tclB K (He.ga K "Write"),
  slB K (He.ga K "Write") "mode" 2,
  slB K (He.ga K "Write") "signs" 3,
  slB K (He.ga K "Write") "ahead" 0,
  slB K (He.ga K "Write") "behind" 1,
  decide (PySem.W.kitOne K (.ref (He.ga K "Write")) (.ref (He.ga K "Cast")) = some false),
  (He.Fa.mkr "Cast").ok K,
  (He.Fa.meth "Cast" "__init__").ok K,
  prB K (He.ga K "Cast") "names",
  PySem.W.fnIn K (He.ma K (He.ga K "Cast") "__getitem__"),
  (He.Fa.meth "Cast" "__getitem__").ok K,
  (He.Fa.meth "Cast" "__contains__").ok K,
  (He.Fa.meth "Cast" "__iter__").ok K,
  (He.Fa.meth "Cast" "__len__").ok K,
  (He.Fa.meth "Cast" "__eq__").ok K]
def lk10 (K : PySem.W.Frag) : List Bool := [PySem.W.selfFirst K (He.ga K "Cast"),
  (He.Fa.meth "Cast" "__add__").ok K,
  (He.Fa.meth "Cast" "gaps").ok K,
  (He.Fa.meth "Cast" "lines").ok K,
  tclB K (He.ga K "Cast"),
  slB K (He.ga K "Cast") "table" 0,
  decide (PySem.W.kitOne K (.ref (He.ga K "Cast")) (.ref (He.ga K "Write")) = some false),
  (He.Fa.mkr "Course").ok K,
  (He.Fa.meth "Course" "__init__").ok K,
  (He.Fa.meth "Course" "start").ok K,
  (He.Fa.meth "Course" "ready").ok K,
  (He.Fa.meth "Course" "after").ok K,
  (He.Fa.meth "Course" "next_number").ok K,
  (He.Fa.meth "Course" "is_whole").ok K,
  (He.Fa.meth "Course" "count_from").ok K,
  (He.Fa.cls "Course").ok K,
  (He.Fa.noat "Course" "troupe").ok K,
  (He.Fa.noat "Course" "titles").ok K,
  (He.Fa.noat "Course" "holds").ok K,
  (He.Fa.noat "Course" "many").ok K]
def lk11 (K : PySem.W.Frag) : List Bool := [(He.Fa.mkr "Row").ok K,
  (He.Fa.meth "Row" "__init__").ok K,
  (He.Fa.meth "Row" "write_of").ok K,
  (He.Fa.meth "Row" "take_away").ok K,
  (He.Fa.meth "Row" "is_torn").ok K,
  (He.Fa.meth "Row" "look_at_leaving").ok K,
  (He.Fa.meth "Row" "leave").ok K,
  (He.Fa.meth "Row" "erase").ok K,
  (He.Fa.meth "Row" "do_word").ok K,
  (He.Fa.meth "Row" "look_at_reply").ok K,
  (He.Fa.meth "Row" "put").ok K,
  (He.Fa.meth "Row" "perform").ok K,
  (He.Fa.cls "Row").ok K,
  (He.Fa.noat "Row" "troupe").ok K,
  (He.Fa.noat "Row" "me").ok K,
  (He.Fa.noat "Row" "cells").ok K,
  (He.Fa.noat "Row" "column").ok K,
  (He.Fa.noat "Row" "is_spoilt").ok K,
  (He.Fa.mkr "Stage").ok K,
  (He.Fa.meth "Stage" "__init__").ok K]
def lk12 (K : PySem.W.Frag) : List Bool := [(He.Fa.meth "Stage" "start").ok K,
  (He.Fa.meth "Stage" "ready").ok K,
  (He.Fa.meth "Stage" "after").ok K,
  (He.Fa.meth "Stage" "is_lost").ok K,
  (He.Fa.meth "Stage" "is_end").ok K,
  (He.Fa.meth "Stage" "is_good").ok K,
  (He.Fa.cls "Stage").ok K,
  (He.Fa.noat "Stage" "troupe").ok K,
  (He.Fa.noat "Stage" "span").ok K,
  (He.Fa.noat "Stage" "course").ok K,
  (He.Fa.noat "Stage" "careful").ok K,
  (He.Fa.mkr "Desk").ok K,
  (He.Fa.meth "Desk" "__init__").ok K,
  prB K (He.ga K "Desk") "cast",
  prB K (He.ga K "Desk") "width",
  (He.Fa.meth "Desk" "is_safe").ok K,
  PySem.W.fnIn K (He.ma K (He.ga K "Desk") "__getitem__"),
  (He.Fa.meth "Desk" "__getitem__").ok K,
  PySem.W.noSeq K (He.ga K "Desk"),
  (He.Fa.meth "Desk" "__setitem__").ok K]
def lk13 (K : PySem.W.Frag) : List Bool := [(He.Fa.meth "Desk" "__iter__").ok K,
  (He.Fa.meth "Desk" "with_writes").ok K,
  (He.Fa.meth "Desk" "insert").ok K,
  (He.Fa.meth "Desk" "remove").ok K,
  (He.Fa.meth "Desk" "add").ok K,
  (He.Fa.meth "Desk" "drop").ok K,
  (He.Fa.meth "Desk" "change_to").ok K,
  (He.Fa.meth "Desk" "undo").ok K,
  (He.Fa.meth "Desk" "redo").ok K,
  (He.Fa.meth "Desk" "tell").ok K,
  (He.Fa.meth "Desk" "watch").ok K,
  (He.Fa.cls "Desk").ok K,
  (He.Fa.noat "Desk" "present").ok K,
  (He.Fa.noat "Desk" "span").ok K,
  (He.Fa.noat "Desk" "past").ok K,
  (He.Fa.noat "Desk" "later").ok K,
  (He.Fa.noat "Desk" "watchers").ok K,
  (He.Fa.noat "Desk" "told").ok K,
  (He.Fa.noat "Desk" "begun_many").ok K,
  emptB K (kwdAt ("first_garbled", none) "holds" K)]
def lk14 (K : PySem.W.Frag) : List Bool := [emptB K (kwdAt ("first_garbled", none) "careful" K),
  decide ((tfL.map fun p => (He.cT K p).2).Nodup)]
def lkL (K : PySem.W.Frag) : Bool := (lk0 K).all id && ((lk1 K).all id && ((lk2 K).all id && ((lk3 K).all id && ((lk4 K).all id && ((lk5 K).all id && ((lk6 K).all id && ((lk7 K).all id && ((lk8 K).all id && ((lk9 K).all id && ((lk10 K).all id && ((lk11 K).all id && ((lk12 K).all id && ((lk13 K).all id && ((lk14 K).all id))))))))))))))
structure Env (P : Program) (w : World) (K : PySem.W.Frag) (mg : Str → Option Value) (base : Heap) : Prop where
  lk : lkL K = true
  hp : ∃ h, K.In h ∧ h.Ns mainGlobals mg
  has : ∀ d ∈ fnL, Has K d
  hasG : ∀ d ∈ gsL, HasG K d
  tb : ∀ p ∈ tfL, LamX.TabB base mg (He.cT K p).1 (He.cT K p).2
section
variable {P : Program} {w : World} {K : PySem.W.Frag} {mg : Str → Option Value} {base : Heap}
theorem Env.lk0 (E : Env P w K mg base) : (lk0 K).all id = true := (He.ba E.lk).1
theorem Env.lk1 (E : Env P w K mg base) : (lk1 K).all id = true := (He.ba (He.ba E.lk).2).1
theorem Env.lk2 (E : Env P w K mg base) : (lk2 K).all id = true := (He.ba (He.ba (He.ba E.lk).2).2).1
theorem Env.lk3 (E : Env P w K mg base) : (lk3 K).all id = true := (He.ba (He.ba (He.ba (He.ba E.lk).2).2).2).1
theorem Env.lk4 (E : Env P w K mg base) : (lk4 K).all id = true := (He.ba (He.ba (He.ba (He.ba (He.ba E.lk).2).2).2).2).1
theorem Env.lk5 (E : Env P w K mg base) : (lk5 K).all id = true := (He.ba (He.ba (He.ba (He.ba (He.ba (He.ba E.lk).2).2).2).2).2).1
theorem Env.lk6 (E : Env P w K mg base) : (lk6 K).all id = true := (He.ba (He.ba (He.ba (He.ba (He.ba (He.ba (He.ba E.lk).2).2).2).2).2).2).1
theorem Env.lk7 (E : Env P w K mg base) : (lk7 K).all id = true := (He.ba (He.ba (He.ba (He.ba (He.ba (He.ba (He.ba (He.ba E.lk).2).2).2).2).2).2).2).1
theorem Env.lk8 (E : Env P w K mg base) : (lk8 K).all id = true := (He.ba (He.ba (He.ba (He.ba (He.ba (He.ba (He.ba (He.ba (He.ba E.lk).2).2).2).2).2).2).2).2).1
theorem Env.lk9 (E : Env P w K mg base) : (lk9 K).all id = true := (He.ba (He.ba (He.ba (He.ba (He.ba (He.ba (He.ba (He.ba (He.ba (He.ba E.lk).2).2).2).2).2).2).2).2).2).1
theorem Env.lk10 (E : Env P w K mg base) : (lk10 K).all id = true := (He.ba (He.ba (He.ba (He.ba (He.ba (He.ba (He.ba (He.ba (He.ba (He.ba (He.ba E.lk).2).2).2).2).2).2).2).2).2).2).1
theorem Env.lk11 (E : Env P w K mg base) : (lk11 K).all id = true := (He.ba (He.ba (He.ba (He.ba (He.ba (He.ba (He.ba (He.ba (He.ba (He.ba (He.ba (He.ba E.lk).2).2).2).2).2).2).2).2).2).2).2).1
theorem Env.lk12 (E : Env P w K mg base) : (lk12 K).all id = true := (He.ba (He.ba (He.ba (He.ba (He.ba (He.ba (He.ba (He.ba (He.ba (He.ba (He.ba (He.ba (He.ba E.lk).2).2).2).2).2).2).2).2).2).2).2).2).1
theorem Env.lk13 (E : Env P w K mg base) : (lk13 K).all id = true := (He.ba (He.ba (He.ba (He.ba (He.ba (He.ba (He.ba (He.ba (He.ba (He.ba (He.ba (He.ba (He.ba (He.ba E.lk).2).2).2).2).2).2).2).2).2).2).2).2).2).1
theorem Env.lk14 (E : Env P w K mg base) : (lk14 K).all id = true := (He.ba (He.ba (He.ba (He.ba (He.ba (He.ba (He.ba (He.ba (He.ba (He.ba (He.ba (He.ba (He.ba (He.ba E.lk).2).2).2).2).2).2).2).2).2).2).2).2).2).2
theorem Env.b_isinstance (E : Env P w K mg base) : mg "isinstance" = none := by
  obtain ⟨h, X, G⟩ := E.hp
  exact He.free_ok X G (all_at (E.lk0) 0 (by rfl))
theorem Env.b_str (E : Env P w K mg base) : mg "str" = none := by
  obtain ⟨h, X, G⟩ := E.hp
  exact He.free_ok X G (all_at (E.lk0) 1 (by rfl))
theorem Env.b_int (E : Env P w K mg base) : mg "int" = none := by
  obtain ⟨h, X, G⟩ := E.hp
  exact He.free_ok X G (all_at (E.lk0) 2 (by rfl))
theorem Env.b_bool (E : Env P w K mg base) : mg "bool" = none := by
  obtain ⟨h, X, G⟩ := E.hp
  exact He.free_ok X G (all_at (E.lk0) 3 (by rfl))
theorem Env.b_list (E : Env P w K mg base) : mg "list" = none := by
  obtain ⟨h, X, G⟩ := E.hp
  exact He.free_ok X G (all_at (E.lk0) 4 (by rfl))
theorem Env.b_tuple (E : Env P w K mg base) : mg "tuple" = none := by
  obtain ⟨h, X, G⟩ := E.hp
  exact He.free_ok X G (all_at (E.lk0) 5 (by rfl))
theorem Env.b_dict (E : Env P w K mg base) : mg "dict" = none := by
  obtain ⟨h, X, G⟩ := E.hp
  exact He.free_ok X G (all_at (E.lk0) 6 (by rfl))
theorem Env.b_len (E : Env P w K mg base) : mg "len" = none := by
  obtain ⟨h, X, G⟩ := E.hp
  exact He.free_ok X G (all_at (E.lk0) 7 (by rfl))
theorem Env.b_all (E : Env P w K mg base) : mg "all" = none := by
  obtain ⟨h, X, G⟩ := E.hp
  exact He.free_ok X G (all_at (E.lk0) 8 (by rfl))
theorem Env.b_sum (E : Env P w K mg base) : mg "sum" = none := by
  obtain ⟨h, X, G⟩ := E.hp
  exact He.free_ok X G (all_at (E.lk0) 10 (by rfl))
theorem Env.b_max (E : Env P w K mg base) : mg "max" = none := by
  obtain ⟨h, X, G⟩ := E.hp
  exact He.free_ok X G (all_at (E.lk0) 11 (by rfl))
theorem Env.b_min (E : Env P w K mg base) : mg "min" = none := by
  obtain ⟨h, X, G⟩ := E.hp
  exact He.free_ok X G (all_at (E.lk0) 12 (by rfl))
theorem Env.b_range (E : Env P w K mg base) : mg "range" = none := by
  obtain ⟨h, X, G⟩ := E.hp
  exact He.free_ok X G (all_at (E.lk0) 13 (by rfl))
theorem Env.b_sorted (E : Env P w K mg base) : mg "sorted" = none := by
  obtain ⟨h, X, G⟩ := E.hp
  exact He.free_ok X G (all_at (E.lk0) 14 (by rfl))
theorem Env.b_enumerate (E : Env P w K mg base) : mg "enumerate" = none := by
  obtain ⟨h, X, G⟩ := E.hp
  exact He.free_ok X G (all_at (E.lk0) 16 (by rfl))
theorem Env.g_is_text (E : Env P w K mg base) : mg "is_text" = some (.ref (He.ga K "is_text")) := by
  obtain ⟨h, X, G⟩ := E.hp
  exact He.glo_ok X G (all_at (E.lk1) 1 (by rfl))
theorem Env.g_is_name (E : Env P w K mg base) : mg "is_name" = some (.ref (He.ga K "is_name")) := by
  obtain ⟨h, X, G⟩ := E.hp
  exact He.glo_ok X G (all_at (E.lk1) 2 (by rfl))
theorem Env.g_is_one_of (E : Env P w K mg base) : mg "is_one_of" = some (.ref (He.ga K "is_one_of")) := by
  obtain ⟨h, X, G⟩ := E.hp
  exact He.glo_ok X G (all_at (E.lk1) 3 (by rfl))
theorem Env.g_look_at_writes (E : Env P w K mg base) : mg "look_at_writes" = some (.ref (He.ga K "look_at_writes")) := by
  obtain ⟨h, X, G⟩ := E.hp
  exact He.glo_ok X G (all_at (E.lk1) 5 (by rfl))
theorem Env.g_is_integer (E : Env P w K mg base) : mg "is_integer" = some (.ref (He.ga K "is_integer")) := by
  obtain ⟨h, X, G⟩ := E.hp
  exact He.glo_ok X G (all_at (E.lk1) 6 (by rfl))
theorem Env.g_look_at_width (E : Env P w K mg base) : mg "look_at_width" = some (.ref (He.ga K "look_at_width")) := by
  obtain ⟨h, X, G⟩ := E.hp
  exact He.glo_ok X G (all_at (E.lk1) 7 (by rfl))
theorem Env.g__law_mix (E : Env P w K mg base) : mg "_law_mix" = some (.ref (He.ga K "_law_mix")) := by
  obtain ⟨h, X, G⟩ := E.hp
  exact He.glo_ok X G (all_at (E.lk1) 16 (by rfl))
theorem Env.g__law_next (E : Env P w K mg base) : mg "_law_next" = some (.ref (He.ga K "_law_next")) := by
  obtain ⟨h, X, G⟩ := E.hp
  exact He.glo_ok X G (all_at (E.lk1) 17 (by rfl))
theorem Env.g__law_letters (E : Env P w K mg base) : mg "_law_letters" = some (.ref (He.ga K "_law_letters")) := by
  obtain ⟨h, X, G⟩ := E.hp
  exact He.glo_ok X G (all_at (E.lk1) 18 (by rfl))
theorem Env.g__law_one (E : Env P w K mg base) : mg "_law_one" = some (.ref (He.ga K "_law_one")) := by
  obtain ⟨h, X, G⟩ := E.hp
  exact He.glo_ok X G (all_at (E.lk1) 19 (by rfl))
theorem Env.g__law_rowof (E : Env P w K mg base) : mg "_law_rowof" = some (.ref (He.ga K "_law_rowof")) := by
  obtain ⟨h, X, G⟩ := E.hp
  exact He.glo_ok X G (all_at (E.lk2) 0 (by rfl))
theorem Env.g__law_table (E : Env P w K mg base) : mg "_law_table" = some (.ref (He.ga K "_law_table")) := by
  obtain ⟨h, X, G⟩ := E.hp
  exact He.glo_ok X G (all_at (E.lk2) 1 (by rfl))
theorem Env.g__law_bad (E : Env P w K mg base) : mg "_law_bad" = some (.ref (He.ga K "_law_bad")) := by
  obtain ⟨h, X, G⟩ := E.hp
  exact He.glo_ok X G (all_at (E.lk2) 3 (by rfl))
theorem Env.g__law_edit (E : Env P w K mg base) : mg "_law_edit" = some (.ref (He.ga K "_law_edit")) := by
  obtain ⟨h, X, G⟩ := E.hp
  exact He.glo_ok X G (all_at (E.lk2) 4 (by rfl))
theorem Env.g__law_edited (E : Env P w K mg base) : mg "_law_edited" = some (.ref (He.ga K "_law_edited")) := by
  obtain ⟨h, X, G⟩ := E.hp
  exact He.glo_ok X G (all_at (E.lk2) 5 (by rfl))
theorem Env.g__law_thing (E : Env P w K mg base) : mg "_law_thing" = some (.ref (He.ga K "_law_thing")) := by
  obtain ⟨h, X, G⟩ := E.hp
  exact He.glo_ok X G (all_at (E.lk2) 6 (by rfl))
theorem Env.g__law_done (E : Env P w K mg base) : mg "_law_done" = some (.ref (He.ga K "_law_done")) := by
  obtain ⟨h, X, G⟩ := E.hp
  exact He.glo_ok X G (all_at (E.lk2) 7 (by rfl))
theorem Env.g__law_change (E : Env P w K mg base) : mg "_law_change" = some (.ref (He.ga K "_law_change")) := by
  obtain ⟨h, X, G⟩ := E.hp
  exact He.glo_ok X G (all_at (E.lk2) 8 (by rfl))
theorem Env.g__law_built (E : Env P w K mg base) : mg "_law_built" = some (.ref (He.ga K "_law_built")) := by
  obtain ⟨h, X, G⟩ := E.hp
  exact He.glo_ok X G (all_at (E.lk2) 9 (by rfl))
theorem Env.g__law_width (E : Env P w K mg base) : mg "_law_width" = some (.ref (He.ga K "_law_width")) := by
  obtain ⟨h, X, G⟩ := E.hp
  exact He.glo_ok X G (all_at (E.lk2) 10 (by rfl))
theorem Env.g__law_write (E : Env P w K mg base) : mg "_law_write" = some (.ref (He.ga K "_law_write")) := by
  obtain ⟨h, X, G⟩ := E.hp
  exact He.glo_ok X G (all_at (E.lk2) 11 (by rfl))
theorem Env.g__law_shown (E : Env P w K mg base) : mg "_law_shown" = some (.ref (He.ga K "_law_shown")) := by
  obtain ⟨h, X, G⟩ := E.hp
  exact He.glo_ok X G (all_at (E.lk2) 12 (by rfl))
theorem Env.g__law_turned (E : Env P w K mg base) : mg "_law_turned" = some (.ref (He.ga K "_law_turned")) := by
  obtain ⟨h, X, G⟩ := E.hp
  exact He.glo_ok X G (all_at (E.lk2) 13 (by rfl))
theorem Env.g_law (E : Env P w K mg base) : mg "law" = some (.ref (He.ga K "law")) := by
  obtain ⟨h, X, G⟩ := E.hp
  exact He.glo_ok X G (all_at (E.lk2) 14 (by rfl))
theorem Env.g_InvalidCast (E : Env P w K mg base) : mg "InvalidCast" = some (.ref (He.ga K "InvalidCast")) := by
  obtain ⟨h, X, G⟩ := E.hp
  exact He.glo_ok X G (all_at (E.lk2) 18 (by rfl))
theorem Env.g_UnknownWork (E : Env P w K mg base) : mg "UnknownWork" = some (.ref (He.ga K "UnknownWork")) := by
  obtain ⟨h, X, G⟩ := E.hp
  exact He.glo_ok X G (all_at (E.lk2) 19 (by rfl))
theorem Env.g_Clash (E : Env P w K mg base) : mg "Clash" = some (.ref (He.ga K "Clash")) := by
  obtain ⟨h, X, G⟩ := E.hp
  exact He.glo_ok X G (all_at (E.lk3) 0 (by rfl))
theorem Env.g_NoWrite (E : Env P w K mg base) : mg "NoWrite" = some (.ref (He.ga K "NoWrite")) := by
  obtain ⟨h, X, G⟩ := E.hp
  exact He.glo_ok X G (all_at (E.lk3) 1 (by rfl))
theorem Env.g_Write (E : Env P w K mg base) : mg "Write" = some (.ref (He.ga K "Write")) := by
  obtain ⟨h, X, G⟩ := E.hp
  exact He.glo_ok X G (all_at (E.lk3) 4 (by rfl))
theorem Env.g_Cast (E : Env P w K mg base) : mg "Cast" = some (.ref (He.ga K "Cast")) := by
  obtain ⟨h, X, G⟩ := E.hp
  exact He.glo_ok X G (all_at (E.lk3) 5 (by rfl))
theorem Env.g_Desk (E : Env P w K mg base) : mg "Desk" = some (.ref (He.ga K "Desk")) := by
  obtain ⟨h, X, G⟩ := E.hp
  exact He.glo_ok X G (all_at (E.lk3) 9 (by rfl))
theorem Env.c_LETTERS (E : Env P w K mg base) : ∃ t, mg "LETTERS" = some (.str ("abcdefghijklmnopqrstuvwxyz") t) := by
  obtain ⟨h, X, G⟩ := E.hp
  exact He.str_ok X G (all_at (E.lk5) 4 (by rfl))
theorem Env.c_SIGNS (E : Env P w K mg base) : ∃ t, mg "SIGNS" = some (.str (Str.ofString ("abcdefghijklmnopqrstuvwxyzABCDEFGHIJKLMNOPQRSTUVWXYZ0123456789 !\"#$&'()*+,-./:;<=>?@" ++ "[\\]^_`{|}~")) t) := by
  obtain ⟨h, X, G⟩ := E.hp
  exact He.str_ok X G (all_at (E.lk5) 6 (by rfl))
theorem Env.c_ASK (E : Env P w K mg base) : ∃ t, mg "ASK" = some (.str ("ask") t) := by
  obtain ⟨h, X, G⟩ := E.hp
  exact He.str_ok X G (all_at (E.lk5) 8 (by rfl))
theorem Env.c_REPLY (E : Env P w K mg base) : ∃ t, mg "REPLY" = some (.str ("reply") t) := by
  obtain ⟨h, X, G⟩ := E.hp
  exact He.str_ok X G (all_at (E.lk5) 9 (by rfl))
theorem Env.c_KINDS (E : Env P w K mg base) : GTup K mg "KINDS" ((["say", "ask", "reply", "show"] : List Str).map D.str) := by
  obtain ⟨h, X, G⟩ := E.hp
  exact gtup_of X G (He.ba (all_at (E.lk5) 11 (by rfl))).1 (He.ba (all_at (E.lk5) 11 (by rfl))).2 rfl
theorem Env.c_LEADS (E : Env P w K mg base) : GTup K mg "LEADS" ((["", "return", "wipe", "fresh"] : List Str).map D.str) := by
  obtain ⟨h, X, G⟩ := E.hp
  exact gtup_of X G (He.ba (all_at (E.lk5) 12 (by rfl))).1 (He.ba (all_at (E.lk5) 12 (by rfl))).2 rfl
theorem Env.c_TAILS (E : Env P w K mg base) : GTup K mg "TAILS" ((["", "erase", "newline"] : List Str).map D.str) := by
  obtain ⟨h, X, G⟩ := E.hp
  exact gtup_of X G (He.ba (all_at (E.lk5) 13 (by rfl))).1 (He.ba (all_at (E.lk5) 13 (by rfl))).2 rfl
theorem Env.c_MOST_SIGNS (E : Env P w K mg base) : ∃ t, mg "MOST_SIGNS" = some (.int 40 t) := by
  obtain ⟨h, X, G⟩ := E.hp
  exact He.int_ok X G (all_at (E.lk5) 14 (by rfl))
theorem Env.c_MOST_NAME (E : Env P w K mg base) : ∃ t, mg "MOST_NAME" = some (.int 8 t) := by
  obtain ⟨h, X, G⟩ := E.hp
  exact He.int_ok X G (all_at (E.lk5) 15 (by rfl))
theorem Env.c_MOST_WORKS (E : Env P w K mg base) : ∃ t, mg "MOST_WORKS" = some (.int 6 t) := by
  obtain ⟨h, X, G⟩ := E.hp
  exact He.int_ok X G (all_at (E.lk5) 16 (by rfl))
theorem Env.c_MOST_WRITES (E : Env P w K mg base) : ∃ t, mg "MOST_WRITES" = some (.int 8 t) := by
  obtain ⟨h, X, G⟩ := E.hp
  exact He.int_ok X G (all_at (E.lk5) 17 (by rfl))
theorem Env.c_MOST_WIDTH (E : Env P w K mg base) : ∃ t, mg "MOST_WIDTH" = some (.int 99 t) := by
  obtain ⟨h, X, G⟩ := E.hp
  exact He.int_ok X G (all_at (E.lk5) 18 (by rfl))
theorem Env.x_InvalidWrite (E : Env P w K mg base) : TExc K mg "InvalidWrite" := by
  obtain ⟨h, X, G⟩ := E.hp
  exact exB_ok X G (all_at (E.lk6) 6 (by rfl))
theorem Env.f_InvalidWrite_part (E : Env P w K mg base) : PySem.W.findIn K (.ref (He.ga K "InvalidWrite")) "part" = some none := He.noat_ok (all_at (E.lk6) 8 (by rfl))
theorem Env.x_InvalidCast (E : Env P w K mg base) : TExc K mg "InvalidCast" := by
  obtain ⟨h, X, G⟩ := E.hp
  exact exB_ok X G (all_at (E.lk6) 13 (by rfl))
theorem Env.t_InvalidCast (E : Env P w K mg base) : TXf K (He.ga K "InvalidCast") := txB_ok (all_at (E.lk6) 14 (by rfl))
theorem Env.f_InvalidCast_name (E : Env P w K mg base) : PySem.W.findIn K (.ref (He.ga K "InvalidCast")) "name" = some none := He.noat_ok (all_at (E.lk6) 15 (by rfl))
theorem Env.f_InvalidCast_number (E : Env P w K mg base) : PySem.W.findIn K (.ref (He.ga K "InvalidCast")) "number" = some none := He.noat_ok (all_at (E.lk6) 16 (by rfl))
theorem Env.xm_InvalidCast_Clash (E : Env P w K mg base) : PySem.W.exmOne K (.ref (He.ga K "InvalidCast")) (.ref (He.ga K "Clash")) = some false := of_decide_eq_true (all_at (E.lk6) 17 (by rfl))
theorem Env.xm_InvalidCast_InvalidCast (E : Env P w K mg base) : PySem.W.exmOne K (.ref (He.ga K "InvalidCast")) (.ref (He.ga K "InvalidCast")) = some true := of_decide_eq_true (all_at (E.lk6) 18 (by rfl))
theorem Env.xm_InvalidCast_NoWrite (E : Env P w K mg base) : PySem.W.exmOne K (.ref (He.ga K "InvalidCast")) (.ref (He.ga K "NoWrite")) = some false := of_decide_eq_true (all_at (E.lk6) 19 (by rfl))
theorem Env.xm_InvalidCast_UnknownWork (E : Env P w K mg base) : PySem.W.exmOne K (.ref (He.ga K "InvalidCast")) (.ref (He.ga K "UnknownWork")) = some false := of_decide_eq_true (all_at (E.lk7) 0 (by rfl))
theorem Env.x_UnknownWork (E : Env P w K mg base) : TExc K mg "UnknownWork" := by
  obtain ⟨h, X, G⟩ := E.hp
  exact exB_ok X G (all_at (E.lk7) 1 (by rfl))
theorem Env.t_UnknownWork (E : Env P w K mg base) : TXf K (He.ga K "UnknownWork") := txB_ok (all_at (E.lk7) 2 (by rfl))
theorem Env.f_UnknownWork_name (E : Env P w K mg base) : PySem.W.findIn K (.ref (He.ga K "UnknownWork")) "name" = some none := He.noat_ok (all_at (E.lk7) 3 (by rfl))
theorem Env.xm_UnknownWork_Clash (E : Env P w K mg base) : PySem.W.exmOne K (.ref (He.ga K "UnknownWork")) (.ref (He.ga K "Clash")) = some false := of_decide_eq_true (all_at (E.lk7) 4 (by rfl))
theorem Env.xm_UnknownWork_NoWrite (E : Env P w K mg base) : PySem.W.exmOne K (.ref (He.ga K "UnknownWork")) (.ref (He.ga K "NoWrite")) = some false := of_decide_eq_true (all_at (E.lk7) 6 (by rfl))
theorem Env.xm_UnknownWork_UnknownWork (E : Env P w K mg base) : PySem.W.exmOne K (.ref (He.ga K "UnknownWork")) (.ref (He.ga K "UnknownWork")) = some true := of_decide_eq_true (all_at (E.lk7) 7 (by rfl))
theorem Env.x_Clash (E : Env P w K mg base) : TExc K mg "Clash" := by
  obtain ⟨h, X, G⟩ := E.hp
  exact exB_ok X G (all_at (E.lk7) 8 (by rfl))
theorem Env.t_Clash (E : Env P w K mg base) : TXf K (He.ga K "Clash") := txB_ok (all_at (E.lk7) 9 (by rfl))
theorem Env.f_Clash_name (E : Env P w K mg base) : PySem.W.findIn K (.ref (He.ga K "Clash")) "name" = some none := He.noat_ok (all_at (E.lk7) 10 (by rfl))
theorem Env.xm_Clash_Clash (E : Env P w K mg base) : PySem.W.exmOne K (.ref (He.ga K "Clash")) (.ref (He.ga K "Clash")) = some true := of_decide_eq_true (all_at (E.lk7) 11 (by rfl))
theorem Env.x_NoWrite (E : Env P w K mg base) : TExc K mg "NoWrite" := by
  obtain ⟨h, X, G⟩ := E.hp
  exact exB_ok X G (all_at (E.lk7) 15 (by rfl))
theorem Env.t_NoWrite (E : Env P w K mg base) : TXf K (He.ga K "NoWrite") := txB_ok (all_at (E.lk7) 16 (by rfl))
theorem Env.f_NoWrite_number (E : Env P w K mg base) : PySem.W.findIn K (.ref (He.ga K "NoWrite")) "number" = some none := He.noat_ok (all_at (E.lk7) 17 (by rfl))
theorem Env.xm_NoWrite_Clash (E : Env P w K mg base) : PySem.W.exmOne K (.ref (He.ga K "NoWrite")) (.ref (He.ga K "Clash")) = some false := of_decide_eq_true (all_at (E.lk7) 18 (by rfl))
theorem Env.xm_NoWrite_NoWrite (E : Env P w K mg base) : PySem.W.exmOne K (.ref (He.ga K "NoWrite")) (.ref (He.ga K "NoWrite")) = some true := of_decide_eq_true (all_at (E.lk8) 0 (by rfl))
theorem Env.xm_NoWrite_UnknownWork (E : Env P w K mg base) : PySem.W.exmOne K (.ref (He.ga K "NoWrite")) (.ref (He.ga K "UnknownWork")) = some false := of_decide_eq_true (all_at (E.lk8) 1 (by rfl))
theorem Env.m_Write (E : Env P w K mg base) : Mk K (He.ga K "Write") (He.ma K (He.ga K "Write") "__init__") := He.mkr_ok (all_at (E.lk8) 16 (by rfl))
theorem Env.p_Write_kind (E : Env P w K mg base) : PropC K (He.ga K "Write") "kind" (He.ma K (He.ga K "Write") "kind") (gtr K (He.ga K "Write") "kind") := prB_ok (all_at (E.lk8) 18 (by rfl))
theorem Env.h_Write_eq (E : Env P w K mg base) : TMeth K (He.ga K "Write") "__eq__" := tmeth_ok (all_at (E.lk9) 4 (by rfl))
theorem Env.k_Write (E : Env P w K mg base) : TCls K (He.ga K "Write") := tclB_ok (all_at (E.lk9) 5 (by rfl))
theorem Env.s_Write_mode (E : Env P w K mg base) : SlX.Slot1 K (He.ga K "Write") "mode" (He.ma K (He.ga K "Write") "mode") 2 := slB_ok (all_at (E.lk9) 6 (by rfl))
theorem Env.s_Write_signs (E : Env P w K mg base) : SlX.Slot1 K (He.ga K "Write") "signs" (He.ma K (He.ga K "Write") "signs") 3 := slB_ok (all_at (E.lk9) 7 (by rfl))
theorem Env.s_Write_ahead (E : Env P w K mg base) : SlX.Slot1 K (He.ga K "Write") "ahead" (He.ma K (He.ga K "Write") "ahead") 0 := slB_ok (all_at (E.lk9) 8 (by rfl))
theorem Env.s_Write_behind (E : Env P w K mg base) : SlX.Slot1 K (He.ga K "Write") "behind" (He.ma K (He.ga K "Write") "behind") 1 := slB_ok (all_at (E.lk9) 9 (by rfl))
theorem Env.m_Cast (E : Env P w K mg base) : Mk K (He.ga K "Cast") (He.ma K (He.ga K "Cast") "__init__") := He.mkr_ok (all_at (E.lk9) 11 (by rfl))
theorem Env.fn_Cast_getitem (E : Env P w K mg base) : PySem.W.fnIn K (He.ma K (He.ga K "Cast") "__getitem__") = true := all_at (E.lk9) 14 (by rfl)
theorem Env.h_Cast_getitem (E : Env P w K mg base) : TMeth K (He.ga K "Cast") "__getitem__" := tmeth_ok (all_at (E.lk9) 15 (by rfl))
theorem Env.h_Cast_contains (E : Env P w K mg base) : TMeth K (He.ga K "Cast") "__contains__" := tmeth_ok (all_at (E.lk9) 16 (by rfl))
theorem Env.h_Cast_eq (E : Env P w K mg base) : TMeth K (He.ga K "Cast") "__eq__" := tmeth_ok (all_at (E.lk9) 19 (by rfl))
theorem Env.k_Cast (E : Env P w K mg base) : TCls K (He.ga K "Cast") := tclB_ok (all_at (E.lk10) 4 (by rfl))
theorem Env.s_Cast_table (E : Env P w K mg base) : SlX.Slot1 K (He.ga K "Cast") "table" (He.ma K (He.ga K "Cast") "table") 0 := slB_ok (all_at (E.lk10) 5 (by rfl))
theorem Env.m_Desk (E : Env P w K mg base) : Mk K (He.ga K "Desk") (He.ma K (He.ga K "Desk") "__init__") := He.mkr_ok (all_at (E.lk12) 11 (by rfl))
theorem Env.p_Desk_cast (E : Env P w K mg base) : PropC K (He.ga K "Desk") "cast" (He.ma K (He.ga K "Desk") "cast") (gtr K (He.ga K "Desk") "cast") := prB_ok (all_at (E.lk12) 13 (by rfl))
theorem Env.p_Desk_width (E : Env P w K mg base) : PropC K (He.ga K "Desk") "width" (He.ma K (He.ga K "Desk") "width") (gtr K (He.ga K "Desk") "width") := prB_ok (all_at (E.lk12) 14 (by rfl))
theorem Env.fn_Desk_getitem (E : Env P w K mg base) : PySem.W.fnIn K (He.ma K (He.ga K "Desk") "__getitem__") = true := all_at (E.lk12) 16 (by rfl)
theorem Env.h_Desk_getitem (E : Env P w K mg base) : TMeth K (He.ga K "Desk") "__getitem__" := tmeth_ok (all_at (E.lk12) 17 (by rfl))
theorem Env.nq_Desk (E : Env P w K mg base) : PySem.W.noSeq K (He.ga K "Desk") = true := all_at (E.lk12) 18 (by rfl)
theorem Env.h_Desk_setitem (E : Env P w K mg base) : TMeth K (He.ga K "Desk") "__setitem__" := tmeth_ok (all_at (E.lk12) 19 (by rfl))
theorem Env.h_Desk_with_writes (E : Env P w K mg base) : TMeth K (He.ga K "Desk") "with_writes" := tmeth_ok (all_at (E.lk13) 1 (by rfl))
theorem Env.h_Desk_insert (E : Env P w K mg base) : TMeth K (He.ga K "Desk") "insert" := tmeth_ok (all_at (E.lk13) 2 (by rfl))
theorem Env.h_Desk_remove (E : Env P w K mg base) : TMeth K (He.ga K "Desk") "remove" := tmeth_ok (all_at (E.lk13) 3 (by rfl))
theorem Env.h_Desk_add (E : Env P w K mg base) : TMeth K (He.ga K "Desk") "add" := tmeth_ok (all_at (E.lk13) 4 (by rfl))
theorem Env.h_Desk_drop (E : Env P w K mg base) : TMeth K (He.ga K "Desk") "drop" := tmeth_ok (all_at (E.lk13) 5 (by rfl))
theorem Env.h_Desk_change_to (E : Env P w K mg base) : TMeth K (He.ga K "Desk") "change_to" := tmeth_ok (all_at (E.lk13) 6 (by rfl))
theorem Env.h_Desk_undo (E : Env P w K mg base) : TMeth K (He.ga K "Desk") "undo" := tmeth_ok (all_at (E.lk13) 7 (by rfl))
theorem Env.h_Desk_redo (E : Env P w K mg base) : TMeth K (He.ga K "Desk") "redo" := tmeth_ok (all_at (E.lk13) 8 (by rfl))
theorem Env.h_Desk_tell (E : Env P w K mg base) : TMeth K (He.ga K "Desk") "tell" := tmeth_ok (all_at (E.lk13) 9 (by rfl))
theorem Env.l_Desk (E : Env P w K mg base) : Cls K (He.ga K "Desk") := He.cls_ok (all_at (E.lk13) 11 (by rfl))
theorem Env.a_Desk_present (E : Env P w K mg base) : NoAttr K (He.ga K "Desk") "present" := He.noat_ok (all_at (E.lk13) 12 (by rfl))
theorem Env.a_Desk_span (E : Env P w K mg base) : NoAttr K (He.ga K "Desk") "span" := He.noat_ok (all_at (E.lk13) 13 (by rfl))
theorem Env.a_Desk_past (E : Env P w K mg base) : NoAttr K (He.ga K "Desk") "past" := He.noat_ok (all_at (E.lk13) 14 (by rfl))
theorem Env.a_Desk_later (E : Env P w K mg base) : NoAttr K (He.ga K "Desk") "later" := He.noat_ok (all_at (E.lk13) 15 (by rfl))
theorem Env.a_Desk_watchers (E : Env P w K mg base) : NoAttr K (He.ga K "Desk") "watchers" := He.noat_ok (all_at (E.lk13) 16 (by rfl))
theorem Env.a_Desk_told (E : Env P w K mg base) : NoAttr K (He.ga K "Desk") "told" := He.noat_ok (all_at (E.lk13) 17 (by rfl))
theorem Env.a_Desk_begun_many (E : Env P w K mg base) : NoAttr K (He.ga K "Desk") "begun_many" := He.noat_ok (all_at (E.lk13) 18 (by rfl))
theorem tnd_of {K : PySem.W.Frag} (h : lkL K = true) : (tfL.map fun p => (He.cT K p).2).Nodup := of_decide_eq_true (all_at ((He.ba (He.ba (He.ba (He.ba (He.ba (He.ba (He.ba (He.ba (He.ba (He.ba (He.ba (He.ba (He.ba (He.ba h).2).2).2).2).2).2).2).2).2).2).2).2).2).2) 1 (by rfl))
theorem in_m_InvalidWrite_init : d_m_InvalidWrite_init ∈ fnL := List.mem_of_getElem? (i := 1) rfl
theorem in_m_InvalidCast_init : d_m_InvalidCast_init ∈ fnL := List.mem_of_getElem? (i := 2) rfl
theorem in_m_UnknownWork_init : d_m_UnknownWork_init ∈ fnL := List.mem_of_getElem? (i := 3) rfl
theorem in_m_Clash_init : d_m_Clash_init ∈ fnL := List.mem_of_getElem? (i := 4) rfl
theorem in_m_NoWrite_init : d_m_NoWrite_init ∈ fnL := List.mem_of_getElem? (i := 5) rfl
theorem in_f_is_text : d_f_is_text ∈ fnL := List.mem_of_getElem? (i := 8) rfl
theorem in_f_is_name : d_f_is_name ∈ fnL := List.mem_of_getElem? (i := 9) rfl
theorem in_f_is_one_of : d_f_is_one_of ∈ fnL := List.mem_of_getElem? (i := 10) rfl
theorem in_m_Write_init : d_m_Write_init ∈ fnL := List.mem_of_getElem? (i := 11) rfl
theorem in_m_Write_eq : d_m_Write_eq ∈ fnL := List.mem_of_getElem? (i := 13) rfl
theorem in_f_look_at_writes : d_f_look_at_writes ∈ fnL := List.mem_of_getElem? (i := 15) rfl
theorem in_m_Cast_init : d_m_Cast_init ∈ fnL := List.mem_of_getElem? (i := 16) rfl
theorem in_m_Cast_getitem : d_m_Cast_getitem ∈ fnL := List.mem_of_getElem? (i := 17) rfl
theorem in_m_Cast_contains : d_m_Cast_contains ∈ fnL := List.mem_of_getElem? (i := 18) rfl
theorem in_m_Cast_eq : d_m_Cast_eq ∈ fnL := List.mem_of_getElem? (i := 21) rfl
theorem in_f_is_integer : d_f_is_integer ∈ fnL := List.mem_of_getElem? (i := 25) rfl
theorem in_f_look_at_width : d_f_look_at_width ∈ fnL := List.mem_of_getElem? (i := 26) rfl
theorem in_m_Desk_init : d_m_Desk_init ∈ fnL := List.mem_of_getElem? (i := 60) rfl
theorem in_m_Desk_getitem : d_m_Desk_getitem ∈ fnL := List.mem_of_getElem? (i := 62) rfl
theorem in_m_Desk_setitem : d_m_Desk_setitem ∈ fnL := List.mem_of_getElem? (i := 63) rfl
theorem in_m_Desk_with_writes : d_m_Desk_with_writes ∈ fnL := List.mem_of_getElem? (i := 65) rfl
theorem in_m_Desk_insert : d_m_Desk_insert ∈ fnL := List.mem_of_getElem? (i := 66) rfl
theorem in_m_Desk_remove : d_m_Desk_remove ∈ fnL := List.mem_of_getElem? (i := 67) rfl
theorem in_m_Desk_add : d_m_Desk_add ∈ fnL := List.mem_of_getElem? (i := 68) rfl
theorem in_m_Desk_drop : d_m_Desk_drop ∈ fnL := List.mem_of_getElem? (i := 69) rfl
theorem in_m_Desk_change_to : d_m_Desk_change_to ∈ fnL := List.mem_of_getElem? (i := 70) rfl
theorem in_m_Desk_undo : d_m_Desk_undo ∈ fnL := List.mem_of_getElem? (i := 71) rfl
theorem in_m_Desk_redo : d_m_Desk_redo ∈ fnL := List.mem_of_getElem? (i := 72) rfl
theorem in_m_Desk_tell : d_m_Desk_tell ∈ fnL := List.mem_of_getElem? (i := 73) rfl
theorem in_f_Lmix : d_f_Lmix ∈ fnL := List.mem_of_getElem? (i := 75) rfl
theorem in_f_Lnext : d_f_Lnext ∈ fnL := List.mem_of_getElem? (i := 76) rfl
theorem in_f_Lletters : d_f_Lletters ∈ fnL := List.mem_of_getElem? (i := 77) rfl
theorem in_f_Lone : d_f_Lone ∈ fnL := List.mem_of_getElem? (i := 78) rfl
theorem in_f_Lrowof : d_f_Lrowof ∈ fnL := List.mem_of_getElem? (i := 79) rfl
theorem in_f_Ltable : d_f_Ltable ∈ fnL := List.mem_of_getElem? (i := 80) rfl
theorem in_f_Lbad : d_f_Lbad ∈ fnL := List.mem_of_getElem? (i := 82) rfl
theorem in_f_Ledit : d_f_Ledit ∈ fnL := List.mem_of_getElem? (i := 83) rfl
theorem in_f_Ledited : d_f_Ledited ∈ fnL := List.mem_of_getElem? (i := 84) rfl
theorem in_f_Lthing : d_f_Lthing ∈ fnL := List.mem_of_getElem? (i := 85) rfl
theorem in_f_Ldone : d_f_Ldone ∈ fnL := List.mem_of_getElem? (i := 86) rfl
theorem in_f_Lchange : d_f_Lchange ∈ fnL := List.mem_of_getElem? (i := 87) rfl
theorem in_f_Lbuilt : d_f_Lbuilt ∈ fnL := List.mem_of_getElem? (i := 88) rfl
theorem in_f_Lwidth : d_f_Lwidth ∈ fnL := List.mem_of_getElem? (i := 89) rfl
theorem in_f_Lwrite : d_f_Lwrite ∈ fnL := List.mem_of_getElem? (i := 90) rfl
theorem in_f_Lshown : d_f_Lshown ∈ fnL := List.mem_of_getElem? (i := 91) rfl
theorem in_f_Lturned : d_f_Lturned ∈ fnL := List.mem_of_getElem? (i := 92) rfl
theorem in_f_law : d_f_law ∈ fnL := List.mem_of_getElem? (i := 93) rfl
theorem in_m_Write_kind : d_m_Write_kind ∈ gsL := List.mem_of_getElem? (i := 0) rfl
theorem in_m_Desk_cast : d_m_Desk_cast ∈ gsL := List.mem_of_getElem? (i := 6) rfl
theorem in_m_Desk_width : d_m_Desk_width ∈ gsL := List.mem_of_getElem? (i := 7) rfl
theorem Env.ini_InvalidWrite (E : Env P w K mg base) : ∃ fd, FnOk P w K mg base (L2.CX P w) 1 (He.ma K (He.ga K "InvalidWrite") "__init__") fd ["self", "part"] (spXIC (He.ga K "InvalidWrite") ["part"]) ∧ L2.Binds K fd ["self", "part"] [] := by
  obtain ⟨fd, F⟩ := E.has _ in_m_InvalidWrite_init
  exact ⟨fd, ok_ini1 F sc_m_InvalidWrite_init E.x_InvalidWrite.oe E.f_InvalidWrite_part (by first | exact Or.inl rfl | exact Or.inr (Or.inl rfl) | exact Or.inr (Or.inr rfl)) (by first | exact Or.inl rfl | exact Or.inr (Or.inl rfl) | exact Or.inr (Or.inr rfl)) (by decide) (by decide), F.bindsN fun _ _ _ _ _ _ us hl => match us, hl with | [_, _], _ => rfl⟩
theorem Env.ini_InvalidCast (E : Env P w K mg base) : ∃ fd, FnOk P w K mg base (L2.CX P w) 1 (He.ma K (He.ga K "InvalidCast") "__init__") fd ["self", "name", "number"] (spXIC (He.ga K "InvalidCast") ["name", "number"]) ∧ L2.Binds K fd ["self", "name", "number"] [] := by
  obtain ⟨fd, F⟩ := E.has _ in_m_InvalidCast_init
  exact ⟨fd, ok_ini2 F sc_m_InvalidCast_init E.x_InvalidCast.oe E.f_InvalidCast_name E.f_InvalidCast_number (by first | exact Or.inl rfl | exact Or.inr (Or.inl rfl) | exact Or.inr (Or.inr rfl)) (by first | exact Or.inl rfl | exact Or.inr (Or.inl rfl) | exact Or.inr (Or.inr rfl)) (by first | exact Or.inl rfl | exact Or.inr (Or.inl rfl) | exact Or.inr (Or.inr rfl)) (by decide) (by decide) (by decide) (by decide), F.bindsN fun _ _ _ _ _ _ us hl => match us, hl with | [_, _, _], _ => rfl⟩
theorem Env.ini_UnknownWork (E : Env P w K mg base) : ∃ fd, FnOk P w K mg base (L2.CX P w) 1 (He.ma K (He.ga K "UnknownWork") "__init__") fd ["self", "name"] (spXIC (He.ga K "UnknownWork") ["name"]) ∧ L2.Binds K fd ["self", "name"] [] := by
  obtain ⟨fd, F⟩ := E.has _ in_m_UnknownWork_init
  exact ⟨fd, ok_ini1 F sc_m_UnknownWork_init E.x_UnknownWork.oe E.f_UnknownWork_name (by first | exact Or.inl rfl | exact Or.inr (Or.inl rfl) | exact Or.inr (Or.inr rfl)) (by first | exact Or.inl rfl | exact Or.inr (Or.inl rfl) | exact Or.inr (Or.inr rfl)) (by decide) (by decide), F.bindsN fun _ _ _ _ _ _ us hl => match us, hl with | [_, _], _ => rfl⟩
theorem Env.ini_Clash (E : Env P w K mg base) : ∃ fd, FnOk P w K mg base (L2.CX P w) 1 (He.ma K (He.ga K "Clash") "__init__") fd ["self", "name"] (spXIC (He.ga K "Clash") ["name"]) ∧ L2.Binds K fd ["self", "name"] [] := by
  obtain ⟨fd, F⟩ := E.has _ in_m_Clash_init
  exact ⟨fd, ok_ini1 F sc_m_Clash_init E.x_Clash.oe E.f_Clash_name (by first | exact Or.inl rfl | exact Or.inr (Or.inl rfl) | exact Or.inr (Or.inr rfl)) (by first | exact Or.inl rfl | exact Or.inr (Or.inl rfl) | exact Or.inr (Or.inr rfl)) (by decide) (by decide), F.bindsN fun _ _ _ _ _ _ us hl => match us, hl with | [_, _], _ => rfl⟩
theorem Env.ini_NoWrite (E : Env P w K mg base) : ∃ fd, FnOk P w K mg base (L2.CX P w) 1 (He.ma K (He.ga K "NoWrite") "__init__") fd ["self", "number"] (spXIC (He.ga K "NoWrite") ["number"]) ∧ L2.Binds K fd ["self", "number"] [] := by
  obtain ⟨fd, F⟩ := E.has _ in_m_NoWrite_init
  exact ⟨fd, ok_ini1 F sc_m_NoWrite_init E.x_NoWrite.oe E.f_NoWrite_number (by first | exact Or.inl rfl | exact Or.inr (Or.inl rfl) | exact Or.inr (Or.inr rfl)) (by first | exact Or.inl rfl | exact Or.inr (Or.inl rfl) | exact Or.inr (Or.inr rfl)) (by decide) (by decide), F.bindsN fun _ _ _ _ _ _ us hl => match us, hl with | [_, _], _ => rfl⟩
theorem mk_f_is_text (E : Env P w K mg base) {k : Nat} {S : Spec K} (ok : ∀ fd, FunD K "is_text" "is_text" (defArgs f_is_text) (defBody f_is_text) (defScope f_is_text) [] [] (He.ga K "is_text") fd → FnOk P w K mg base (L2.CX P w) k (He.ga K "is_text") fd ["value"] (spD K S)) : Def P w K mg base "is_text" k ["value"] [] S := by
  obtain ⟨fd, F⟩ := E.has _ in_f_is_text
  exact Def.of E.g_is_text F (ok fd F) fun _ _ _ _ _ _ us hl => match us, hl with | [_], _ => rfl
theorem mk_f_is_name (E : Env P w K mg base) {k : Nat} {S : Spec K} (ok : ∀ fd, FunD K "is_name" "is_name" (defArgs f_is_name) (defBody f_is_name) (defScope f_is_name) [] [] (He.ga K "is_name") fd → FnOk P w K mg base (L2.CX P w) k (He.ga K "is_name") fd ["value"] (spD K S)) : Def P w K mg base "is_name" k ["value"] [] S := by
  obtain ⟨fd, F⟩ := E.has _ in_f_is_name
  exact Def.of E.g_is_name F (ok fd F) fun _ _ _ _ _ _ us hl => match us, hl with | [_], _ => rfl
theorem mk_f_is_one_of (E : Env P w K mg base) {k : Nat} {S : Spec K} (ok : ∀ fd, FunD K "is_one_of" "is_one_of" (defArgs f_is_one_of) (defBody f_is_one_of) (defScope f_is_one_of) [] [] (He.ga K "is_one_of") fd → FnOk P w K mg base (L2.CX P w) k (He.ga K "is_one_of") fd ["value", "words"] (spD K S)) : Def P w K mg base "is_one_of" k ["value", "words"] [] S := by
  obtain ⟨fd, F⟩ := E.has _ in_f_is_one_of
  exact Def.of E.g_is_one_of F (ok fd F) fun _ _ _ _ _ _ us hl => match us, hl with | [_, _], _ => rfl
theorem mk_m_Write_kind (E : Env P w K mg base) {k : Nat} {S : Spec K} (ok : ∀ fd, FunD K "kind" "Write.kind" (defArgs m_Write_kind) (defBody m_Write_kind) (defScope m_Write_kind) [] [] (gtr K (He.ga K "Write") "kind") fd → FnOk P w K mg base (L2.CX P w) k (gtr K (He.ga K "Write") "kind") fd ["self"] (spD K S)) : FnR P w K mg base (L2.CX P w) k (gtr K (He.ga K "Write") "kind") (spD K S) := by
  obtain ⟨fd, F⟩ := E.hasG _ in_m_Write_kind
  exact raw0 (ok fd F) (F.bindsN fun _ _ _ _ _ _ us hl => match us, hl with | [_], _ => rfl)
theorem mk_m_Write_eq (E : Env P w K mg base) {k : Nat} {S : Spec K} (ok : ∀ fd, FunD K "__eq__" "Write.__eq__" (defArgs m_Write_eq) (defBody m_Write_eq) (defScope m_Write_eq) [] [] (He.ma K (He.ga K "Write") "__eq__") fd → FnOk P w K mg base (L2.CX P w) k (He.ma K (He.ga K "Write") "__eq__") fd ["self", "other"] (spD K S)) : FnR P w K mg base (L2.CX P w) k (He.ma K (He.ga K "Write") "__eq__") (spD K S) := by
  obtain ⟨fd, F⟩ := E.has _ in_m_Write_eq
  exact raw0 (ok fd F) (F.bindsN fun _ _ _ _ _ _ us hl => match us, hl with | [_, _], _ => rfl)
theorem mk_f_look_at_writes (E : Env P w K mg base) {k : Nat} {S : Spec K} (ok : ∀ fd, FunD K "look_at_writes" "look_at_writes" (defArgs f_look_at_writes) (defBody f_look_at_writes) (defScope f_look_at_writes) [] [] (He.ga K "look_at_writes") fd → FnOk P w K mg base (L2.CX P w) k (He.ga K "look_at_writes") fd ["name", "writes"] (spD K S)) : Def P w K mg base "look_at_writes" k ["name", "writes"] [] S := by
  obtain ⟨fd, F⟩ := E.has _ in_f_look_at_writes
  exact Def.of E.g_look_at_writes F (ok fd F) fun _ _ _ _ _ _ us hl => match us, hl with | [_, _], _ => rfl
theorem mk_m_Cast_getitem (E : Env P w K mg base) {k : Nat} {S : Spec K} (ok : ∀ fd, FunD K "__getitem__" "Cast.__getitem__" (defArgs m_Cast_getitem) (defBody m_Cast_getitem) (defScope m_Cast_getitem) [] [] (He.ma K (He.ga K "Cast") "__getitem__") fd → FnOk P w K mg base (L2.CX P w) k (He.ma K (He.ga K "Cast") "__getitem__") fd ["self", "name"] (spD K S)) : FnR P w K mg base (L2.CX P w) k (He.ma K (He.ga K "Cast") "__getitem__") (spD K S) := by
  obtain ⟨fd, F⟩ := E.has _ in_m_Cast_getitem
  exact raw0 (ok fd F) (F.bindsN fun _ _ _ _ _ _ us hl => match us, hl with | [_, _], _ => rfl)
theorem mk_m_Cast_contains (E : Env P w K mg base) {k : Nat} {S : Spec K} (ok : ∀ fd, FunD K "__contains__" "Cast.__contains__" (defArgs m_Cast_contains) (defBody m_Cast_contains) (defScope m_Cast_contains) [] [] (He.ma K (He.ga K "Cast") "__contains__") fd → FnOk P w K mg base (L2.CX P w) k (He.ma K (He.ga K "Cast") "__contains__") fd ["self", "name"] (spD K S)) : FnR P w K mg base (L2.CX P w) k (He.ma K (He.ga K "Cast") "__contains__") (spD K S) := by
  obtain ⟨fd, F⟩ := E.has _ in_m_Cast_contains
  exact raw0 (ok fd F) (F.bindsN fun _ _ _ _ _ _ us hl => match us, hl with | [_, _], _ => rfl)
theorem mk_m_Cast_eq (E : Env P w K mg base) {k : Nat} {S : Spec K} (ok : ∀ fd, FunD K "__eq__" "Cast.__eq__" (defArgs m_Cast_eq) (defBody m_Cast_eq) (defScope m_Cast_eq) [] [] (He.ma K (He.ga K "Cast") "__eq__") fd → FnOk P w K mg base (L2.CX P w) k (He.ma K (He.ga K "Cast") "__eq__") fd ["self", "other"] (spD K S)) : FnR P w K mg base (L2.CX P w) k (He.ma K (He.ga K "Cast") "__eq__") (spD K S) := by
  obtain ⟨fd, F⟩ := E.has _ in_m_Cast_eq
  exact raw0 (ok fd F) (F.bindsN fun _ _ _ _ _ _ us hl => match us, hl with | [_, _], _ => rfl)
theorem mk_f_is_integer (E : Env P w K mg base) {k : Nat} {S : Spec K} (ok : ∀ fd, FunD K "is_integer" "is_integer" (defArgs f_is_integer) (defBody f_is_integer) (defScope f_is_integer) [] [] (He.ga K "is_integer") fd → FnOk P w K mg base (L2.CX P w) k (He.ga K "is_integer") fd ["value"] (spD K S)) : Def P w K mg base "is_integer" k ["value"] [] S := by
  obtain ⟨fd, F⟩ := E.has _ in_f_is_integer
  exact Def.of E.g_is_integer F (ok fd F) fun _ _ _ _ _ _ us hl => match us, hl with | [_], _ => rfl
theorem mk_f_look_at_width (E : Env P w K mg base) {k : Nat} {S : Spec K} (ok : ∀ fd, FunD K "look_at_width" "look_at_width" (defArgs f_look_at_width) (defBody f_look_at_width) (defScope f_look_at_width) [] [] (He.ga K "look_at_width") fd → FnOk P w K mg base (L2.CX P w) k (He.ga K "look_at_width") fd ["value"] (spD K S)) : Def P w K mg base "look_at_width" k ["value"] [] S := by
  obtain ⟨fd, F⟩ := E.has _ in_f_look_at_width
  exact Def.of E.g_look_at_width F (ok fd F) fun _ _ _ _ _ _ us hl => match us, hl with | [_], _ => rfl
theorem mk_m_Desk_getitem (E : Env P w K mg base) {k : Nat} {S : Spec K} (ok : ∀ fd, FunD K "__getitem__" "Desk.__getitem__" (defArgs m_Desk_getitem) (defBody m_Desk_getitem) (defScope m_Desk_getitem) [] [] (He.ma K (He.ga K "Desk") "__getitem__") fd → FnOk P w K mg base (L2.CX P w) k (He.ma K (He.ga K "Desk") "__getitem__") fd ["self", "at"] (spD K S)) : FnR P w K mg base (L2.CX P w) k (He.ma K (He.ga K "Desk") "__getitem__") (spD K S) := by
  obtain ⟨fd, F⟩ := E.has _ in_m_Desk_getitem
  exact raw0 (ok fd F) (F.bindsN fun _ _ _ _ _ _ us hl => match us, hl with | [_, _], _ => rfl)
theorem mk_m_Desk_setitem (E : Env P w K mg base) {k : Nat} {S : Spec K} (ok : ∀ fd, FunD K "__setitem__" "Desk.__setitem__" (defArgs m_Desk_setitem) (defBody m_Desk_setitem) (defScope m_Desk_setitem) [] [] (He.ma K (He.ga K "Desk") "__setitem__") fd → FnOk P w K mg base (L2.CX P w) k (He.ma K (He.ga K "Desk") "__setitem__") fd ["self", "at", "write"] (spD K S)) : FnR P w K mg base (L2.CX P w) k (He.ma K (He.ga K "Desk") "__setitem__") (spD K S) := by
  obtain ⟨fd, F⟩ := E.has _ in_m_Desk_setitem
  exact raw0 (ok fd F) (F.bindsN fun _ _ _ _ _ _ us hl => match us, hl with | [_, _, _], _ => rfl)
theorem mk_m_Desk_with_writes (E : Env P w K mg base) {k : Nat} {S : Spec K} (ok : ∀ fd, FunD K "with_writes" "Desk.with_writes" (defArgs m_Desk_with_writes) (defBody m_Desk_with_writes) (defScope m_Desk_with_writes) [] [] (He.ma K (He.ga K "Desk") "with_writes") fd → FnOk P w K mg base (L2.CX P w) k (He.ma K (He.ga K "Desk") "with_writes") fd ["self", "name", "writes"] (spD K S)) : FnR P w K mg base (L2.CX P w) k (He.ma K (He.ga K "Desk") "with_writes") (spD K S) := by
  obtain ⟨fd, F⟩ := E.has _ in_m_Desk_with_writes
  exact raw0 (ok fd F) (F.bindsN fun _ _ _ _ _ _ us hl => match us, hl with | [_, _, _], _ => rfl)
theorem mk_m_Desk_insert (E : Env P w K mg base) {k : Nat} {S : Spec K} (ok : ∀ fd, FunD K "insert" "Desk.insert" (defArgs m_Desk_insert) (defBody m_Desk_insert) (defScope m_Desk_insert) [] [] (He.ma K (He.ga K "Desk") "insert") fd → FnOk P w K mg base (L2.CX P w) k (He.ma K (He.ga K "Desk") "insert") fd ["self", "name", "number", "writes"] (spD K S)) : FnR P w K mg base (L2.CX P w) k (He.ma K (He.ga K "Desk") "insert") (spD K S) := by
  obtain ⟨fd, F⟩ := E.has _ in_m_Desk_insert
  exact raw0 (ok fd F) (F.bindsN fun _ _ _ _ _ _ us hl => match us, hl with | [_, _, _, _], _ => rfl)
theorem mk_m_Desk_add (E : Env P w K mg base) {k : Nat} {S : Spec K} (ok : ∀ fd, FunD K "add" "Desk.add" (defArgs m_Desk_add) (defBody m_Desk_add) (defScope m_Desk_add) [] [] (He.ma K (He.ga K "Desk") "add") fd → FnOk P w K mg base (L2.CX P w) k (He.ma K (He.ga K "Desk") "add") fd ["self", "name", "writes"] (spD K S)) : FnR P w K mg base (L2.CX P w) k (He.ma K (He.ga K "Desk") "add") (spD K S) := by
  obtain ⟨fd, F⟩ := E.has _ in_m_Desk_add
  exact raw0 (ok fd F) (F.bindsN fun _ _ _ _ _ _ us hl => match us, hl with | [_, _, _], _ => rfl)
theorem mk_m_Desk_drop (E : Env P w K mg base) {k : Nat} {S : Spec K} (ok : ∀ fd, FunD K "drop" "Desk.drop" (defArgs m_Desk_drop) (defBody m_Desk_drop) (defScope m_Desk_drop) [] [] (He.ma K (He.ga K "Desk") "drop") fd → FnOk P w K mg base (L2.CX P w) k (He.ma K (He.ga K "Desk") "drop") fd ["self", "name"] (spD K S)) : FnR P w K mg base (L2.CX P w) k (He.ma K (He.ga K "Desk") "drop") (spD K S) := by
  obtain ⟨fd, F⟩ := E.has _ in_m_Desk_drop
  exact raw0 (ok fd F) (F.bindsN fun _ _ _ _ _ _ us hl => match us, hl with | [_, _], _ => rfl)
theorem mk_m_Desk_change_to (E : Env P w K mg base) {k : Nat} {S : Spec K} (ok : ∀ fd, FunD K "change_to" "Desk.change_to" (defArgs m_Desk_change_to) (defBody m_Desk_change_to) (defScope m_Desk_change_to) [] [] (He.ma K (He.ga K "Desk") "change_to") fd → FnOk P w K mg base (L2.CX P w) k (He.ma K (He.ga K "Desk") "change_to") fd ["self", "cast"] (spD K S)) : FnR P w K mg base (L2.CX P w) k (He.ma K (He.ga K "Desk") "change_to") (spD K S) := by
  obtain ⟨fd, F⟩ := E.has _ in_m_Desk_change_to
  exact raw0 (ok fd F) (F.bindsN fun _ _ _ _ _ _ us hl => match us, hl with | [_, _], _ => rfl)
theorem mk_m_Desk_undo (E : Env P w K mg base) {k : Nat} {S : Spec K} (ok : ∀ fd, FunD K "undo" "Desk.undo" (defArgs m_Desk_undo) (defBody m_Desk_undo) (defScope m_Desk_undo) [] [] (He.ma K (He.ga K "Desk") "undo") fd → FnOk P w K mg base (L2.CX P w) k (He.ma K (He.ga K "Desk") "undo") fd ["self"] (spD K S)) : FnR P w K mg base (L2.CX P w) k (He.ma K (He.ga K "Desk") "undo") (spD K S) := by
  obtain ⟨fd, F⟩ := E.has _ in_m_Desk_undo
  exact raw0 (ok fd F) (F.bindsN fun _ _ _ _ _ _ us hl => match us, hl with | [_], _ => rfl)
theorem mk_m_Desk_redo (E : Env P w K mg base) {k : Nat} {S : Spec K} (ok : ∀ fd, FunD K "redo" "Desk.redo" (defArgs m_Desk_redo) (defBody m_Desk_redo) (defScope m_Desk_redo) [] [] (He.ma K (He.ga K "Desk") "redo") fd → FnOk P w K mg base (L2.CX P w) k (He.ma K (He.ga K "Desk") "redo") fd ["self"] (spD K S)) : FnR P w K mg base (L2.CX P w) k (He.ma K (He.ga K "Desk") "redo") (spD K S) := by
  obtain ⟨fd, F⟩ := E.has _ in_m_Desk_redo
  exact raw0 (ok fd F) (F.bindsN fun _ _ _ _ _ _ us hl => match us, hl with | [_], _ => rfl)
theorem mk_m_Desk_tell (E : Env P w K mg base) {k : Nat} {S : Spec K} (ok : ∀ fd, FunD K "tell" "Desk.tell" (defArgs m_Desk_tell) (defBody m_Desk_tell) (defScope m_Desk_tell) [] [] (He.ma K (He.ga K "Desk") "tell") fd → FnOk P w K mg base (L2.CX P w) k (He.ma K (He.ga K "Desk") "tell") fd ["self"] (spD K S)) : FnR P w K mg base (L2.CX P w) k (He.ma K (He.ga K "Desk") "tell") (spD K S) := by
  obtain ⟨fd, F⟩ := E.has _ in_m_Desk_tell
  exact raw0 (ok fd F) (F.bindsN fun _ _ _ _ _ _ us hl => match us, hl with | [_], _ => rfl)
theorem mk_f_Lmix (E : Env P w K mg base) {k : Nat} {S : Spec K} (ok : ∀ fd, FunD K "_law_mix" "_law_mix" (defArgs f_Lmix) (defBody f_Lmix) (defScope f_Lmix) [] [] (He.ga K "_law_mix") fd → FnOk P w K mg base (L2.CX P w) k (He.ga K "_law_mix") fd ["_law_script", "_law_seed"] (spD K S)) : Def P w K mg base "_law_mix" k ["_law_script", "_law_seed"] [] S := by
  obtain ⟨fd, F⟩ := E.has _ in_f_Lmix
  exact Def.of E.g__law_mix F (ok fd F) fun _ _ _ _ _ _ us hl => match us, hl with | [_, _], _ => rfl
theorem mk_f_Lnext (E : Env P w K mg base) {k : Nat} {S : Spec K} (ok : ∀ fd, FunD K "_law_next" "_law_next" (defArgs f_Lnext) (defBody f_Lnext) (defScope f_Lnext) [] [] (He.ga K "_law_next") fd → FnOk P w K mg base (L2.CX P w) k (He.ga K "_law_next") fd ["_law_h", "_law_bound"] (spD K S)) : Def P w K mg base "_law_next" k ["_law_h", "_law_bound"] [] S := by
  obtain ⟨fd, F⟩ := E.has _ in_f_Lnext
  exact Def.of E.g__law_next F (ok fd F) fun _ _ _ _ _ _ us hl => match us, hl with | [_, _], _ => rfl
theorem mk_f_Lletters (E : Env P w K mg base) {k : Nat} {S : Spec K} (ok : ∀ fd, FunD K "_law_letters" "_law_letters" (defArgs f_Lletters) (defBody f_Lletters) (defScope f_Lletters) [] [] (He.ga K "_law_letters") fd → FnOk P w K mg base (L2.CX P w) k (He.ga K "_law_letters") fd ["_law_h", "_law_most"] (spD K S)) : Def P w K mg base "_law_letters" k ["_law_h", "_law_most"] [] S := by
  obtain ⟨fd, F⟩ := E.has _ in_f_Lletters
  exact Def.of E.g__law_letters F (ok fd F) fun _ _ _ _ _ _ us hl => match us, hl with | [_, _], _ => rfl
theorem mk_f_Lone (E : Env P w K mg base) {k : Nat} {S : Spec K} (ok : ∀ fd, FunD K "_law_one" "_law_one" (defArgs f_Lone) (defBody f_Lone) (defScope f_Lone) [] [] (He.ga K "_law_one") fd → FnOk P w K mg base (L2.CX P w) k (He.ga K "_law_one") fd ["_law_h", "_law_form", "_law_most"] (spD K S)) : Def P w K mg base "_law_one" k ["_law_h", "_law_form", "_law_most"] [] S := by
  obtain ⟨fd, F⟩ := E.has _ in_f_Lone
  exact Def.of E.g__law_one F (ok fd F) fun _ _ _ _ _ _ us hl => match us, hl with | [_, _, _], _ => rfl
theorem mk_f_Lrowof (E : Env P w K mg base) {k : Nat} {S : Spec K} (ok : ∀ fd, FunD K "_law_rowof" "_law_rowof" (defArgs f_Lrowof) (defBody f_Lrowof) (defScope f_Lrowof) [] [] (He.ga K "_law_rowof") fd → FnOk P w K mg base (L2.CX P w) k (He.ga K "_law_rowof") fd ["_law_h", "_law_many", "_law_most"] (spD K S)) : Def P w K mg base "_law_rowof" k ["_law_h", "_law_many", "_law_most"] [] S := by
  obtain ⟨fd, F⟩ := E.has _ in_f_Lrowof
  exact Def.of E.g__law_rowof F (ok fd F) fun _ _ _ _ _ _ us hl => match us, hl with | [_, _, _], _ => rfl
theorem mk_f_Ltable (E : Env P w K mg base) {k : Nat} {S : Spec K} (ok : ∀ fd, FunD K "_law_table" "_law_table" (defArgs f_Ltable) (defBody f_Ltable) (defScope f_Ltable) [] [] (He.ga K "_law_table") fd → FnOk P w K mg base (L2.CX P w) k (He.ga K "_law_table") fd ["_law_h", "_law_works", "_law_total", "_law_most"] (spD K S)) : Def P w K mg base "_law_table" k ["_law_h", "_law_works", "_law_total", "_law_most"] [] S := by
  obtain ⟨fd, F⟩ := E.has _ in_f_Ltable
  exact Def.of E.g__law_table F (ok fd F) fun _ _ _ _ _ _ us hl => match us, hl with | [_, _, _, _], _ => rfl
theorem mk_f_Lbad (E : Env P w K mg base) {k : Nat} {S : Spec K} (ok : ∀ fd, FunD K "_law_bad" "_law_bad" (defArgs f_Lbad) (defBody f_Lbad) (defScope f_Lbad) [] [] (He.ga K "_law_bad") fd → FnOk P w K mg base (L2.CX P w) k (He.ga K "_law_bad") fd ["_law_t"] (spD K S)) : Def P w K mg base "_law_bad" k ["_law_t"] [] S := by
  obtain ⟨fd, F⟩ := E.has _ in_f_Lbad
  exact Def.of E.g__law_bad F (ok fd F) fun _ _ _ _ _ _ us hl => match us, hl with | [_], _ => rfl
theorem mk_f_Ledit (E : Env P w K mg base) {k : Nat} {S : Spec K} (ok : ∀ fd, FunD K "_law_edit" "_law_edit" (defArgs f_Ledit) (defBody f_Ledit) (defScope f_Ledit) [] [] (He.ga K "_law_edit") fd → FnOk P w K mg base (L2.CX P w) k (He.ga K "_law_edit") fd ["_law_h", "_law_t"] (spD K S)) : Def P w K mg base "_law_edit" k ["_law_h", "_law_t"] [] S := by
  obtain ⟨fd, F⟩ := E.has _ in_f_Ledit
  exact Def.of E.g__law_edit F (ok fd F) fun _ _ _ _ _ _ us hl => match us, hl with | [_, _], _ => rfl
theorem mk_f_Ledited (E : Env P w K mg base) {k : Nat} {S : Spec K} (ok : ∀ fd, FunD K "_law_edited" "_law_edited" (defArgs f_Ledited) (defBody f_Ledited) (defScope f_Ledited) [] [] (He.ga K "_law_edited") fd → FnOk P w K mg base (L2.CX P w) k (He.ga K "_law_edited") fd ["_law_t", "_law_edit_here"] (spD K S)) : Def P w K mg base "_law_edited" k ["_law_t", "_law_edit_here"] [] S := by
  obtain ⟨fd, F⟩ := E.has _ in_f_Ledited
  exact Def.of E.g__law_edited F (ok fd F) fun _ _ _ _ _ _ us hl => match us, hl with | [_, _], _ => rfl
theorem mk_f_Lthing (E : Env P w K mg base) {k : Nat} {S : Spec K} (ok : ∀ fd, FunD K "_law_thing" "_law_thing" (defArgs f_Lthing) (defBody f_Lthing) (defScope f_Lthing) [] [] (He.ga K "_law_thing") fd → FnOk P w K mg base (L2.CX P w) k (He.ga K "_law_thing") fd ["_law_one_here"] (spD K S)) : Def P w K mg base "_law_thing" k ["_law_one_here"] [] S := by
  obtain ⟨fd, F⟩ := E.has _ in_f_Lthing
  exact Def.of E.g__law_thing F (ok fd F) fun _ _ _ _ _ _ us hl => match us, hl with | [_], _ => rfl
theorem mk_f_Ldone (E : Env P w K mg base) {k : Nat} {S : Spec K} (ok : ∀ fd, FunD K "_law_done" "_law_done" (defArgs f_Ldone) (defBody f_Ldone) (defScope f_Ldone) [] [] (He.ga K "_law_done") fd → FnOk P w K mg base (L2.CX P w) k (He.ga K "_law_done") fd ["_law_d", "_law_edit_here"] (spD K S)) : Def P w K mg base "_law_done" k ["_law_d", "_law_edit_here"] [] S := by
  obtain ⟨fd, F⟩ := E.has _ in_f_Ldone
  exact Def.of E.g__law_done F (ok fd F) fun _ _ _ _ _ _ us hl => match us, hl with | [_, _], _ => rfl
theorem mk_f_Lchange (E : Env P w K mg base) {k : Nat} {S : Spec K} (ok : ∀ fd, FunD K "_law_change" "_law_change" (defArgs f_Lchange) (defBody f_Lchange) (defScope f_Lchange) [] [] (He.ga K "_law_change") fd → FnOk P w K mg base (L2.CX P w) k (He.ga K "_law_change") fd ["_law_d", "_law_edit_here"] (spD K S)) : Def P w K mg base "_law_change" k ["_law_d", "_law_edit_here"] [] S := by
  obtain ⟨fd, F⟩ := E.has _ in_f_Lchange
  exact Def.of E.g__law_change F (ok fd F) fun _ _ _ _ _ _ us hl => match us, hl with | [_, _], _ => rfl
theorem mk_f_Lbuilt (E : Env P w K mg base) {k : Nat} {S : Spec K} (ok : ∀ fd, FunD K "_law_built" "_law_built" (defArgs f_Lbuilt) (defBody f_Lbuilt) (defScope f_Lbuilt) [] [] (He.ga K "_law_built") fd → FnOk P w K mg base (L2.CX P w) k (He.ga K "_law_built") fd ["_law_t"] (spD K S)) : Def P w K mg base "_law_built" k ["_law_t"] [] S := by
  obtain ⟨fd, F⟩ := E.has _ in_f_Lbuilt
  exact Def.of E.g__law_built F (ok fd F) fun _ _ _ _ _ _ us hl => match us, hl with | [_], _ => rfl
theorem mk_f_Lwidth (E : Env P w K mg base) {k : Nat} {S : Spec K} (ok : ∀ fd, FunD K "_law_width" "_law_width" (defArgs f_Lwidth) (defBody f_Lwidth) (defScope f_Lwidth) [] [] (He.ga K "_law_width") fd → FnOk P w K mg base (L2.CX P w) k (He.ga K "_law_width") fd ["_law_h"] (spD K S)) : Def P w K mg base "_law_width" k ["_law_h"] [] S := by
  obtain ⟨fd, F⟩ := E.has _ in_f_Lwidth
  exact Def.of E.g__law_width F (ok fd F) fun _ _ _ _ _ _ us hl => match us, hl with | [_], _ => rfl
theorem mk_f_Lwrite (E : Env P w K mg base) {k : Nat} {S : Spec K} (ok : ∀ fd, FunD K "_law_write" "_law_write" (defArgs f_Lwrite) (defBody f_Lwrite) (defScope f_Lwrite) [] [] (He.ga K "_law_write") fd → FnOk P w K mg base (L2.CX P w) k (He.ga K "_law_write") fd ["_law_d", "_law_name", "_law_k"] (spD K S)) : Def P w K mg base "_law_write" k ["_law_d", "_law_name", "_law_k"] [] S := by
  obtain ⟨fd, F⟩ := E.has _ in_f_Lwrite
  exact Def.of E.g__law_write F (ok fd F) fun _ _ _ _ _ _ us hl => match us, hl with | [_, _, _], _ => rfl
theorem mk_f_Lshown (E : Env P w K mg base) {k : Nat} {S : Spec K} (ok : ∀ fd, FunD K "_law_shown" "_law_shown" (defArgs f_Lshown) (defBody f_Lshown) (defScope f_Lshown) [] [] (He.ga K "_law_shown") fd → FnOk P w K mg base (L2.CX P w) k (He.ga K "_law_shown") fd ["_law_d", "_law_t", "_law_w"] (spD K S)) : Def P w K mg base "_law_shown" k ["_law_d", "_law_t", "_law_w"] [] S := by
  obtain ⟨fd, F⟩ := E.has _ in_f_Lshown
  exact Def.of E.g__law_shown F (ok fd F) fun _ _ _ _ _ _ us hl => match us, hl with | [_, _, _], _ => rfl
theorem mk_f_Lturned (E : Env P w K mg base) {k : Nat} {S : Spec K} (ok : ∀ fd, FunD K "_law_turned" "_law_turned" (defArgs f_Lturned) (defBody f_Lturned) (defScope f_Lturned) [] [] (He.ga K "_law_turned") fd → FnOk P w K mg base (L2.CX P w) k (He.ga K "_law_turned") fd ["_law_d", "_law_t", "_law_past", "_law_later", "_law_back"] (spD K S)) : Def P w K mg base "_law_turned" k ["_law_d", "_law_t", "_law_past", "_law_later", "_law_back"] [] S := by
  obtain ⟨fd, F⟩ := E.has _ in_f_Lturned
  exact Def.of E.g__law_turned F (ok fd F) fun _ _ _ _ _ _ us hl => match us, hl with | [_, _, _, _, _], _ => rfl
end
end LK
set_option Elab.async false
set_option linter.all false
set_option maxRecDepth 100000
set_option maxHeartbeats 4000000
namespace DL
open PySem PySem.Spec PyProof.Rows L2
def behF (g : Addr → Option Obj) (a : Addr) : List Addr := match g a with
  | some ⟨_, _, .func fd, _⟩ => He.refV fd.code ++ ((He.refV fd.defaults ++ He.refV fd.kwdefaults).flatMap fun b => b :: (match g b with
    | some o => He.refsO o
    | none => []))
  | _ => []
def behM (g : Addr → Option Obj) (a : Addr) : List Addr := match g a with
  | some ⟨_, _, .func _, _⟩ => a :: behF g a
  | some ⟨_, _, .fields vs, _⟩ => a :: ((vs.toList.flatMap He.refV).flatMap fun b => b :: behF g b)
  | some _ => [a]
  | none => []
def behG (g : Addr → Option Obj) (a : Addr) : List Addr := match g a with
  | some ⟨_, _, .func _, _⟩ => behF g a
  | some ⟨_, _, .cls cd, _⟩ => cd.ns :: (match g cd.ns with
    | some o => (He.refsO o).flatMap (behM g)
    | none => [])
  | _ => []
def topG (g : Addr → Option Obj) : List Addr := match g mainGlobals with
  | some o => He.refsO o
  | none => []
def asS (g : Addr → Option Obj) : List Addr := mainGlobals :: (topG g ++ (topG g).flatMap (behG g))
def KS (g : Addr → Option Obj) : PySem.W.Frag := He.frT g (asS g)
def obsS (fn gs : List He.DefD) (tf : List He.Defn) (ex : PySem.W.Frag → Bool) (g : Addr → Option Obj) : AlP := ((He.obsT [] fn [] (KS g), exP gs ex (KS g) && He.tabsB g tf (KS g)), gs.map fun d => fnP (KS g) d.at_)
structure SaysS (fn gs : List He.DefD) (tf : List He.Defn) (ex : PySem.W.Frag → Bool) (w : World) (h : Heap) (K : PySem.W.Frag) : Prop where
  x : He.SaysX [] fn [] tf (exP gs ex) w h K
  g : (gs.map fun d => fnP K d.at_) = gs.map He.DefD.val
theorem SaysS.p {fn gs : List He.DefD} {tf : List He.Defn} {ex : PySem.W.Frag → Bool} {w : World} {h : Heap} {K : PySem.W.Frag} (c : SaysS fn gs tf ex w h K) : SaysP fn gs ex w h K := ⟨⟨c.x.t, c.x.more, (fun _ z => nomatch z), (fun _ z => nomatch z), (fun _ z => nomatch z)⟩, c.g⟩
theorem saysS_of {fn gs : List He.DefD} {tf : List He.Defn} {ex : PySem.W.Frag → Bool} {w : World} {h : Heap} (e : obsS fn gs tf ex h.get? = ((He.valT fn [] w, true), gs.map He.DefD.val)) : SaysS fn gs tf ex w h (KS h.get?) := by
  have e1 : He.obsT [] fn [] (KS h.get?) = He.valT fn [] w := congrArg (fun z : AlP => z.1.1) e
  have e2 : (exP gs ex (KS h.get?) && He.tabsB h.get? tf (KS h.get?)) = true := congrArg (fun z : AlP => z.1.2) e
  have e3 : (gs.map fun d => fnP (KS h.get?) d.at_) = gs.map He.DefD.val := congrArg (fun z : AlP => z.2) e
  obtain ⟨h1, h2⟩ := He.ba e2
  have key : ∀ p ∈ tf, PySem.W.codeHdIn (KS h.get?) (He.cT (KS h.get?) p).1 (He.cT (KS h.get?) p).2 = true ∧ ∃ o, h.get? (He.cT (KS h.get?) p).2 = some o ∧ He.emptyTab o = true := fun p hp => by
    obtain ⟨q1, q2⟩ := He.ba (List.all_eq_true.mp h2 p hp)
    cases q : h.get? (He.cT (KS h.get?) p).2 with
    | none => rw [q] at q2; cases q2
    | some o => rw [q] at q2; exact ⟨q1, o, rfl, q2⟩
  refine ⟨⟨e1, h1, fun p hp => (key p hp).1, fun p hp => ?_, fun p hp => ?_⟩, e3⟩
  · obtain ⟨_, o, q, z⟩ := key p hp
    exact He.frT_none q z
  · obtain ⟨_, o, q, z⟩ := key p hp
    rw [q, He.emptyTab_eq z]
def hookS (fn gs : List He.DefD) (tf : List He.Defn) (ex : PySem.W.Frag → Bool) : PySem.W.Hook where
  α := AlP
  obs := fun s => obsS fn gs tf ex s.heap.get?
  val := fun w => ((He.valT fn [] w, true), gs.map He.DefD.val)
  says := fun w h => ∃ K : PySem.W.Frag, K.In h ∧ SaysS fn gs tf ex w h K
  of := fun _ _ e => ⟨_, He.frT_in, saysS_of e⟩
  keeps := fun _ _ _ ⟨K, hK, c⟩ k => ⟨K, PySem.W.Frag.In.keeps hK k, ⟨⟨c.x.t, c.x.more, c.x.hd, c.x.out, fun p hp => k _ _ (c.x.empty p hp)⟩, c.g⟩⟩
theorem obsS_eq {fn gs : List He.DefD} {tf : List He.Defn} {ex : PySem.W.Frag → Bool} {g : Addr → Option Obj} {s : Shared} (h : ∀ a, g a = s.heap.get? a) : obsS fn gs tf ex g = (show AlP from (hookS fn gs tf ex).obs s) := by
  have e : g = s.heap.get? := funext h
  rw [e]; rfl
end DL
set_option Elab.async false
set_option linter.all false
set_option maxRecDepth 100000
set_option maxHeartbeats 0
namespace LK
open PySem PySem.Spec PyProof.Rows L2 DL
abbrev Rr : PySem.W.OpenRow := PySem.W.OpenLaw.row PySem.Challenge.rw_linesharing_k37_desks_changed
def fn : List He.DefD := fnL
def gs : List He.DefD := gsL
def ex (K : PySem.W.Frag) : Bool := lkL K
abbrev hk : PySem.W.Hook := hookS fn gs tfL ex
def ob (s : PySem.W.SharedT) : AlP := obsS fn gs tfL ex (HandSHeadRun.getT s)
theorem ob_eq (s : PySem.W.SharedT) : ob s = hk.obs s.abs := obsS_eq (HandSHeadRun.getT_eq s)
def loose0 : List Str := ["_wall", "LineError", "InvalidWidth", "InvalidWrite", "InvalidCast", "UnknownWork", "Clash", "NoWrite", "WrongGap", "WrongLine", "LETTERS", "FIGURES", "SIGNS", "SAY", "ASK", "REPLY", "SHOW", "KINDS", "LEADS", "TAILS", "MOST_SIGNS", "MOST_NAME", "MOST_WORKS", "MOST_WRITES", "is_text", "is_name", "is_one_of", "Write", "is_plain", "look_at_writes"]
def loose1 : List Str := ["Cast", "MOST_WIDTH", "is_integer", "look_at_width", "is_pair", "holds_of", "lines_of", "Course", "Row", "Stage", "stage_of", "tallied", "after_all", "first_with", "first_garbled", "Desk", "_law_mix", "_law_next", "_law_letters", "_law_one", "_law_rowof", "_law_table", "_law_gapsof", "_law_bad", "_law_edit", "_law_edited", "_law_thing", "_law_done", "_law_change", "_law_built"]
def loose2 : List Str := ["_law_width", "_law_write", "_law_shown", "_law_turned"]
def loose : List Str := loose0 ++ loose1 ++ loose2
section
open PySem PySem.W HandSHeadRun
theorem join3 {α β1 β2 γ δ ε : Type} {o : Option α} {a1 : α → β1} {a2 : α → β2} {b : α → γ} {c : α → δ} {e : α → ε} {x1 : β1} {x2 : β2} {y1 : γ} {y2 : δ} {y3 : ε} (h1 : o.map (fun s => (a1 s, a2 s)) = some (x1, x2)) (h2 : o.map b = some y1) (h3 : o.map (fun s => (c s, e s)) = some (y2, y3)) : o.map (fun s => (a1 s, a2 s, ((b s, c s), e s))) = some (x1, x2, ((y1, y2), y3)) := by
  cases o with
  | none => cases h1
  | some s =>
    have e1 := Option.some.inj h1
    have e2 := Option.some.inj h2
    have e3 := Option.some.inj h3
    have f1 := congrArg Prod.fst e1
    have f2 := congrArg Prod.snd e1
    have f3 := congrArg Prod.fst e3
    have f4 := congrArg Prod.snd e3
    exact congrArg some (Prod.ext f1 (Prod.ext f2 (Prod.ext (Prod.ext e2 f3) f4)))
noncomputable def EN (w : World) (os : PySem.OsState) : Option PySem.W.SharedT := HandSHeadRun.endF (HandSHeadRun.stepQ (HandSHeadRun.denQ HandSHeadRun.tabQ) Rr.prog w) 30000 Rr.prog w os
theorem run_a (w : World) (os : PySem.OsState) : (EN w os).map (fun s => (HandSHeadRun.looksF Rr.prog (boot_heap w.params) s.abs, HandSHeadRun.seenQ (PySem.W.view Rr.prog [72]) loose (importedModules Rr.prog.main.body) (fun s => xlAt (PySem.W.view Rr.prog [72]) [] s && recOk Rr.toRowW.records s) s.abs)) = some (true, openGood (PySem.W.view Rr.prog [72]) loose) := by kernel_rfl
theorem run_b (w : World) (os : PySem.OsState) : (EN w os).map (fun s => He.obsT [] fn [] (KS (HandSHeadRun.getT s))) = some (He.valT fn [] w) := by kernel_rfl
theorem run_c (w : World) (os : PySem.OsState) : (EN w os).map (fun s => (exP gs ex (KS (HandSHeadRun.getT s)) && He.tabsB (HandSHeadRun.getT s) tfL (KS (HandSHeadRun.getT s)), gs.map fun d => fnP (KS (HandSHeadRun.getT s)) d.at_)) = some (true, gs.map He.DefD.val) := by kernel_rfl
theorem run (w : World) : HandSHeadRun.RunEq Rr (PySem.W.view Rr.prog [72]) hk ob 30000 loose w := fun os => join3 (run_a w os) (run_b w os) (run_c w os)
end
end LK
set_option Elab.async false
set_option linter.all false
set_option maxRecDepth 100000
set_option maxHeartbeats 1000000
namespace LK
open PySem PySem.Spec PyProof.Rows L2 DL
abbrev SIGNS : Str := Str.ofString ("abcdefghijklmnopqrstuvwxyzABCDEFGHIJKLMNOPQRSTUVWXYZ0123456789 !\"#$&'()*+,-./:;<=>?@" ++ "[\\]^_`{|}~")
abbrev kinds : List Str := ["say", "ask", "reply", "show"]
abbrev leads : List Str := ["", "return", "wipe", "fresh"]
abbrev tails : List Str := ["", "erase", "newline"]
abbrev cW (K : PySem.W.Frag) : Addr := He.ga K "Write"
section
variable {X : Cx} {W : WX} {es : List Expr} {e : Expr} {δ : DEnv} {I : Iv X.K} {κ : Ko X.K} {pos p pos2 : Pos} {x : Str} {ps ks : List Str}
theorem s_rz (tk : Takes X W) (T : TExc X.K X.mg x) (F1 : ∃ fd, FnOk X.prog X.w X.K X.mg X.base (L2.CX X.prog X.w) 1 (He.ma X.K (He.ga X.K x) "__init__") fd ps (spXIC (He.ga X.K x) ks) ∧ L2.Binds X.K fd ps []) (hr : Room 2 X.A)
    (h : EvA X W (κ.r δ) (e :: es) δ I fun ds I1 => ks.length = ds.length ∧ ds.length ≤ 10 ∧ κ.ex (He.ga X.K x) (ks.zip ds).reverse δ I1) (hc : X.calm = true := by rfl) (hg : Gl X x := by rfl) (hdb : (x == ("__debug__" : Str)) = false := by decide)
    (he : starEach (e :: es) X.env = (false, eval e X.env) :: starEach es X.env := by rfl) (hpl : (backTo pos (starEach es X.env)).any (·.1) = false := by rfl) : S1 X W (.Raise (some (.Call (.Name x p) (e :: es) [] pos)) none pos2) δ I κ := by
  obtain ⟨fd, F, b⟩ := F1
  exact s_raise tk T.oe T.iC T.tI F hr b T.g h hc hg hdb he hpl
end
def isTextD : D → Bool
  | .str s => decide (s.length ≤ 40) && s.cps.toList.all fun c => decide (c ∈ SIGNS.cps.toList)
  | _ => false
def okV (d : D) : Prop := (∃ t, tyD d = some t) ∧ ∀ s, d = .str s → s.length ≤ 100000
def sIsText {K : PySem.W.Frag} : Spec K := fun I ds P _ => ∃ d, ds = [d] ∧ okV d ∧ P (.bl (isTextD d)) I
section
variable {P : Program} {w : World} {K : PySem.W.Frag} {mg : Str → Option Value} {base : Heap} {f : Addr} {fd : FuncData}
theorem ok_is_text (F : FnP K "is_text" "is_text" f_is_text f fd) (E : Env P w K mg base) : FnOk P w K mg base (L2.CX P w) 1 f fd ["value"] (spD K sIsText) := by
  refine fn_d F sc_f_is_text (fun I ds P R h => by obtain ⟨d, rfl, _⟩ := h; rfl) fun cdv A outer s H EE hr tk po I ds Q R h => ?_
  obtain ⟨d, rfl, ⟨⟨t, ht⟩, hz⟩, q⟩ := h
  have nd := sc_f_is_text.nd
  rcases str_or d ht with ⟨z, rfl⟩ | ⟨hk, hn⟩
  · have hl := hz z rfl
    refine s_cons (s_ifP (ptw (ww_or (ptn (pt_v (pv_cb call_isi E.b_isinstance (va_cons (pv_v 0) (va_cons (pv_gty (n := "str") E.b_str) va_nil)) (pn_isiT (t := "str") rfl)))) fun _ => ww_or1 (pt_cmp op_gt (pv_cb call_len_str E.b_len (va_cons (pv_v 0) va_nil) (pn_lenS hl)) (pv_gint E.c_MOST_SIGNS) p2_gt))) (fun e => ?_) fun e => ?_)
    · refine s_one (s_retP pv_bl ?_)
      have e2 : (40 : Int) < z.length := by simpa using e
      have e3 : isTextD (.str z) = false := by simp [isTextD]; omega
      rw [← e3]; exact q
    · refine s_nil ?_
      have e2 : ¬ (40 : Int) < z.length := by simpa using e
      have el : D.lst ((z.cps.toList.map fun c => D.str ⟨#[c]⟩).map fun d => .bl (match d with | .str s => decide (s.cps.toList.headD 0 ∈ SIGNS.cps.toList) | _ => false)) = .lst ((z.cps.toList.map fun c => decide (c ∈ SIGNS.cps.toList)).map D.bl) := by
        rw [List.map_map, List.map_map]; rfl
      refine s_one (s_retP (pv_cb (cr_all rfl) E.b_all (va_cons ((pv_lcMap _ [("sign", 1)] (fun d => [some (.str z), some d]) (vi_str (pv_v 0)) (by rw [List.length_map, Array.length_toList]; exact Nat.le_trans hl (by decide)) (fun d s H C cl fp => bind_name 1) fun d hd J s H C cl fp => ?_).is el) va_nil) pn_all) ?_)
      · obtain ⟨c, hc, rfl⟩ := List.mem_map.mp hd
        exact pv_cmp op_signIn (pv_v 1) (pv_gstr E.c_SIGNS) p2_signIn
      · have e3 : isTextD (.str z) = (z.cps.toList.map fun c => decide (c ∈ SIGNS.cps.toList)).all id := by
          have e4 : (40 : Nat) ≥ z.length := by omega
          simp only [isTextD, List.all_map]
          rw [decide_eq_true e4, Bool.true_and]
          rfl
        rw [← e3]; exact q
  · have e3 : isTextD d = false := by
      cases d <;> first | rfl | exact absurd rfl (hn _)
    refine s_cons (s_ifT (ptw (ww_orT (ptn (k := false) (pt_v (pv_cb call_isi E.b_isinstance (va_cons (pv_v 0) (va_cons (pv_gty (n := "str") E.b_str) va_nil)) (pn_isiF ht hk)))))) (s_one (s_retP pv_bl ?_)))
    rw [← e3]
    exact q
def isOneD (d : D) (ws : List Str) : Bool := match d with
  | .str s => decide (s ∈ ws)
  | _ => false
def sIsOne {K : PySem.W.Frag} : Spec K := fun I ds P _ => ∃ d ws, ds = [d, .tup (List.map D.str ws)] ∧ okV d ∧ P (.bl (isOneD d ws)) I
theorem ok_is_one_of (F : FnP K "is_one_of" "is_one_of" f_is_one_of f fd) (E : Env P w K mg base) : FnOk P w K mg base (L2.CX P w) 1 f fd ["value", "words"] (spD K sIsOne) := by
  refine fn_d F sc_f_is_one_of (fun I ds P R h => by obtain ⟨d, ws, rfl, _⟩ := h; rfl) fun cdv A outer s H EE hr tk po I ds Q R h => ?_
  obtain ⟨d, ws, rfl, ⟨⟨t, ht⟩, hz⟩, q⟩ := h
  rcases str_or d ht with ⟨z, rfl⟩ | ⟨hk, hn⟩
  · exact s_one (s_retP (pv_andT (pv_cb call_isi E.b_isinstance (va_cons (pv_v 0) (va_cons (pv_gty (n := "str") E.b_str) va_nil)) (pn_isiT (t := "str") rfl)) (pv_one (pv_cmp op_in_seq (pv_v 0) (pv_v 1) p2_inStr))) q)
  · have e3 : isOneD d ws = false := by
      cases d <;> first | rfl | exact absurd rfl (hn _)
    rw [e3] at q
    exact s_one (s_retP (pv_andF (pv_cb call_isi E.b_isinstance (va_cons (pv_v 0) (va_cons (pv_gty (n := "str") E.b_str) va_nil)) (pn_isiF ht hk))) q)
end
def isOneT (d : D) (s : Str) : Bool := match d with
  | .str z => decide (z = s)
  | _ => false
def wFault (k t l e : D) : Option Str :=
  if (!isOneD k kinds) = true then some ("kind" : Str) else
  if (!isTextD t || (isOneT t "" && isOneD k ["ask", "reply"])) = true then some ("text" : Str) else
  if (!isOneD l leads || (!isOneT l "" && isOneT k "reply")) = true then some ("lead" : Str) else
  if (!isOneD e tails || (!isOneT e "" && isOneT k "ask")) = true then some ("tail" : Str) else none
def sWInit {K : PySem.W.Frag} : Spec K := fun I ds P R => ∃ (x dx : Addr) (J : Iv K) (k t l e : D), ds = [.adr x, k, t, l, e] ∧ I = J.and (iSl K x (He.ga K "Write") dx []) ∧ okV k ∧ okV t ∧ okV l ∧ okV e ∧
  match wFault k t l e with
  | none => P .non (J.and (iSl K x (He.ga K "Write") dx [some l, some e, some k, some t]))
  | some part => R (He.ga K "InvalidWrite") [("part", .str part)] I
theorem isOneD_str {d : D} {ws : List Str} (h : isOneD d ws = true) : ∃ z, d = .str z := by
  cases d with
  | str z => exact ⟨z, rfl⟩
  | _ => cases h
theorem isTextD_str {d : D} (h : isTextD d = true) : ∃ z, d = .str z := by
  cases d with
  | str z => exact ⟨z, rfl⟩
  | _ => cases h
section
variable {P : Program} {w : World} {K : PySem.W.Frag} {mg : Str → Option Value} {base : Heap} {f : Addr} {fd : FuncData}
theorem ok_wInit {dvs : List V} {kws : List (Str × V)} (F : FunD K "__init__" "Write.__init__" (defArgs m_Write_init) (defBody m_Write_init) (defScope m_Write_init) dvs kws f fd) (E : Env P w K mg base)
    (DT : Def P w K mg base "is_text" 1 ["value"] [] sIsText) (DO : Def P w K mg base "is_one_of" 1 ["value", "words"] [] sIsOne) :
    FnOk P w K mg base (L2.CX P w) 3 f fd ["self", "kind", "text", "lead", "tail"] (spD K sWInit) := by
  refine fn_d F sc_m_Write_init (fun I ds P R h => by obtain ⟨x, dx, J, k, t, l, e, rfl, _⟩ := h; rfl) fun cdv A outer s H EE hr tk po I ds Q R h => ?_
  obtain ⟨x, dx, J, k, t, l, e, rfl, rfl, hk, ht, hl, he, q⟩ := h
  have nd := sc_m_Write_init.nd
  have hr1 : Room 1 _ := hr.mono (by decide)
  -- the kind
  refine s_cons (s_ifP (ptn (pt_v (pv_def DO hr1 (va_cons (pv_v 1) (va_cons (pv_gtup E.c_KINDS) va_nil)) fun P p => ⟨_, _, rfl, hk, p⟩))) (fun e1 => ?_) fun e1 => s_nil ?_)
  · refine s_one (s_rz tk E.x_InvalidWrite E.ini_InvalidWrite (hr.mono (by decide)) (ea_cons (pv_str _ _ _ (ea_nil ⟨rfl, by decide, ?_⟩))))
    have ef : wFault k t l e = some ("kind" : Str) := by unfold wFault; rw [if_pos e1]
    rw [ef] at q
    exact q
  have e1' : isOneD k kinds = true := by simpa using e1
  obtain ⟨zk, rfl⟩ := isOneD_str e1'
  -- the text
  refine s_cons (s_ifP (b := (!isTextD t || (isOneT t "" && isOneD (.str zk) ["ask", "reply"]))) (ptw (ww_or (ptn (pt_v (pv_def DT hr1 (va_cons (pv_v 2) va_nil) fun P p => ⟨_, rfl, ht, p⟩))) fun e2 => ?_)) (fun e2 => ?_) fun e2 => s_nil ?_)
  · have e2' : isTextD t = true := by simpa using e2
    obtain ⟨zt, rfl⟩ := isTextD_str e2'
    exact ww_or1 (ptw (ww_and (pt_cmp op_eq (pv_v 2) pv_str (eqV_str _ _)) fun _ => ww_and1 (pt_cmp op_in_seq (pv_v 1) (pv_tup (va_cons (pv_gstr E.c_ASK) (va_cons (pv_gstr E.c_REPLY) va_nil))) (p2_inStr (ws := ["ask", "reply"])))))
  · refine s_one (s_rz tk E.x_InvalidWrite E.ini_InvalidWrite (hr.mono (by decide)) (ea_cons (pv_str _ _ _ (ea_nil ⟨rfl, by decide, ?_⟩))))
    have ef : wFault (.str zk) t l e = some ("text" : Str) := by unfold wFault; rw [if_neg (by rw [e1']; simp), if_pos e2]
    rw [ef] at q
    exact q
  have e2' : isTextD t = true := by
    cases h : isTextD t with
    | true => rfl
    | false => rw [h] at e2; simp at e2
  obtain ⟨zt, rfl⟩ := isTextD_str e2'
  -- the lead
  refine s_cons (s_ifP (b := (!isOneD l leads || (!isOneT l "" && isOneT (.str zk) "reply"))) (ptw (ww_or (ptn (pt_v (pv_def DO hr1 (va_cons (pv_v 3) (va_cons (pv_gtup E.c_LEADS) va_nil)) fun P p => ⟨_, _, rfl, hl, p⟩))) fun e3 => ?_)) (fun e3 => ?_) fun e3 => s_nil ?_)
  · have e3' : isOneD l leads = true := by simpa using e3
    obtain ⟨zl, rfl⟩ := isOneD_str e3'
    exact ww_or1 (ptw (ww_and (pt_cmp op_ne (pv_v 3) pv_str (neV_str _ _)) fun _ => ww_and1 (pt_cmp op_eq (pv_v 1) (pv_gstr E.c_REPLY) (eqV_str _ _))))
  · refine s_one (s_rz tk E.x_InvalidWrite E.ini_InvalidWrite (hr.mono (by decide)) (ea_cons (pv_str _ _ _ (ea_nil ⟨rfl, by decide, ?_⟩))))
    have ef : wFault (.str zk) (.str zt) l e = some ("lead" : Str) := by unfold wFault; rw [if_neg (by rw [e1']; simp), if_neg (by rw [e2]; simp), if_pos e3]
    rw [ef] at q
    exact q
  -- the tail
  refine s_cons (s_ifP (b := (!isOneD e tails || (!isOneT e "" && isOneT (.str zk) "ask"))) (ptw (ww_or (ptn (pt_v (pv_def DO hr1 (va_cons (pv_v 4) (va_cons (pv_gtup E.c_TAILS) va_nil)) fun P p => ⟨_, _, rfl, he, p⟩))) fun e3 => ?_)) (fun e4 => ?_) fun e4 => s_nil ?_)
  · have e3' : isOneD e tails = true := by simpa using e3
    obtain ⟨zl, rfl⟩ := isOneD_str e3'
    exact ww_or1 (ptw (ww_and (pt_cmp op_ne (pv_v 4) pv_str (neV_str _ _)) fun _ => ww_and1 (pt_cmp op_eq (pv_v 1) (pv_gstr E.c_ASK) (eqV_str _ _))))
  · refine s_one (s_rz tk E.x_InvalidWrite E.ini_InvalidWrite (hr.mono (by decide)) (ea_cons (pv_str _ _ _ (ea_nil ⟨rfl, by decide, ?_⟩))))
    have ef : wFault (.str zk) (.str zt) l e = some ("tail" : Str) := by unfold wFault; rw [if_neg (by rw [e1']; simp), if_neg (by rw [e2]; simp), if_neg (by rw [e3]; simp), if_pos e4]
    rw [ef] at q
    exact q
  have ef : wFault (.str zk) (.str zt) l e = none := by unfold wFault; rw [if_neg (by rw [e1']; simp), if_neg (by rw [e2]; simp), if_neg (by rw [e3]; simp), if_neg (by rw [e4]; simp)]
  rw [ef] at q
  -- the slots
  refine s_cons (s_slot (.r J .here) E.k_Write.sc E.s_Write_mode (pv_v 0) (pv_v 1) ?_)
  refine s_cons (s_slot (.r J .here) E.k_Write.sc E.s_Write_signs (pv_v 0) (pv_v 2) ?_)
  refine s_cons (s_slot (.r J .here) E.k_Write.sc E.s_Write_ahead (pv_v 0) (pv_v 3) ?_)
  refine s_one (s_slot (.r J .here) E.k_Write.sc E.s_Write_behind (pv_v 0) (pv_v 4) ?_)
  exact q
end

def wD (K : PySem.W.Frag) (k t l e : Str) : D := .slo (cW K) [.str l, .str e, .str k, .str t]
def sGet {K : PySem.W.Frag} (i : Nat) : Spec K := fun I ds P _ => ∃ (fs : List D) (d : D), ds = [.slo (cW K) fs] ∧ fs[i]? = some d ∧ P d I
def wEq (k t l e k' t' l' e' : Str) : Bool := decide (k = k') && (decide (t = t') && (decide (l = l') && decide (e = e')))
def sWEq {K : PySem.W.Frag} : Spec K := fun I ds P _ => ∃ k t l e : Str, (∃ k' t' l' e' : Str, ds = [wD K k t l e, wD K k' t' l' e'] ∧ P (.bl (wEq k t l e k' t' l' e')) I) ∨ ∃ (d : D) (ty : String), ds = [wD K k t l e, d] ∧ tyD d = some ty ∧ P (.bl false) I
section
variable {P : Program} {w : World} {K : PySem.W.Frag} {mg : Str → Option Value} {base : Heap} {f : Addr} {fd : FuncData}
theorem ok_kind (F : FnP K "kind" "Write.kind" m_Write_kind f fd) (E : Env P w K mg base) : FnOk P w K mg base (L2.CX P w) 1 f fd ["self"] (spD K (sGet 2)) := by
  refine fn_d F sc_m_Write_kind (fun I ds P R h => by obtain ⟨fs, d, rfl, _⟩ := h; rfl) fun cdv A outer s H EE hr tk po I ds Q R h => ?_
  obtain ⟨fs, d, rfl, hd, q⟩ := h
  exact s_one (s_retP (pv_sl E.k_Write.sc E.s_Write_mode (pv_v 0) hd) q)
theorem ok_weq (F : FnP K "__eq__" "Write.__eq__" m_Write_eq f fd) (E : Env P w K mg base) : FnOk P w K mg base (L2.CX P w) 1 f fd ["self", "other"] (spD K sWEq) := by
  refine fn_d F sc_m_Write_eq (fun I ds P R h => by obtain ⟨k, t, l, e, ⟨k', t', l', e', rfl, _⟩ | ⟨d, ty, rfl, _⟩⟩ := h <;> rfl) fun cdv A outer s H EE hr tk po I ds Q R h => ?_
  obtain ⟨k, t, l, e, h⟩ := h
  rcases h with ⟨k', t', l', e', rfl, q⟩ | ⟨d, ty, rfl, hty, q⟩
  · refine s_cons (s_ifF (ptn (k := true) (pt_v (pv_cb (SlX.call_isiSl (.ref (cW K))) E.b_isinstance (va_cons (pv_v 1) (va_cons (pv_gref E.g_Write) va_nil)) (pn_isiSl E.k_Write.sc E.k_Write.si E.k_Write.kW)))) (s_nil ?_))
    refine s_cons (s_ifP (b := (!decide (k = k') || !decide (t = t'))) (ptw (ww_or (pt_cmp op_ne (pv_sl E.k_Write.sc E.s_Write_mode (pv_v 0) rfl) (pv_sl E.k_Write.sc E.s_Write_mode (pv_v 1) rfl) (neV_str k k')) fun _ => ww_or1 (pt_cmp op_ne (pv_sl E.k_Write.sc E.s_Write_signs (pv_v 0) rfl) (pv_sl E.k_Write.sc E.s_Write_signs (pv_v 1) rfl) (neV_str t t')))) (fun e1 => ?_) fun e1 => s_nil ?_)
    · refine s_one (s_retP pv_bl ?_)
      have e2 : wEq k t l e k' t' l' e' = false := by
        unfold wEq
        rcases Bool.or_eq_true_iff.mp e1 with h | h
        · simp only [Bool.not_eq_true'] at h; rw [h]; rfl
        · simp only [Bool.not_eq_true'] at h; rw [h]; simp
      rw [e2] at q
      exact q
    · obtain ⟨h1, h2⟩ := Bool.or_eq_false_iff.mp e1
      have e2 : wEq k t l e k' t' l' e' = (decide (l = l') && decide (e = e')) := by
        unfold wEq
        simp only [Bool.not_eq_false'] at h1 h2
        rw [h1, h2]; rfl
      rw [e2] at q
      exact s_one (s_retP (pv_andB (pv_cmp op_eq (pv_sl E.k_Write.sc E.s_Write_ahead (pv_v 0) rfl) (pv_sl E.k_Write.sc E.s_Write_ahead (pv_v 1) rfl) (eqV_str l l')) fun _ => pv_one (pv_cmp op_eq (pv_sl E.k_Write.sc E.s_Write_behind (pv_v 0) rfl) (pv_sl E.k_Write.sc E.s_Write_behind (pv_v 1) rfl) (eqV_str e e'))) q)
  · exact s_cons (s_ifT (ptn (k := false) (pt_v (pv_cb call_isi E.b_isinstance (va_cons (pv_v 1) (va_cons (pv_gref E.g_Write) va_nil)) (pn_isiO hty (E.k_Write.kT _ (tyD_in hty)))))) (s_one (s_retP pv_bl q)))
end
abbrev psW : List Str := ["self", "kind", "text", "lead", "tail"]
section
variable {P : Program} {w : World} {K : PySem.W.Frag} {mg : Str → Option Value} {base : Heap}
theorem D_is_text (E : Env P w K mg base) : Def P w K mg base "is_text" 1 ["value"] [] sIsText := mk_f_is_text E fun fd F => ok_is_text F E
theorem D_is_one_of (E : Env P w K mg base) : Def P w K mg base "is_one_of" 1 ["value", "words"] [] sIsOne := mk_f_is_one_of E fun fd F => ok_is_one_of F E
theorem M_wInit (E : Env P w K mg base) : ∃ fI : FuncData, FnOk P w K mg base (L2.CX P w) 3 (He.ma K (cW K) "__init__") fI psW (spD K sWInit) ∧ (∃ g, KBn K fI psW 3 ["lead", "tail"] g fun vs zs => vs ++ zs) ∧ (∃ g, KBn K fI psW 3 ["tail", "lead"] g fun vs zs => vs ++ zs.reverse) ∧
    ∃ g, KBn K fI psW 3 [] g fun vs _ => vs ++ [V.str "", V.str ""] := by
  obtain ⟨fI, F3⟩ := E.has _ in_m_Write_init
  obtain ⟨_, b1⟩ := FunD.kbinds0 (ps := psW) F3 3 ["lead", "tail"] [] (fun us _ ws => us ++ ws) (by simp [He.DefD.kws, dM, d_m_Write_init]) (fun q hq => by simp at hq) (fun r1 _ r3 => r1.append r3) fun D doc pm an cdv ct us mv ws h1 h2 h3 => by
    match us, mv, ws, h1, h2, h3 with
    | [_, _, _], [], [_, _], _, _, _ => rfl
  obtain ⟨_, b2⟩ := FunD.kbinds0 (ps := psW) F3 3 ["tail", "lead"] [] (fun us _ ws => us ++ ws.reverse) (by simp [He.DefD.kws, dM, d_m_Write_init]) (fun q hq => by simp at hq) (fun r1 _ r3 => r1.append r3.reverse) fun D doc pm an cdv ct us mv ws h1 h2 h3 => by
    match us, mv, ws, h1, h2, h3 with
    | [_, _, _], [], [_, _], _, _, _ => rfl
  obtain ⟨_, b0⟩ := FunD.kbinds0 (ps := psW) F3 3 [] [("lead", V.str ""), ("tail", V.str "")] (fun us ms _ => us ++ ms) (by simp [He.DefD.kws, dM, d_m_Write_init]) (fun q hq => by simpa [He.DefD.kws, dM, d_m_Write_init, He.Dv.v] using hq) (fun r1 r2 _ => r1.append r2) fun D doc pm an cdv ct us mv ws h1 h2 h3 => by
    match us, mv, ws, h1, h2, h3 with
    | [_, _, _], [_, _], [], _, _, _ => exact ⟨_, _, _, _, _, _, rfl, rfl, _, _, _, _, _, _, rfl, rfl, rfl⟩
  exact ⟨fI, ok_wInit F3 E (D_is_text E) (D_is_one_of E), ⟨_, b1⟩, ⟨_, b2⟩, ⟨_, b0⟩⟩
theorem M_kind (E : Env P w K mg base) : FnR P w K mg base (L2.CX P w) 1 (gtr K (cW K) "kind") (spD K (sGet 2)) := mk_m_Write_kind E fun fd F => ok_kind F E
theorem M_weq (E : Env P w K mg base) : FnR P w K mg base (L2.CX P w) 1 (He.ma K (cW K) "__eq__") (spD K sWEq) := mk_m_Write_eq E fun fd F => ok_weq F E
end
structure GoodW (k t l e : Str) : Prop where
  gk : k ∈ kinds
  gl : l ∈ leads
  ge : e ∈ tails
  gr : k = "reply" → l = ""
  ga : k = "ask" → e = ""
  gn : k = "ask" ∨ k = "reply" → 0 < t.length
  gs : ∀ c ∈ t.cps.toList, c ∈ SIGNS.cps.toList
theorem strOk_of {t : Str} (h : ∀ c ∈ t.cps.toList, c ∈ SIGNS.cps.toList) : PyData.strOk t = true := by
  unfold PyData.strOk
  rw [← Array.all_toList]
  refine List.all_eq_true.mpr fun c hc => ?_
  have k : ∀ c ∈ SIGNS.cps.toList, (decide (c < 1114112)) = true := by decide +kernel
  exact k c (h c hc)
theorem len_of {xs : List Str} {n : Nat} (h : xs.all (fun x => decide (x.length ≤ n)) = true) {x : Str} (hx : x ∈ xs) : x.length ≤ n := of_decide_eq_true (List.all_eq_true.mp h x hx)
theorem sok_of {xs : List Str} (h : xs.all (fun x => PyData.strOk x) = true) {x : Str} (hx : x ∈ xs) : PyData.strOk x = true := List.all_eq_true.mp h x hx
section
variable {k t l e : Str}
theorem GoodW.none (g : GoodW k t l e) (h : t.length ≤ 40) : wFault (.str k) (.str t) (.str l) (.str e) = none := by
  have h1 : isOneD (.str k) kinds = true := decide_eq_true g.gk
  have h2 : isTextD (.str t) = true := by
    show (decide (t.length ≤ 40) && t.cps.toList.all fun c => decide (c ∈ SIGNS.cps.toList)) = true
    rw [decide_eq_true h, Bool.true_and]
    exact List.all_eq_true.mpr fun c hc => decide_eq_true (g.gs c hc)
  have h3 : isOneD (.str l) leads = true := decide_eq_true g.gl
  have h4 : isOneD (.str e) tails = true := decide_eq_true g.ge
  unfold wFault
  rw [h1, h2, h3, h4, if_neg (by simp), if_neg, if_neg, if_neg]
  · simp only [isOneT, Bool.not_true, Bool.false_or, Bool.and_eq_true, Bool.not_eq_true', decide_eq_false_iff_not, decide_eq_true_eq, not_and]
    exact fun h5 h6 => h5 (g.ga h6)
  · simp only [isOneT, Bool.not_true, Bool.false_or, Bool.and_eq_true, Bool.not_eq_true', decide_eq_false_iff_not, decide_eq_true_eq, not_and]
    exact fun h5 h6 => h5 (g.gr h6)
  · simp only [isOneT, isOneD, Bool.not_true, Bool.false_or, Bool.and_eq_true, decide_eq_true_eq, not_and]
    intro h5 h6
    have h7 := g.gn (by simpa using h6)
    rw [h5] at h7
    exact absurd h7 (by decide)
theorem GoodW.okk (g : GoodW k t l e) : okV (.str k) := ⟨⟨_, rfl⟩, fun s z => by cases z; exact len_of (by decide +kernel) g.gk⟩
theorem GoodW.okl (g : GoodW k t l e) : okV (.str l) := ⟨⟨_, rfl⟩, fun s z => by cases z; exact len_of (by decide +kernel) g.gl⟩
theorem GoodW.oke (g : GoodW k t l e) : okV (.str e) := ⟨⟨_, rfl⟩, fun s z => by cases z; exact len_of (by decide +kernel) g.ge⟩
theorem GoodW.okt (h : t.length ≤ 40) : okV (.str t) := ⟨⟨_, rfl⟩, fun s z => by cases z; omega⟩
theorem GoodW.bare (g : GoodW k t l e) : GoodW k t "" "" := ⟨g.gk, by decide +kernel, by decide +kernel, fun _ => rfl, fun _ => rfl, g.gn, g.gs⟩
theorem GoodW.okEq (g : GoodW k t l e) : okEq (.tup [.str k, .str t, .str l, .str e]) = true := by
  have e0 : PyData.canLay0 (pyD (.tup [.str k, .str t, .str l, .str e])) = (PyData.strOk k && (PyData.strOk t && (PyData.strOk l && (PyData.strOk e && true)))) := rfl
  have e1 : PyData.depth (pyD (.tup [.str k, .str t, .str l, .str e])) = 1 := rfl
  show (true && (PyData.canLay0 (pyD (.tup [.str k, .str t, .str l, .str e])) && decide (PyData.depth (pyD (.tup [.str k, .str t, .str l, .str e])) ≤ 64))) = true
  rw [e0, e1, sok_of (xs := kinds) (by decide +kernel) g.gk, strOk_of g.gs, sok_of (xs := leads) (by decide +kernel) g.gl, sok_of (xs := tails) (by decide +kernel) g.ge]
  rfl
end
section
variable {X : Cx} {I : Iv X.K} {a b c d e : Expr} {δ : DEnv} {pos p q1 q2 : Pos} {k t l e' : Str}
theorem pv_write (E : Env X.prog X.w X.K X.mg X.base) (hr : Room 4 X.A) (ha : PV X I a δ (.str k)) (hb : PV X I b δ (.str t)) (hl : PV X I c δ (.str l)) (he : PV X I d δ (.str e')) (g : GoodW k t l e') (h : t.length ≤ 40) (hg : Gl X "Write" := by rfl)
    (hall : (backToKw pos (keywordEach [⟨some "lead", c, q1⟩, ⟨some "tail", d, q2⟩] X.env)).all (·.1.isSome) = true := by rfl) (hks : (backToKw pos (keywordEach [⟨some "lead", c, q1⟩, ⟨some "tail", d, q2⟩] X.env)).filterMap (·.1) = (["lead", "tail"] : List Str) := by rfl)
    (h1 : starEach [a, b] X.env = (false, eval a X.env) :: starEach [b] X.env := by rfl) (h2 : starEach [b] X.env = (false, eval b X.env) :: starEach [] X.env := by rfl)
    (hpl : ((backTo pos (starEach [a, b] X.env)).any (·.1) || (backToKw pos (keywordEach [⟨some "lead", c, q1⟩, ⟨some "tail", d, q2⟩] X.env)).any (·.1.isNone)) = false := by rfl) : PV X I (.Call (.Name "Write" p) [a, b] [⟨some "lead", c, q1⟩, ⟨some "tail", d, q2⟩] pos) δ (wD X.K k t l e') := fun W R P pp => by
  obtain ⟨fI, F, ⟨_, b1⟩, _, _⟩ := M_wInit E
  refine EvX.weak (ev_makeSl (fun ds zs => ds ++ zs) takesF E.m_Write F hr E.g_Write b1 (fun r1 r2 => r1.append r2) (ea_cons (ha.ev (ea_cons (hb.ev (ea_nil (ek_cons (hl.ev (ek_cons (he.ev (ek_nil ⟨rfl, rfl, fun y dy na => ?_⟩))))))) h2)) h1) hg (by decide) hall hks h1 hpl)
  refine ⟨y, dy, I, .str k, .str t, .str l, .str e', rfl, rfl, g.okk, GoodW.okt h, g.okl, g.oke, ?_⟩
  rw [g.none h]
  exact ⟨rfl, [.str l, .str e', .str k, .str t], rfl, pp⟩
theorem pv_wkind (E : Env X.prog X.w X.K X.mg X.base) (hr : Room 2 X.A) (ha : PV X I a δ (wD X.K k t l e')) (hb : attributeBase a "kind" X.env (eval a X.env) = eval a X.env := by rfl) : PV X I (.Attribute a "kind" pos) δ (.str k) := pv_prop E.k_Write.sc E.p_Write_kind (M_kind E) hr ha (fun P p => ⟨_, _, rfl, rfl, p⟩) hb
end
end LK
set_option Elab.async false
set_option linter.all false
set_option maxRecDepth 100000
set_option maxHeartbeats 1000000
namespace LK
open PySem PySem.Spec PyProof.Rows L2 DL
abbrev cC (K : PySem.W.Frag) : Addr := He.ga K "Cast"
structure Wr where
  k : Str
  t : Str
  l : Str
  e : Str
deriving DecidableEq
def wr4 (w : Wr) : D := .tup [.str w.k, .str w.t, .str w.l, .str w.e]
abbrev wrD (K : PySem.W.Frag) (w : Wr) : D := wD K w.k w.t w.l w.e
structure GoodR (w : Wr) : Prop where
  g : GoodW w.k w.t w.l w.e
  h : w.t.length ≤ 40
inductive Th where
  | wr (w : Wr)
  | ot (d : D)
def Th.d (K : PySem.W.Frag) : Th → D
  | .wr w => wrD K w
  | .ot d => d
def Th.ok : Th → Prop
  | .wr w => w.k ∈ kinds
  | .ot d => ∃ t, tyD d = some t
def Th.kind : Th → Str
  | .wr w => w.k
  | .ot _ => ""
inductive Wv where
  | ls (ths : List Th)
  | tp (ths : List Th)
  | ot (d : D)
def Wv.d (K : PySem.W.Frag) : Wv → D
  | .ls ths => .lst (ths.map (Th.d K))
  | .tp ths => .tup (ths.map (Th.d K))
  | .ot d => d
def Wv.ths : Wv → List Th
  | .ls ths => ths
  | .tp ths => ths
  | .ot _ => []
def Wv.ok : Wv → Prop
  | .ls ths => (∀ x ∈ ths, x.ok) ∧ ths.length ≤ 1000
  | .tp ths => (∀ x ∈ ths, x.ok) ∧ ths.length ≤ 1000
  | .ot d => ∃ t, tyD d = some t ∧ t ≠ "list" ∧ t ≠ "tuple"
def kindBad (ks : List Str) (k : Str) (i : Nat) : Bool :=
  decide (k = "") || (decide (k = "ask") && !decide ((ks.drop (i + 1)).take 1 = (["reply"] : List Str))) || (decide (k = "reply") && !decide ((ks.take i).drop ((ks.take i).length - 1) = (["ask"] : List Str)))
def kindFault (ks : List Str) : Option Nat := ks.zipIdx.findSome? fun p => if kindBad ks p.1 p.2 = true then some p.2 else none
def lookThs (ths : List Th) : Option (Option Nat) := if 1 ≤ ths.length ∧ ths.length ≤ 8 then (kindFault (ths.map Th.kind)).map some else some none
def lookFault : Wv → Option (Option Nat)
  | .ls ths => lookThs ths
  | .tp ths => lookThs ths
  | .ot _ => some none
def nD : Option Nat → D
  | none => .non
  | some i => .int i
def isNameS (s : Str) : Bool := decide (1 ≤ s.length) && decide (s.length ≤ 8) && s.cps.toList.all fun c => decide (c ∈ (Str.ofString "abcdefghijklmnopqrstuvwxyz").cps.toList)
def sIsName {K : PySem.W.Frag} : Spec K := fun I ds P _ => ∃ s : Str, ds = [.str s] ∧ s.length ≤ 100000 ∧ P (.bl (isNameS s)) I
def xCast (K : PySem.W.Frag) (n : Str) (o : Option Nat) : List (Str × D) := [("number", nD o), ("name", .str n)]
def sLook {K : PySem.W.Frag} : Spec K := fun I ds P R => ∃ (n : Str) (v : Wv), ds = [.str n, v.d K] ∧ v.ok ∧ match lookFault v with
  | none => P .non I
  | some o => R (He.ga K "InvalidCast") (xCast K n o) I
theorem okW_kind : (["say", "ask", "reply", "show", ""] : List Str).all (fun x => PyData.strOk x) = true := by decide +kernel
theorem kind_mem {x : Th} (h : x.ok) : x.kind ∈ (["say", "ask", "reply", "show", ""] : List Str) := by
  cases x with
  | wr w =>
    have h : w.k ∈ kinds := h
    simp only [List.mem_cons, List.not_mem_nil, or_false] at h ⊢
    show w.k = _ ∨ _
    rcases h with h | h | h | h <;> simp [Th.kind, h]
  | ot d => simp [Th.kind]
theorem okS_map {ws : List Str} (h : ∀ x ∈ ws, PyData.strOk x = true) : okEq (.lst (ws.map D.str)) = true := (OkD.lst (n := 0) (OkD.map fun x hx => .str (h x hx))).okEq (by decide)
theorem kind_at {ks : List Str} {p r : List (Str × Nat)} {x : Str × Nat} (e : ks.zipIdx = p ++ x :: r) (hp : ∀ y ∈ p, kindBad ks y.1 y.2 = false) (hx : kindBad ks x.1 x.2 = true) : kindFault ks = some x.2 := by
  unfold kindFault
  rw [e]
  exact findSome_hit (fun y hy => by rw [hp y hy]; rfl) (by rw [if_pos hx])
theorem kind_none {ks : List Str} (hp : ∀ y ∈ ks.zipIdx, kindBad ks y.1 y.2 = false) : kindFault ks = none := by
  unfold kindFault
  rw [List.findSome?_eq_none_iff]
  intro y hy
  rw [hp y hy]; rfl
theorem vi_wv {X : Cx} {I : Iv X.K} {tg iter : Expr} {δ : DEnv} {v : Wv} (hn : ∀ d, v ≠ .ot d) (hp : PV X I iter δ (v.d X.K)) : PVI X I tg iter δ (v.ths.map (Th.d X.K)) := by
  cases v with
  | ls ths' => exact vi_lst hp
  | tp ths' => exact vi_tup hp
  | ot d => exact absurd rfl (hn d)
section
variable {P : Program} {w : World} {K : PySem.W.Frag} {mg : Str → Option Value} {base : Heap}
theorem D_is_name (E : Env P w K mg base) : Def P w K mg base "is_name" 1 ["value"] [] sIsName := mk_f_is_name E fun fd F => by
  refine fn_d F sc_f_is_name (fun I ds P R h => by obtain ⟨d, rfl, _⟩ := h; rfl) fun cdv A outer s H EE hr tk po I ds Q R h => ?_
  obtain ⟨z, rfl, hz, q⟩ := h
  have nd := sc_f_is_name.nd
  refine s_cons (s_ifP (ptw (ww_orF (ptn (k := true) (pt_v (pv_cb call_isi E.b_isinstance (va_cons (pv_v 0) (va_cons (pv_gty (n := "str") E.b_str) va_nil)) (pn_isiT (t := "str") rfl)))) (ww_or1 (ptn (pt_chn op_le op_le pv_int (pv_len E.b_len (pv_w 0 rfl) hz) p2_le (pv_gint E.c_MOST_NAME) p2_le))))) (fun e => ?_) fun e => s_nil ?_)
  · refine s_one (s_retP pv_bl ?_)
    have e2 : isNameS z = false := by
      unfold isNameS
      simp only [Bool.not_eq_true', Bool.and_eq_false_iff, decide_eq_false_iff_not] at e ⊢
      omega
    rw [← e2]; exact q
  · have el : D.lst ((z.cps.toList.map fun c => decide (c ∈ (Str.ofString "abcdefghijklmnopqrstuvwxyz").cps.toList)).map D.bl) = .lst (z.cps.toList.map fun c => .bl (decide (c ∈ (Str.ofString "abcdefghijklmnopqrstuvwxyz").cps.toList))) := by rw [List.map_map]; rfl
    refine s_one (s_retP (pv_cb (cr_all rfl) E.b_all (va_cons (((pv_lcTM (xs := z.cps.toList) (g := fun c => D.str ⟨#[c]⟩) (fun c => .bl (decide (c ∈ (Str.ofString "abcdefghijklmnopqrstuvwxyz").cps.toList))) [("sign", 1)] (fun c => [some (.str z), some (.str ⟨#[c]⟩)]) (vi_str (pv_v 0)) (by rw [Array.length_toList]; exact Nat.le_trans hz (by decide)) (fun d s H C cl fp => bind_name 1) fun c hc J s H C cl fp => pv_cmp op_signIn (pv_v 1) (pv_gstr E.c_LETTERS) p2_signIn)).is el.symm) va_nil) pn_all) ?_)
    have e2 : isNameS z = (z.cps.toList.map fun c => decide (c ∈ (Str.ofString "abcdefghijklmnopqrstuvwxyz").cps.toList)).all id := by
      unfold isNameS
      simp only [Bool.not_eq_false', Bool.and_eq_true, decide_eq_true_eq] at e
      rw [decide_eq_true (show 1 ≤ z.length by omega), decide_eq_true (show z.length ≤ 8 by omega), List.all_map]
      rfl
    rw [← e2]; exact q
theorem D_look (E : Env P w K mg base) : Def P w K mg base "look_at_writes" 3 ["name", "writes"] [] sLook := mk_f_look_at_writes E fun fd F => by
  refine fn_d F sc_f_look_at_writes (fun I ds P R h => by obtain ⟨n, v, rfl, _⟩ := h; rfl) fun cdv A outer s H EE hr tk po I ds Q R h => ?_
  obtain ⟨n, v, rfl, hv, q⟩ := h
  have nd := sc_f_look_at_writes.nd
  have hu := hr.units
  have hr2 : Room 2 _ := hr
  -- no list, no tuple
  have hty : ∃ t, tyD (v.d K) = some t ∧ ((∃ d, v = .ot d ∧ kitB t "list" = some false ∧ kitB t "tuple" = some false) ∨ ((∀ d, v ≠ .ot d) ∧ ∃ b1 b2, kitB t "list" = some b1 ∧ kitB t "tuple" = some b2 ∧ (b1 || b2) = true)) := by
    cases v with
    | ls ths => exact ⟨_, rfl, .inr ⟨(fun d e => nomatch e), true, false, by decide +kernel, by decide +kernel, rfl⟩⟩
    | tp ths => exact ⟨_, rfl, .inr ⟨(fun d e => nomatch e), false, true, by decide +kernel, by decide +kernel, rfl⟩⟩
    | ot d =>
      obtain ⟨t, ht, h1, h2⟩ := hv
      refine ⟨t, ht, .inl ⟨d, rfl, ?_⟩⟩
      have := tyD_in ht
      have k : ∀ u : String, tyNs.contains u = true → u ≠ "list" → u ≠ "tuple" → kitB u "list" = some false ∧ kitB u "tuple" = some false := by
        intro u hu a b
        have hu := List.contains_iff_mem.mp hu
        simp only [List.mem_cons, List.not_mem_nil, or_false] at hu
        rcases hu with rfl | rfl | rfl | rfl | rfl | rfl | rfl
        · exact ⟨by decide +kernel, by decide +kernel⟩
        · exact ⟨by decide +kernel, by decide +kernel⟩
        · exact ⟨by decide +kernel, by decide +kernel⟩
        · exact ⟨by decide +kernel, by decide +kernel⟩
        · exact absurd rfl b
        · exact absurd rfl a
        · exact ⟨by decide +kernel, by decide +kernel⟩
      exact k t this h1 h2
  obtain ⟨t, ht, hc⟩ := hty
  rcases hc with ⟨d, rfl, k1, k2⟩ | ⟨hn, b1, b2, k1, k2, kb⟩
  · refine s_cons (s_ifT (ptw (ww_orT (ptn (k := false) (pt_v (pv_cb call_isiTT E.b_isinstance (va_cons (pv_v 1) (va_cons (pv_tup (va_cons (pv_gty (n := "list") E.b_list) (va_cons (pv_gty (n := "tuple") E.b_tuple) va_nil))) va_nil)) (pn_isiT2 ht (kit2 k1 k2))))))) ?_)
    exact s_one (s_rz (hr := hr2) tk E.x_InvalidCast E.ini_InvalidCast (ea_cons ((pv_v 0).ev (ea_cons (pv_non.ev (ea_nil ⟨rfl, by simp, q⟩))))))
  obtain ⟨ths, hths, hl0, hok, hL, hF⟩ : ∃ ths : List Th, v.ths = ths ∧ itemsD (v.d K) = some (ths.map (Th.d K)) ∧ (∀ x ∈ ths, x.ok) ∧ ths.length ≤ 1000 ∧ lookFault v = lookThs ths := by
    cases v with
    | ls ths => exact ⟨ths, rfl, rfl, hv.1, hv.2, rfl⟩
    | tp ths => exact ⟨ths, rfl, rfl, hv.1, hv.2, rfl⟩
    | ot d => exact absurd rfl (hn d)
  have hlen : ∃ C, LenC (v.d K) ths.length C ∧ C := by
    cases v with
    | ls ths' => subst hths; exact ⟨True, by have := (inferInstance : LenC (.lst (ths'.map (Th.d K))) _ _); rwa [List.length_map] at this, trivial⟩
    | tp ths' => subst hths; exact ⟨True, by have := (inferInstance : LenC (.tup (ths'.map (Th.d K))) _ _); rwa [List.length_map] at this, trivial⟩
    | ot d => exact absurd rfl (hn d)
  obtain ⟨CC, LC, cc⟩ := hlen
  refine s_cons (s_ifP (ptw (ww_orF (ptn (k := true) (pt_v (pv_cb call_isiTT E.b_isinstance (va_cons (pv_v 1) (va_cons (pv_tup (va_cons (pv_gty (n := "list") E.b_list) (va_cons (pv_gty (n := "tuple") E.b_tuple) va_nil))) va_nil)) (pn_isiT2 ht (by rw [← kb]; exact kit2 k1 k2))))) (ww_or1 (ptn (pt_chn op_le op_le pv_int (pv_len E.b_len (pv_w 1 rfl) cc) p2_le (pv_gint E.c_MOST_WRITES) p2_le))))) (fun e => ?_) fun e => s_nil ?_)
  · have e2 : lookFault v = some none := by
      rw [hF]
      unfold lookThs
      rw [if_neg]
      simp only [Bool.not_eq_true', Bool.and_eq_false_iff, decide_eq_false_iff_not] at e
      omega
    rw [e2] at q
    exact s_one (s_rz (hr := hr2) tk E.x_InvalidCast E.ini_InvalidCast (ea_cons ((pv_v 0).ev (ea_cons (pv_non.ev (ea_nil ⟨rfl, by simp, q⟩))))))
  have hsz : 1 ≤ ths.length ∧ ths.length ≤ 8 := by
    simp only [Bool.not_eq_false', Bool.and_eq_true, decide_eq_true_eq] at e
    omega
  have hF2 : lookFault v = (kindFault (ths.map Th.kind)).map some := by rw [hF]; unfold lookThs; rw [if_pos hsz]
  clear hF
  -- the kinds
  have ekk : D.lst (ths.map fun x => D.str x.kind) = .lst ((ths.map Th.kind).map D.str) := by rw [List.map_map]; rfl
  refine s_cons (s_setLc 2 [("write", 6)] (lcM (xs := ths) (g := Th.d K) (fun x => .str x.kind) [("write", 6)] (fun x => [some (.str n), some (v.d K), none, none, none, none, some (x.d K)]) (by rw [← hths]; exact vi_wv hn (pv_v 1)) (by omega) (fun d s H C cl fp => bind_name 6) (fun x hx J s H C cl fp => ?_) ?_))
  · cases x with
    | wr w0 => exact pv_if (k := true) (pt_v (pv_cb (SlX.call_isiSl (.ref (cW K))) E.b_isinstance (va_cons (pv_v (d := wrD K w0) 6) (va_cons (pv_gref E.g_Write) va_nil)) (pn_isiSl E.k_Write.sc E.k_Write.si E.k_Write.kW))) (fun _ => pv_wkind E (hr.mono (by decide)) (pv_v (d := wrD K w0) 6)) (fun z => nomatch z)
    | ot d =>
      obtain ⟨ty, hty⟩ := hok _ hx
      exact pv_if (k := false) (pt_v (pv_cb call_isi E.b_isinstance (va_cons (pv_v (d := d) 6) (va_cons (pv_gref E.g_Write) va_nil)) (pn_isiO hty (E.k_Write.kT _ (tyD_in hty))))) (fun z => nomatch z) (fun _ => pv_str)
  rw [ekk]
  -- each
  have hks : ∀ x ∈ ths.map Th.kind, PyData.strOk x = true := fun x hx => by
    obtain ⟨y, hy, rfl⟩ := List.mem_map.mp hx
    exact List.all_eq_true.mp okW_kind _ (kind_mem (hok y hy))
  have hkl : (ths.map Th.kind).length ≤ 8 := by rw [List.length_map]; exact hsz.2
  clear ekk hok
  generalize ths.map Th.kind = ks at *
  refine s_one (s_forT (xs := ks.zipIdx) (g := fun p => .tup [.int p.2, .str p.1]) po (by rw [← enumD_map]; exact vi_enumL E.b_enumerate (pv_v 2)) (fun p δ' I' => I' = I ∧ (∀ y ∈ p, kindBad ks y.1 y.2 = false) ∧ DLe δ' [some (.str n), some (v.d K), some (.lst (ks.map D.str)), none, none, none, none]) ⟨rfl, (fun y hy => nomatch hy), .of rfl rfl⟩ ?_ ?_)
  · rintro p ⟨k, i⟩ r δ' I' e ⟨rfl, hp, hle⟩
    refine ⟨_, [3, 4], (bind_tup (bs_cons (bind_name 3) (bs_cons (bind_name 4) bs_nil))).le hle, ?_⟩
    have e1 : (↑i + 1 : Int) = ((i + 1 : Nat) : Int) := rfl
    have e2 : (↑i + 2 : Int) = ((i + 2 : Nat) : Int) := rfl
    have a1 : eqD (.lst (cutD (ks.map D.str) (some (↑i + 1)) (some (↑i + 2)))) (.lst [.str "reply"]) = decide ((ks.drop (i + 1)).take 1 = (["reply"] : List Str)) := by
      rw [e1, e2, cut_mid, show i + 2 - (i + 1) = 1 by omega, ← List.map_drop, ← List.map_take, eqD_lst]
      exact Bool.eq_iff_iff.mpr ((Inj.str.eqs _ ["reply"]).trans (by simp))
    have a2 : eqD (.lst (cutD (cutD (ks.map D.str) none (some (i : Int))) (some (-1)) none)) (.lst [.str "ask"]) = decide ((ks.take i).drop ((ks.take i).length - 1) = (["ask"] : List Str)) := by
      rw [cut_take, cut_last, ← List.map_take, List.length_map, ← List.map_drop, eqD_lst]
      exact Bool.eq_iff_iff.mpr ((Inj.str.eqs _ ["ask"]).trans (by simp))
    have o1 : okEq (.lst (cutD (ks.map D.str) (some (↑i + 1)) (some (↑i + 2)))) = true := by
      rw [e1, e2, cut_mid, ← List.map_drop, ← List.map_take]
      exact okS_map fun x hx => hks x (List.mem_of_mem_drop (List.mem_of_mem_take hx))
    have o2 : okEq (.lst (cutD (cutD (ks.map D.str) none (some (i : Int))) (some (-1)) none)) = true := by
      rw [cut_take, cut_last, ← List.map_take, ← List.map_drop]
      exact okS_map fun x hx => hks x (List.mem_of_mem_take (List.mem_of_mem_drop hx))
    refine s_cons (s_setP 5 (pv_andB (pv_eq hu (pv_w 4 rfl) (pv_gstr E.c_ASK) trivial) fun _ => pv_one (pv_ne hu (pv_slL (pv_w 2 rfl) (vo_some (pv_op op_add (pv_w 3 rfl) pv_int p2_add)) (vo_some (pv_op op_add (pv_w 3 rfl) pv_int p2_add))) (pv_lst (va_cons (pv_gstr E.c_REPLY) va_nil)) ⟨o1, by decide +kernel⟩)) ?_)
    refine s_one (s_ifP (ptw (ww_or (pt_eq hu (pv_w 4 rfl) pv_str trivial) fun _ => ww_or (pt_v (pv_w 5 rfl)) fun _ => ww_or1 (ptw (ww_and (pt_eq hu (pv_w 4 rfl) (pv_gstr E.c_REPLY) trivial) fun _ => ww_and1 (pt_ne hu (pv_slL (pv_slL (pv_w 2 rfl) vo_none (vo_some (pv_w 3 rfl))) (vo_some (pv_neg pv_int)) vo_none) (pv_lst (va_cons (pv_gstr E.c_ASK) va_nil)) ⟨o2, by decide +kernel⟩))))) (fun e3 => ?_) fun e3 => s_nil ?_)
    · rw [a1, a2, ← Bool.or_assoc] at e3
      refine s_one (s_rz (hr := hr2) tk E.x_InvalidCast E.ini_InvalidCast (ea_cons ((pv_v 0).ev (ea_cons ((pv_v 3).ev (ea_nil ⟨rfl, by simp, ?_⟩))))))
      rw [hF2, kind_at e hp e3] at q
      exact q
    · rw [a1, a2, ← Bool.or_assoc] at e3
      refine ⟨rfl, fun y hy => ?_, .of rfl rfl⟩
      rcases List.mem_append.mp hy with h | h
      · exact hp y h
      · rw [List.mem_singleton.mp h]; exact e3
  · rintro δ' I' ⟨rfl, hp, hle⟩
    rw [hF2, kind_none hp] at q
    exact q
end
end LK
set_option Elab.async false
set_option linter.all false
set_option maxRecDepth 100000
set_option maxHeartbeats 4000000
namespace L2
open PySem PySem.Spec PyProof.Rows
section
variable {X : Cx}
end
end L2
namespace DL
open PySem PySem.Spec PyProof.Rows L2
section
variable {X : Cx} {W : WX} {R : Rx X.K} {a b e : Expr} {δ : DEnv} {I : Iv X.K} {P : D → Iv X.K → Prop} {pos p : Pos} {d x y : D} {ds : List D} {q : Addr}
end
end DL
set_option Elab.async false
set_option linter.all false
set_option maxRecDepth 100000
set_option maxHeartbeats 4000000
namespace DL
open PySem PySem.Spec PyProof.Rows L2
structure Wk {K : PySem.W.Frag} (I I' : Iv K) : Prop where
  F : ∀ a, I'.F a → I.F a
  φ : ∀ G H, I.φ G H → I'.φ G H
section
variable {K : PySem.W.Frag} {I I' J J' L : Iv K} {G H : Hp}
theorem Hd.wk (w : Wk I I') (h : Hd I G H) : Hd I' G H := ⟨w.φ _ _ h.ph, fun a ha => h.fr a (w.F a ha)⟩
theorem Wk.refl : Wk I I := ⟨fun _ h => h, fun _ _ h => h⟩
theorem Wk.trans (a : Wk I J) (b : Wk J L) : Wk I L := ⟨fun x h => a.F x (b.F x h), fun G H h => b.φ G H (a.φ G H h)⟩
theorem Wk.of (s : Sub I I') : Wk I I' := ⟨fun a h => (s.F a).mp h, s.φ⟩
theorem Wk.eq (e : I = I') : Wk I I' := e ▸ Wk.refl
theorem Wk.and (a : Wk I I') (b : Wk J J') : Wk (I.and J) (I'.and J') := ⟨fun x h => h.imp (a.F x) (b.F x), fun G H h => ⟨a.φ _ _ h.1, b.φ _ _ h.2.1, fun x hx => h.2.2 x ⟨a.F x hx.1, b.F x hx.2⟩⟩⟩
theorem Wk.andL (a : Wk I I') : Wk (I.and J) (I'.and J) := a.and .refl
theorem Wk.andR (a : Wk I I') : Wk (J.and I) (J.and I') := Wk.refl.and a
theorem Wk.fill (s : Wk I I') : ∀ c : Rc K, Wk (c.fill I) (c.fill I')
  | .here => s
  | .l c J => (Wk.fill s c).andL
  | .r J c => (Wk.fill s c).andR
theorem Wk.dropR : Wk (I.and J) I := ⟨fun _ h => .inl h, fun _ _ h => h.1⟩
theorem Wk.dropL : Wk (I.and J) J := ⟨fun _ h => .inr h, fun _ _ h => h.2.1⟩
theorem Wk.comm : Wk (I.and J) (J.and I) := ⟨fun _ h => h.symm, fun _ _ h => ⟨h.2.1, h.1, fun a ha => h.2.2 a ⟨ha.2, ha.1⟩⟩⟩
theorem Wk.assoc : Wk ((I.and J).and L) (I.and (J.and L)) := .of .assoc
theorem Wk.assoc' : Wk (I.and (J.and L)) ((I.and J).and L) := ⟨fun a h => h.elim (fun h => h.elim .inl fun h => .inr (.inl h)) fun h => .inr (.inr h), fun G H ⟨h1, ⟨h2, h3, h4⟩, h5⟩ => ⟨⟨h1, h2, fun a ha => h5 a ⟨ha.1, .inl ha.2⟩⟩, h3, fun a ha => ha.1.elim (fun q => h5 a ⟨q, .inr ha.2⟩) fun q => h4 a ⟨q, ha.2⟩⟩⟩
theorem Wk.swapR : Wk ((I.and J).and L) ((I.and L).and J) := Wk.assoc.trans (Wk.comm.andR.trans Wk.assoc')
theorem Wk.push : ∀ c : Rc K, Wk (c.fill (I.and J)) ((c.fill I).and J)
  | .here => .refl
  | .l c L => (Wk.push c).andL.trans Wk.swapR
  | .r L c => (Wk.push c).andR.trans Wk.assoc'
theorem Wk.inner : ∀ c : Rc K, Wk (c.fill I) I
  | .here => .refl
  | .l c J => Wk.dropR.trans (Wk.inner c)
  | .r J c => Wk.dropL.trans (Wk.inner c)
end
section
variable {X : Cx} {W : WX} {R : Rx X.K} {e : Expr} {es : List Expr} {sts : List Stmt} {st : Stmt} {δ : DEnv} {I I' : Iv X.K} {κ : Ko X.K} {P P' : D → Iv X.K → Prop}
theorem SX.wk (w : Wk I I') (h : SX X W sts δ I' κ) : SX X W sts δ I κ := fun σ G H E hE s hI k => h σ G H E hE s (hI.wk w) k
theorem S1.wk (w : Wk I I') (h : S1 X W st δ I' κ) : S1 X W st δ I κ := fun σ G H E hE s hI k => h σ G H E hE s (hI.wk w) k
theorem EvX.wk (w : Wk I I') (h : EvX X W R e δ I' P) : EvX X W R e δ I P := fun σ G H Q hE s hI qx q => h σ G H Q hE s (hI.wk w) qx q
def Ko.k {K : PySem.W.Frag} (κ : Ko K) : Ko K := ⟨fun δ I => ∃ I', Wk I I' ∧ κ.nx δ I', fun d I => ∃ I', Wk I I' ∧ κ.rt d I', fun δ I => ∃ I', Wk I I' ∧ κ.bk δ I', fun δ I => ∃ I', Wk I I' ∧ κ.ct δ I', fun C fs δ I => ∃ I', Wk I I' ∧ κ.ex C fs δ I'⟩
theorem KoLe.k {E : Ends} {G : Hp} (h : KoLe X.K W E G κ) : KoLe X.K W E G κ.k where
  nx := fun δ σ G' H' I' s1 s2 h1 r ⟨I2, w, p⟩ => h.nx δ σ G' H' I2 s1 s2 (h1.wk w) r p
  rt := fun v d G' H' I' s1 s2 h1 r ⟨I2, w, p⟩ => h.rt v d G' H' I2 s1 s2 (h1.wk w) r p
  bk := fun δ σ G' H' I' s1 s2 h1 r ⟨I2, w, p⟩ => h.bk δ σ G' H' I2 s1 s2 (h1.wk w) r p
  ct := fun δ σ G' H' I' s1 s2 h1 r ⟨I2, w, p⟩ => h.ct δ σ G' H' I2 s1 s2 (h1.wk w) r p
  ex := fun C dd fs l δ σ G' H' I' s1 s2 h1 r q hd ⟨I2, w, p⟩ => h.ex C dd fs l δ σ G' H' I2 s1 s2 (h1.wk w) r q hd p
theorem SX.k (h : SX X W sts δ I κ.k) : SX X W sts δ I κ := fun σ G H E hE s hI k => h σ G H E hE s hI k.k
theorem S1.k (h : S1 X W st δ I κ.k) : S1 X W st δ I κ := fun σ G H E hE s hI k => h σ G H E hE s hI k.k
end
section
variable {K : PySem.W.Frag}
theorem Wk.emp {I : Iv K} : Wk I (iEmp K) := ⟨fun _ h => h.elim, fun _ _ _ => trivial⟩
end
structure LsI {K : PySem.W.Frag} (I : Iv K) (d : D) (ds : List D) : Prop where
  h : ∀ (G H : Hp) (v : V), Same G H → Hd I G H → Rep K G d v → ∃ a vs, v = .ref a ∧ H a = some (.lst vs) ∧ Reps K G ds vs
section
variable {K : PySem.W.Frag} {I J : Iv K} {d x y z : D} {ds es : List D} {p : Addr} {c : Rc K} {i : Int}
theorem LsI.k : LsI I (.lst ds) ds := ⟨fun G H v s _ ⟨a, vs, e, h1, h2⟩ => ⟨a, vs, e, s _ _ h1, h2⟩⟩
theorem LsI.m (c : Rc K) (eI : I = c.fill (iLst K p ds) := by rfl) : LsI I (.adr p) ds := ⟨fun G H v s hI r => by
  subst eI
  obtain ⟨vs, ho, rr, _⟩ := hI.lst
  exact ⟨p, vs, r, ho, rr⟩⟩
theorem LsI.wk (w : Wk I J) (h : LsI J d ds) : LsI I d ds := ⟨fun G H v s hI r => h.h G H v s (hI.wk w) r⟩
theorem p2_ixI (l : LsI I x ds) (h : atI ds i = some d) : P2 K I (rIxL K) x (.int i) d := fun P pp G H v w Q s hI r1 r2 q => by
  obtain ⟨a, vs, ev, ho, r⟩ := l.h G H v s hI r1
  obtain ⟨u, h1, h2⟩ := atI_rep r h
  exact ⟨a, vs, i, u, ev, r2, SqL.of ho, h1, q u d G H _ (Same.refl G) s hI h2 pp⟩
end
section
variable {X : Cx} {W : WX} {R : Rx X.K} {a b e o elt tg iter : Expr} {es : List Expr} {ifs : List Expr} {scope : Scope} {lo hi : Option Expr} {δ : DEnv} {I : Iv X.K} {P : D → Iv X.K → Prop} {pos p2 : Pos} {d z x : D} {ds : List D} {l h : Option Int} {κ : Ko X.K} {p : Addr} {i : Int}
theorem pv_slI (ha : PV X I a δ x) (li : LsI I x ds) (hl : PVO X I lo δ l) (hh : PVO X I hi δ h) : PV X I (.Subscript a (.Slice lo hi none p2) pos) δ (.lst (cutD ds l h)) :=
  pv_slice sl_list ha hl hh fun G H v Q s hI r q => by
    obtain ⟨b, vs, ev, e1, e2⟩ := li.h G H v s hI r
    exact ⟨b, vs, ev, SqL.of e1, fun p hp => by
      have hg : G p = none := s.free hp
      exact q (.ref p) _ _ (Evl.Ex.new hg) (same_upd2 s) (hI.keep hp s) ⟨p, _, rfl, upd_same, (e2.cut l h).mono (Evl.Ex.new hg)⟩⟩
end
end DL
set_option Elab.async false
set_option linter.all false
set_option maxRecDepth 100000
set_option maxHeartbeats 4000000
namespace DL
open PySem PySem.Spec PyProof.Rows L2
structure WalkR (K : PySem.W.Frag) (J : It) (ds : List D) (Ok : Iv K → Prop) (G : Hp) : Prop where
  go : ∀ i G' H' I', Same G G' → Same G' H' → Hd I' G' H' → Ok I' → i < ds.length → J.go i H'
  stop : ∀ G' H' I', Same G G' → Same G' H' → Hd I' G' H' → Ok I' → J.stop ds.length H'
  yld : ∀ i G' H' I' x H'', Same G G' → Same G' H' → Hd I' G' H' → Ok I' → i < ds.length → J.yld i H' x H'' → ∃ G'', Same G' G'' ∧ Same G'' H'' ∧ Hd I' G'' H'' ∧ ∃ d, ds[i]? = some d ∧ Rep K G'' d x
theorem WalkR.mono {K : PySem.W.Frag} {J : It} {ds : List D} {Ok : Iv K → Prop} {G G1 : Hp} (h : WalkR K J ds Ok G) (s : Same G G1) : WalkR K J ds Ok G1 :=
  ⟨fun i G' H' I' s1 => h.go i G' H' I' (s.trans s1), fun G' H' I' s1 => h.stop G' H' I' (s.trans s1), fun i G' H' I' x H'' s1 => h.yld i G' H' I' x H'' (s.trans s1)⟩
theorem WalkD.r {K : PySem.W.Frag} {J : It} {ds : List D} {G : Hp} (h : WalkD K J ds G) : WalkR K J ds (fun _ => True) G :=
  ⟨fun i G' H' _ s1 s2 _ _ => h.go i G' H' s1 s2, fun G' H' _ s1 s2 _ _ => h.stop G' H' s1 s2, fun i G' H' I' x H'' s1 s2 hI _ hi y => by
    obtain ⟨G3, a, b, c, _, d⟩ := h.yld i G' H' I' x H'' s1 s2 hI hi y
    exact ⟨G3, a, b, c, d⟩⟩
def EvIR (X : Cx) (W : WX) (R : Rx X.K) (tg iter : Expr) (δ : DEnv) (I : Iv X.K) (P : List D → (Iv X.K → Prop) → Iv X.K → Prop) : Prop := ∀ (σ : L2.St) (G H : Hp) (RR : It → Hp → Prop), EnvR X.K G δ σ → Same G H → Hd I G H → Kx X.K W σ G R →
  (∀ (J : It) (ds : List D) (Ok : Iv X.K → Prop) (G' H' : Hp) (I' : Iv X.K), (∀ I J, Ok I → Ok (I.and J)) → Same G G' → Same G' H' → Hd I' G' H' → WalkR X.K J ds Ok G' → P ds Ok I' → RR J H') → wpI X tg iter σ H RR
section
variable {X : Cx} {W : WX} {R : Rx X.K} {elt tg iter e a : Expr} {ifs : List Expr} {es : List Expr} {scope : Scope} {body sts : List Stmt} {δ : DEnv} {I : Iv X.K} {κ : Ko X.K} {P : D → Iv X.K → Prop} {pos : Pos} {d z : D} {ds : List D} {p : Addr} {PP : List D → (Iv X.K → Prop) → Iv X.K → Prop}
end
end DL
set_option Elab.async false
set_option linter.all false
set_option maxRecDepth 100000
set_option maxHeartbeats 1000000
namespace DL
open PySem PySem.Spec PyProof.Rows L2
inductive IT where
  | z (i : Nat)
  | n (a b : IT)
instance (k : Nat) : OfNat IT k := ⟨.z k⟩
instance : Add IT := ⟨.n⟩
def IT.fl : IT → List Nat
  | .z i => [i]
  | .n a b => a.fl ++ b.fl
def IT.iv {K : PySem.W.Frag} (as : List (Iv K)) : IT → Iv K
  | .z i => as.getD i (iEmp K)
  | .n a b => (a.iv as).and (b.iv as)
section
variable {K : PySem.W.Frag} {as : List (Iv K)} {G H : Hp}
end
end DL
set_option Elab.async false
set_option linter.all false
set_option maxRecDepth 100000
set_option maxHeartbeats 4000000
namespace L2
open PySem PySem.Spec PyProof.Rows
section
variable {X : Cx}
end
end L2
namespace DL
open PySem PySem.Spec PyProof.Rows L2
section
variable {X : Cx} {W : WX} {R : Rx X.K} {a e : Expr} {lo hi : Option Expr} {δ : DEnv} {I : Iv X.K} {P : D → Iv X.K → Prop} {pos p2 : Pos} {ds : List D} {l h : Option Int}
end
section
variable {K : PySem.W.Frag} {I : Iv K} {G H : Hp}
end
end DL
set_option Elab.async false
set_option linter.all false
set_option maxRecDepth 100000
set_option maxHeartbeats 4000000
namespace DL
open PySem PySem.Spec PyProof.Rows L2
def MX (X : Cx) (W : WX) (cases : List MatchCase) (w : Str) (δ : DEnv) (I : Iv X.K) (κ : Ko X.K) : Prop := ∀ (σ : L2.St) (G H : Hp) (E : Ends), EnvR X.K G δ σ → Same G H → Hd I G H → KoLe X.K W E G κ →
  ∀ (pins : List (Addr × Obj)) (s : Shared) (first : Bool) (t : Tok), Inv X pins σ H s → wpAny (model X.prog X.w) X.A (matchCases cases X.env (.str w t) first) (SP X pins E) X.xe s
section
variable {X : Cx} {W : WX} {R : Rx X.K} {a b e : Expr} {δ : DEnv} {I : Iv X.K} {κ : Ko X.K} {pos p1 p2 : Pos} {w c : Str} {cases rest : List MatchCase} {body : List Stmt} {j : Nat} {d x : D} {ds : List D} {P : D → Iv X.K → Prop}
end
end DL
set_option Elab.async false
set_option linter.all false
set_option maxRecDepth 100000
set_option maxHeartbeats 4000000
namespace DL
open PySem PySem.Spec PyProof.Rows L2
section
variable {X : Cx} {W : WX} {R : Rx X.K} {a b e o : Expr} {es : List Expr} {δ : DEnv} {I : Iv X.K} {P : D → Iv X.K → Prop} {pos q' p : Pos} {n : Str} {d z : D} {x C dx pd : Addr} {ds : List D} {i : Nat} {κ : Ko X.K}
end
end DL
set_option Elab.async false
set_option linter.all false
set_option maxRecDepth 100000
set_option maxHeartbeats 4000000
namespace DL
open PySem PySem.Spec PyProof.Rows L2
section
variable {X : Cx} {W : WX} {R : Rx X.K} {elt tg iter c e : Expr} {scope : Scope} {δ : DEnv} {I : Iv X.K} {pos : Pos} {p : Addr}
end
section
variable {X : Cx} {I : Iv X.K} {e : Expr} {δ : DEnv} {pos : Pos} {C p g x dx : Addr} {f : Str} {n : Nat} {S : Spec X.K} {fs : List (Str × D)} {d : D} {fd : FuncData}
theorem pv_propI (k : Rc X.K) (c : Cls X.K C) (pr : PropC X.K C f p g) (F : FnOk X.prog X.w X.K X.mg X.base (L2.CX X.prog X.w) n g fd ["self"] (spD X.K S)) (hb : L2.Binds X.K fd ["self"] []) (hr : Room (n + 1) X.A) (he : PV X I e δ (.adr x)) (hS : ∀ P : D → Iv X.K → Prop, P d I → S I [.adr x] P F0)
    (hab : attributeBase e f X.env (eval e X.env) = eval e X.env := by rfl) (eI : I = k.fill (iIns X.K x C dx fs) := by rfl) : PV X I (.Attribute e f pos) δ d := fun W R P pp σ G H Q hE s hI qx q =>
  PE.wp (pe_prop (E := fun _ _ _ => False) peC c ⟨pr.at_, pr.get, pr.tk, pr.rc⟩ F hr hb .nil takesPF hab) (he W R (fun z I1 => z = .adr x ∧ I1 = I) ⟨rfl, rfl⟩ σ G H _ hE s hI qx fun v d1 G1 H1 I1 s1 t1 h1 r1 ⟨ed, ei⟩ => by
    subst ed ei
    obtain rfl : v = .ref x := r1
    obtain ⟨vs, h2, h3, _⟩ := (show Hd (k.fill (iIns X.K x C dx fs)) G1 H1 by rw [← eI]; exact h1).ins
    exact ⟨x, dx, vs, rfl, h2, spD_of (ds := [.adr x]) t1 h1 ⟨.ref x, [], rfl, rfl, rfl⟩ (hS P pp) (q.mono s1)⟩)
end
end DL
set_option Elab.async false
set_option linter.all false
set_option maxRecDepth 100000
set_option maxHeartbeats 4000000
namespace DL
end DL
namespace SV
open PySem PySem.Spec PyProof.Rows DL
section
variable {prog : Program} {w : World} {A : Around} {R : Result → Shared → Prop} {J S : Addr} {fp wr : List Addr} {G : Array GenState → Array GenState → Prop} {P : Nat → Value → Prop} {St : Nat → Shared → Prop}
theorem stay {h h' : Heap} {T : Str → Bool} {n : Nat} (e : ∀ o, h.get? S = some o → h'.get? S = some o) (x : h.SetOf (PySem.strKind prog w) S T n) : h'.SetOf (PySem.strKind prog w) S T n := by
  obtain ⟨o, es, ep, tb, ho, r⟩ := x
  exact ⟨o, es, ep, tb, e o ho, r⟩
end
end SV
set_option Elab.async false
set_option linter.all false
set_option maxRecDepth 100000
set_option maxHeartbeats 4000000
namespace SV
open PySem PySem.Spec PyProof.Rows DL
section
variable {prog : Program} {w : World} {A : Around} {E : Value → Shared → Prop} {s : Shared}
end
end SV
namespace L2
open PySem PySem.Spec PyProof.Rows
section
variable {X : Cx} {a : Expr} {ta : TE} {p p2 q pos : Pos}
end
end L2
namespace DL
open PySem PySem.Spec PyProof.Rows L2
section
variable {X : Cx} {a : Expr} {δ : DEnv} {I : Iv X.K} {p p2 q pos : Pos} {xs : List Str}
end
end DL
set_option Elab.async false
set_option linter.all false
set_option maxRecDepth 100000
set_option maxHeartbeats 4000000
namespace SW
open PySem PySem.W PySem.Calls PyProof.Rows
def WkA (ds : List PyData) : Prop := (∀ d ∈ ds, ∃ a r, d = .tuple (.str a :: r)) ∧ ∀ a r r', PyData.tuple (.str a :: r) ∈ ds → PyData.tuple (.str a :: r') ∈ ds → alikeAll r r' = true
theorem WkA.al {ds : List PyData} (x : WkA ds) {a : Str} {r r' : List PyData} (h : PyData.tuple (.str a :: r) ∈ ds) (h' : PyData.tuple (.str a :: r') ∈ ds) : alike (.tuple (.str a :: r)) (.tuple (.str a :: r')) = true := by
  show alikeAll (.str a :: r) (.str a :: r') = true
  rw [alikeAll, x.2 a r r' h h']; rfl
noncomputable def kW (h : Heap) (ds : List PyData) : PyProof.Rows.KeyKind := dataKind h ds
section
variable {prog : Program} {w : World} {A : Around} {s : Shared}
end
end SW
namespace DL
open PySem PySem.Spec PyProof.Rows L2
section
variable {X : Cx}
end
section
variable {X : Cx} {e : Expr} {δ : DEnv} {I : Iv X.K} {pos p : Pos} {ds : List D} {W : WX} {R : Rx X.K} {P : D → Iv X.K → Prop}
end
end DL
set_option Elab.async false
set_option linter.all false
set_option maxRecDepth 100000
set_option maxHeartbeats 4000000
namespace L2
open PySem PySem.Spec PyProof.Rows
section
variable {X : Cx}
end
structure KF where
  o : Obj
  es : Array DictEntry
  ep : Nat
  xs : List (NestedKey × Addr × Value)
def keysΦ (P : Program) (w : World) (q : Addr) (F : KF) (h : Heap) : Prop := (q == sysModules) = false ∧ h.get? q = some F.o ∧ F.o.ExactDict ∧ F.o.data = .dict F.es F.ep ∧ F.es.toList = F.xs.map (entryOfKey (nestedKind P w))
def keysO (P : Program) (w : World) (q : Addr) (F : KF) : HO := .ext (keysΦ P w q F)
theorem KF.sz {P : Program} {w : World} {q : Addr} {F : KF} {h : Heap} (m : keysΦ P w q F h) : F.es.size = F.xs.length := by
  have := congrArg List.length m.2.2.2.2
  rwa [List.length_map, Array.length_toList] at this
section
variable {X : Cx} {tg e : Expr} {td : TE}
end
end L2
set_option Elab.async false
set_option linter.all false
set_option maxRecDepth 100000
set_option maxHeartbeats 4000000
namespace DL
open PySem PySem.Spec PyProof.Rows L2
def putN (kds : List (NestedKey × D)) (k : NestedKey) : List (NestedKey × D) := if (getN kds k).isSome then kds else kds ++ [(k, .bl true)]
def AllT (kds : List (NestedKey × D)) : Prop := ∀ p ∈ kds, p.2 = .bl true
theorem AllT.put {kds : List (NestedKey × D)} {k : NestedKey} (h : AllT kds) : AllT (putN kds k) := by
  unfold putN
  split
  · exact h
  · intro p hp
    rcases List.mem_append.mp hp with hp | hp
    · exact h p hp
    · rw [List.mem_singleton.mp hp]
theorem getN_mem {kds : List (NestedKey × D)} {k : NestedKey} {d : D} (h : getN kds k = some d) : ∃ p ∈ kds, p.2 = d := by
  unfold getN at h
  obtain ⟨p, hp, e⟩ := Option.map_eq_some_iff.mp h
  exact ⟨p, List.mem_of_find?_eq_some hp, e⟩
theorem MR.all {K : PySem.W.Frag} {G : Hp} {k : NestedKey} {u : Value} (hu : RelV (.bl true) u) : ∀ {kds : List (NestedKey × D)} {xs : L2.MX}, AllT kds → MR K G kds xs → MR K G kds (xs.map (putAt k u))
  | [], _, _, h => by rw [show _ = [] from h]; rfl
  | p :: r, _, t, ⟨a, v, u', rest, e, h1, h2, h3, h4, h5⟩ => by
    have hr := MR.all (k := k) hu (fun q hq => t q (List.mem_cons_of_mem _ hq)) h5
    have e1 := t p List.mem_cons_self
    subst e
    rw [List.map_cons]
    unfold putAt
    by_cases hk : p.1 = k
    · rw [if_pos hk]
      exact ⟨a, .bl true, u, _, rfl, h1, h2, hu, by rw [e1]; rfl, hr⟩
    · rw [if_neg hk]
      exact ⟨a, v, u', _, rfl, h1, h2, h3, h4, hr⟩
section
variable {X : Cx} {W : WX} {κ : Ko X.K} {kx tg iter c e : Expr} {scope : Scope} {δ : DEnv} {I : Iv X.K} {pos : Pos} {p : Addr} {sts : List Stmt}
end
def iKeys (P : Program) (w : World) (K : PySem.W.Frag) (q : Addr) (F : KF) (kds : List (NestedKey × D)) : Iv K := iObj K q (fun G o => o = keysO P w q F ∧ MR K G kds F.xs) fun _ _ _ s ⟨h1, h2⟩ => ⟨h1, h2.mono s⟩
structure KeI {K : PySem.W.Frag} (P : Program) (w : World) (I : Iv K) (q : Addr) (F : KF) (kds : List (NestedKey × D)) : Prop where
  h : ∀ (G H : Hp), Same G H → Hd I G H → H q = some (keysO P w q F) ∧ MR K G kds F.xs
section
variable {P : Program} {w : World} {K : PySem.W.Frag} {q : Addr} {F : KF} {kds : List (NestedKey × D)} {I J : Iv K}
theorem KeI.wk (h : KeI P w I q F kds) (k : Wk J I) : KeI P w J q F kds := ⟨fun G H s hd => h.h G H s (hd.wk k)⟩
theorem KeI.m (c : Rc K) : KeI P w (c.fill (iKeys P w K q F kds)) q F kds := ⟨fun G H s hd => by
  obtain ⟨o, ho, e, r⟩ := hd.inner.ph
  subst e
  exact ⟨ho, r⟩⟩
end
section
variable {X : Cx} {W : WX} {R : Rx X.K} {κ : Ko X.K} {tg iter : Expr} {δ : DEnv} {I : Iv X.K} {q : Addr} {F : KF} {kds : List (NestedKey × D)} {sts : List Stmt} {PP : List D → (Iv X.K → Prop) → Iv X.K → Prop}
end
end DL
set_option Elab.async false
set_option linter.all false
set_option maxRecDepth 100000
set_option maxHeartbeats 4000000
namespace DL
open PySem PySem.Spec PyProof.Rows L2
structure WkI (X : Cx) (tg iter : Expr) (δ : DEnv) (I : Iv X.K) (ds : List D) (Ok : Iv X.K → Prop) : Prop where
  ok : Ok I
  h : ∀ (W : WX) (R : Rx X.K) (PP : List D → (Iv X.K → Prop) → Iv X.K → Prop), PP ds Ok I → EvIR X W R tg iter δ I PP
section
variable {X : Cx} {W : WX} {R : Rx X.K} {κ : Ko X.K} {elt tg iter c e : Expr} {scope : Scope} {body : List Stmt} {δ : DEnv} {I : Iv X.K} {pos p2 : Pos} {p : Addr} {ds : List D} {Ok : Iv X.K → Prop}
end
end DL
set_option Elab.async false
set_option linter.all false
set_option maxRecDepth 100000
set_option maxHeartbeats 4000000
namespace DL
open PySem PySem.Spec PyProof.Rows L2
def nonB : D → Bool
  | .non => true
  | _ => false
theorem rep_non {K : PySem.W.Frag} {G : Hp} : ∀ {d : D} {v : V}, Rep K G d v → decide (v = .non) = nonB d
  | .non, _, h => by rw [show _ = V.non from h]; rfl
  | .bl _, _, h => by rw [show _ = V.bl _ from h]; rfl
  | .int _, _, h => by rw [show _ = V.int _ from h]; rfl
  | .str _, _, h => by rw [show _ = V.str _ from h]; rfl
  | .ty _, _, h => by rw [show _ = V.ty _ from h]; rfl
  | .adr _, _, h => by rw [show _ = V.ref _ from h]; rfl
  | .tup _, _, ⟨a, vs, h1, h2, h3⟩ => by rw [h1]; rfl
  | .lst _, _, ⟨a, vs, h1, h2, h3⟩ => by rw [h1]; rfl
  | .lsf _, _, ⟨a, vs, h1, h2, h3⟩ => by rw [h1]; rfl
  | .slo _ _, _, ⟨a, dx, vs, h1, h2, h3⟩ => by rw [h1]; rfl
  | .exc _ _ _ _ _, _, ⟨h1, vs, h2, h3⟩ => by rw [h1]; rfl
  | .dic _ _, _, ⟨a, od, vs, h1, h2, h4, h3⟩ => by rw [h1]; rfl
  | .tub _, _, ⟨a, od, vs, h1, h2, h4, h3⟩ => by rw [h1]; rfl
section
variable {X : Cx} {I : Iv X.K} {e : Expr} {δ : DEnv} {d : D} {pos p : Pos} {j : Nat}
end
end DL
set_option Elab.async false
set_option linter.all false
set_option maxRecDepth 100000
set_option maxHeartbeats 4000000
namespace DL
open PySem PySem.Spec PyProof.Rows L2
section
variable {X : Cx} {W : WX} {R : Rx X.K} {a : Expr} {lo hi : Option Expr} {δ : DEnv} {I : Iv X.K} {pos p2 : Pos} {P : D → Iv X.K → Prop}
end
theorem PVI.is {X : Cx} {I : Iv X.K} {tg iter : Expr} {δ : DEnv} {ds es : List D} (h : PVI X I tg iter δ ds) (q : ds = es) : PVI X I tg iter δ es := q ▸ h
section
variable {X : Cx} {I : Iv X.K} {e : Expr} {δ : DEnv} {d : D} {pos p : Pos} {j : Nat}
theorem pt_isN (h : PV X I e δ d) : PVT X I (.Compare e [.Is] [.Constant .none j p] pos) δ (nonB d) :=
  pt_cmp op_isN h pv_non fun P pp G H v w Q s hI r1 r2 q => ⟨r2, by rw [rep_non r1]; exact q _ (.bl (nonB d)) G H I (Same.refl G) s hI rfl pp⟩
end
end DL
set_option Elab.async false
set_option linter.all false
set_option maxRecDepth 100000
set_option maxHeartbeats 4000000
namespace DL
open PySem PySem.Spec PyProof.Rows L2
section
variable {X : Cx} {o i f : Expr} {δ : DEnv} {I : Iv X.K} {apos pos : Pos} {y z dflt d : D} {k : Key} {kds : List (Key × D)}
end
end DL
set_option Elab.async false
set_option linter.all false
set_option maxRecDepth 100000
set_option maxHeartbeats 4000000
namespace DL
open PySem PySem.Spec PyProof.Rows L2
section
variable {X : Cx} {W : WX} {R : Rx X.K} {o e : Expr} {δ : DEnv} {I : Iv X.K} {apos pos ep : Pos} {q : Addr} {k : Str} {ss : List Str} {κ : Ko X.K} {ds : List D}
end
end DL
set_option Elab.async false
set_option linter.all false
set_option maxRecDepth 100000
set_option maxHeartbeats 4000000
namespace DL
open PySem PySem.Spec PyProof.Rows L2
section
variable {X : Cx} {e : Expr} {δ : DEnv} {I : Iv X.K} {p1 p2 p3 pos : Pos} {k : Nat} {ds : List D}
end
end DL
set_option Elab.async false
set_option linter.all false
set_option maxRecDepth 100000
set_option maxHeartbeats 4000000
namespace DL
open PySem PySem.Spec PyProof.Rows L2
section
variable {X : Cx} {o e : Expr} {δ : DEnv} {I : Iv X.K} {apos pos : Pos} {k : Str} {ss : List Str}
def rLIndex (K : PySem.W.Frag) : V → List V → Hp → VK → Prop := fun x xs H Q => ∃ (a : Addr) (ys : List Str) (k : Str), x = V.ref a ∧ xs = [.str k] ∧ SqL K H a (ys.map V.str) ∧ ys.length ≤ 100000 ∧ k ∈ ys ∧ Q (.int (ys.idxOf k : Nat)) H
theorem mt_lindexS : MtR X "list.index" (rLIndex X.K) := by
  intro pins s σ H x xs v us Q I rx rxs h
  obtain ⟨a, ys, k, rfl, rfl, hs, hz, hk, q⟩ := h
  cases rx
  obtain ⟨u, rfl, ru⟩ := rxs.one
  obtain ⟨t, rfl⟩ := (show ∃ t, u = Value.str k t from ru)
  obtain ⟨its, rv, ⟨ob, n, ho, hc, _, hd⟩, _⟩ := I.list hs
  exact PySem.SeqAt.list_index_strs ⟨ob, ho, hc, n, hd⟩ (strs_of_vals rv) (by rw [sizeLine_eq]; omega) hk ⟨.int _, H, I.tok _, ⟨_, rfl⟩, q⟩
theorem pv_lindexK (ho : PV X I o δ (.lst (ss.map D.str))) (he : PV X I e δ (.str k)) (hz : ss.length ≤ 100000) (hk : k ∈ ss)
    (hbase : attributeBase o "index" X.env (eval o X.env) = eval o X.env := by rfl)
    (hfew : ((backTo pos (starEach [e] X.env)).all (fun x => !x.1) && (backToKw pos (keywordEach [] X.env)).all (fun x => x.1.isSome) && decide ([e].length + ([] : List Keyword).length + (if ([] : List Keyword).isEmpty then 0 else 1) < 30)) = true := by rfl)
    (hline : (apos.endLine == pos.line) = true := by rfl) (hst : starEach [e] X.env = (false, eval e X.env) :: starEach [] X.env := by rfl) (hpl : (backTo pos (starEach [] X.env)).any (·.1) = false := by rfl) : PV X I (.Call (.Attribute o "index" apos) [e] [] pos) δ (.int (ss.idxOf k : Nat)) := fun W R P pp σ G H Q hE s hI qx qq =>
  PE.wp (pe_bm PySem.F.plainAttrs_list PySem.F.slot_list_index PySem.F.type_list_index mt_lindexS peC (pa_cons peC pa_nil hst) hbase hfew hline hst hpl) (ho W R (fun z I1 => z = .lst (ss.map D.str) ∧ I1 = I) ⟨rfl, rfl⟩ σ G H _ hE s hI qx fun v d1 G1 H1 I1 s1 t1 h1 r1 ⟨ed, ei⟩ => by
    subst ed ei
    obtain ⟨a, vs, rfl, e2, e3⟩ := r1
    have e4 := repsStr e3
    subst e4
    refine ⟨.inl ⟨rfl, _, .inl (.inl (t1 _ _ e2))⟩, ?_⟩
    refine he W R (fun z J => z = .str k ∧ J = I1) ⟨rfl, rfl⟩ σ G1 H1 _ (hE.mono s1) t1 h1 (qx.mono s1) fun v2 d2 G2 H2 I2 s2 t2 h2 r2 ⟨ed2, ei2⟩ => ?_
    subst ed2 ei2
    exact ⟨a, ss, k, rfl, by rw [show v2 = .str k from r2], SqL.of (t2 _ _ (s2 _ _ e2)), hz, hk, qq _ (.int _) G2 H2 _ (s1.trans s2) t2 h2 rfl pp⟩)
end
end DL
set_option Elab.async false
set_option linter.all false
set_option maxRecDepth 100000
set_option maxHeartbeats 4000000
namespace DL
open PySem PySem.Spec PyProof.Rows L2
section
variable {X : Cx} {W : WX} {R : Rx X.K} {P : D → Iv X.K → Prop} {o k e : Expr} {δ : DEnv} {I : Iv X.K} {pos apos p2 : Pos} {d : D} {ks : List NestedKey} {p : Addr} {ds : List D}
theorem ev_popM (c : Rc X.K) (ho : PV X I o δ (.adr p)) (eI : I = c.fill (iLst X.K p (ds ++ [d]))) (pp : P d (c.fill (iLst X.K p ds)))
    (hbase : attributeBase o "pop" X.env (eval o X.env) = eval o X.env := by rfl) (hline : (apos.endLine == pos.line) = true := by rfl) : EvX X W R (.Call (.Attribute o "pop" apos) [] [] pos) δ I P := fun σ G H Q hE s hI qx q =>
  PE.wp (pe_bm0 PySem.F.plainAttrs_list PySem.F.slot_list_pop PySem.F.type_list_pop mt_pop peC hbase hline) (ho W R (fun z J => z = .adr p ∧ J = I) ⟨rfl, rfl⟩ σ G H _ hE s hI qx fun v z G1 H1 I1 s1 t1 h1 r1 ⟨e1, e2⟩ => by
    subst e1 e2 eI
    obtain ⟨vs, hp, rv, gp⟩ := h1.lst
    obtain rfl : v = .ref p := r1
    refine ⟨.inl ⟨rfl, _, .inl (.inl hp)⟩, ?_⟩
    have hl := rv.length
    rw [List.length_append] at hl
    obtain ⟨y, hy, ry⟩ := rv.get (i := ds.length) (d := d) (by simp)
    refine ⟨p, vs, y, rfl, rfl, hp, by rw [hl]; exact hy, ?_⟩
    have hr : Reps X.K G1 ds vs.dropLast := by
      have := rv.take ds.length
      rw [List.take_left] at this
      rw [List.dropLast_eq_take, hl]
      exact this
    exact q _ _ G1 _ _ s1 (same_upd t1 gp) (h1.lstSet hr) ry pp)
end
end DL
set_option Elab.async false
set_option linter.all false
set_option maxRecDepth 100000
set_option maxHeartbeats 4000000
namespace DL
open PySem PySem.Spec PyProof.Rows L2
section
variable {X : Cx}
end
section
variable {X : Cx} {e : Expr} {δ : DEnv} {I : Iv X.K} {pos p : Pos} {ds : List D} {W : WX} {R : Rx X.K} {P : D → Iv X.K → Prop}
end
end DL
namespace L2
open PySem PySem.Spec PyProof.Rows
end L2
namespace DL
open PySem PySem.Spec PyProof.Rows L2
section
variable {X : Cx} {e : Expr} {δ : DEnv} {I : Iv X.K} {pos p : Pos} {q : Addr} {F : KF} {kds : List (NestedKey × D)}
end
end DL
set_option Elab.async false
set_option linter.all false
set_option maxRecDepth 100000
set_option maxHeartbeats 4000000
namespace DL
open PySem PySem.Spec PyProof.Rows L2
section
variable {X : Cx} {o i : Expr} {δ : DEnv} {I : Iv X.K} {pos : Pos} {q : Addr} {kds : List (NestedKey × D)} {ks : List NestedKey}
end
end DL
set_option Elab.async false
set_option linter.all false
set_option maxRecDepth 100000
set_option maxHeartbeats 4000000
namespace DL
open PySem PySem.Spec PyProof.Rows L2
def setN (kds : List (NestedKey × D)) (k : NestedKey) (d : D) : List (NestedKey × D) := if (getN kds k).isSome then kds.map (fun p => if p.1 = k then (p.1, d) else p) else kds ++ [(k, d)]
theorem MR.upd {K : PySem.W.Frag} {G : Hp} {k : NestedKey} {u : Value} {w : V} {d : D} (hu : RelV w u) (hd : Rep K G d w) : ∀ {kds : List (NestedKey × D)} {xs : L2.MX}, MR K G kds xs → MR K G (kds.map fun p => if p.1 = k then (p.1, d) else p) (xs.map (putAt k u))
  | [], _, h => by rw [show _ = [] from h]; rfl
  | p :: r, _, ⟨a, v, u', rest, e, h1, h2, h3, h4, h5⟩ => by
    have hr := MR.upd (k := k) hu hd h5
    subst e
    rw [List.map_cons, List.map_cons]
    unfold putAt
    by_cases hk : p.1 = k
    · rw [if_pos hk, if_pos hk]
      exact ⟨a, w, u, _, rfl, h1, h2, hu, hd, hr⟩
    · rw [if_neg hk, if_neg hk]
      exact ⟨a, v, u', _, rfl, h1, h2, h3, h4, hr⟩
theorem MR.isSome {K : PySem.W.Frag} {G : Hp} {k : NestedKey} {kds : List (NestedKey × D)} {xs : L2.MX} (mr : MR K G kds xs) : (atKey xs k).isSome = (getN kds k).isSome := by
  cases h : getN kds k with
  | none => rw [mr.get.2 h]; rfl
  | some d0 =>
    obtain ⟨a', u', v', h3, _⟩ := mr.get.1 d0 h
    rw [h3]; rfl
theorem MR.set {K : PySem.W.Frag} {G : Hp} {k : NestedKey} {u : Value} {w : V} {d : D} {a : Addr} {kds : List (NestedKey × D)} {xs : L2.MX} (mr : MR K G kds xs) (h1 : Rep K G (keyN k) (.ref a)) (h2 : k.depth ≤ 8) (hu : RelV w u) (hd : Rep K G d w) : MR K G (setN kds k d) (storedH xs k a u) := by
  unfold setN storedH
  rw [mr.isSome]
  cases (getN kds k).isSome with
  | true => exact mr.upd hu hd
  | false => exact MR.app h1 h2 hu hd mr
structure MemI {K : PySem.W.Frag} (P : Program) (w : World) (I : Iv K) (q : Addr) (kds : List (NestedKey × D)) : Prop where
  h : ∀ (G H : Hp), Same G H → Hd I G H → ∃ xs, H q = some (memoO P w q xs) ∧ MR K G kds xs
theorem MemI.m {K : PySem.W.Frag} {P : Program} {w : World} {q : Addr} {kds : List (NestedKey × D)} (c : Rc K) : MemI P w (c.fill (iMemo P w K q kds)) q kds := ⟨fun G H s hI => let ⟨xs, h1, h2, _⟩ := hI.memo; ⟨xs, h1, h2⟩⟩
theorem MemI.wk {K : PySem.W.Frag} {P : Program} {w : World} {I J : Iv K} {q : Addr} {kds : List (NestedKey × D)} (h : MemI P w I q kds) (k : Wk J I) : MemI P w J q kds := ⟨fun G H s hI => h.h G H s (hI.wk k)⟩
theorem MemI.andL {K : PySem.W.Frag} {P : Program} {w : World} {I J : Iv K} {q : Addr} {kds : List (NestedKey × D)} (h : MemI P w I q kds) : MemI P w (I.and J) q kds := h.wk Wk.dropR
section
variable {X : Cx} {W : WX} {R : Rx X.K} {P : D → Iv X.K → Prop} {o i f e : Expr} {δ : DEnv} {I : Iv X.K} {pos apos ps : Pos} {q : Addr} {kds : List (NestedKey × D)} {ks : List NestedKey} {d : D} {κ : Ko X.K}
end
end DL
set_option Elab.async false
set_option linter.all false
set_option maxRecDepth 100000
set_option maxHeartbeats 4000000
namespace DL
open PySem PySem.Spec PyProof.Rows L2
theorem Reps.erase {K : PySem.W.Frag} {G : Hp} : ∀ {ds : List D} {vs : List V} (j : Nat), Reps K G ds vs → Reps K G (ds.eraseIdx j) (vs.eraseIdx j)
  | [], _, _, h => by rw [show _ = [] from h]; exact rfl
  | d :: ds, _, 0, ⟨v, r, e, _, h⟩ => by rw [e]; exact h
  | d :: ds, _, j + 1, ⟨v, r, e, h1, h⟩ => by rw [e]; exact ⟨v, r.eraseIdx j, rfl, h1, Reps.erase j h⟩
section
variable {X : Cx} {W : WX} {R : Rx X.K} {P : D → Iv X.K → Prop} {o i e : Expr} {δ : DEnv} {I : Iv X.K} {pos p apos ep : Pos} {kds : List (Key × D)} {κ : Ko X.K} {q : Addr} {ds : List D}
end
end DL
set_option Elab.async false
set_option linter.all false
set_option maxRecDepth 100000
set_option maxHeartbeats 4000000
namespace DL
open PySem PySem.Spec PyProof.Rows L2
structure DcI {K : PySem.W.Frag} (I : Iv K) (d : D) (kds : List (Key × D)) : Prop where
  h : ∀ (G H : Hp) (v : V), Same G H → Hd I G H → Rep K G d v → ∃ a kvs, v = .ref a ∧ Rd H a (.dK kvs) ∧ KR K G kds kvs
def iFrz (K : PySem.W.Frag) (q : Addr) (od : Obj) (kvs : List (Key × V)) (kds : List (Key × D)) : Iv K := iObj K q (fun G o => o = .frz od (.dK kvs) ∧ KR K G kds kvs) fun _ _ _ s ⟨h1, h2⟩ => ⟨h1, h2.mono s⟩
section
variable {K : PySem.W.Frag} {I J : Iv K} {d : D} {kds : List (Key × D)} {q : Addr} {od : Obj} {kvs : List (Key × V)} {c : Rc K} {G H : Hp}
theorem DcI.k : DcI I (dicD kds) kds := ⟨fun G H v s _ r => by
  obtain ⟨a, od, kvs, e1, e2, e3⟩ := rep_dicD.mp r
  exact ⟨a, kvs, e1, .inr ⟨od, s _ _ e2⟩, e3⟩⟩
theorem DcI.m (c : Rc K) (eI : I = c.fill (iDic K q kds) := by rfl) : DcI I (.adr q) kds := ⟨fun G H v s hI r => by
  subst eI
  obtain ⟨kvs, hp, r2, _⟩ := hI.dic
  exact ⟨q, kvs, r, .inl hp, r2⟩⟩
theorem Hd.frzd (h : Hd (c.fill (iFrz K q od kvs kds)) G H) : H q = some (.frz od (.dK kvs)) ∧ KR K G kds kvs ∧ G q = none := by
  have p := h.inner
  obtain ⟨o, ho, e, r⟩ := p.ph
  subst e
  exact ⟨ho, r, p.fr q rfl⟩
theorem DcI.f (c : Rc K) (eI : I = c.fill (iFrz K q od kvs kds) := by rfl) : DcI I (.adr q) kds := ⟨fun G H v s hI r => by
  subst eI
  obtain ⟨hp, r2, _⟩ := hI.frzd
  exact ⟨q, kvs, r, .inr ⟨od, hp⟩, r2⟩⟩
theorem DcI.wk (w : Wk I J) (h : DcI J d kds) : DcI I d kds := ⟨fun G H v s hI r => h.h G H v s (hI.wk w) r⟩
structure FzI (I : Iv K) (q : Addr) (od : Obj) (kvs : List (Key × V)) (kds : List (Key × D)) : Prop where
  h : ∀ (G H : Hp), Same G H → Hd I G H → H q = some (.frz od (.dK kvs)) ∧ KR K G kds kvs
theorem FzI.f (c : Rc K) (eI : I = c.fill (iFrz K q od kvs kds) := by rfl) : FzI I q od kvs kds := ⟨fun G H s hI => by
  subst eI
  exact ⟨hI.frzd.1, hI.frzd.2.1⟩⟩
theorem FzI.wk (w : Wk I J) (h : FzI J q od kvs kds) : FzI I q od kvs kds := ⟨fun G H s hI => h.h G H s (hI.wk w)⟩
end
section
variable {X : Cx} {W : WX} {R : Rx X.K} {a b e o i tg iter : Expr} {st : Stmt} {δ : DEnv} {I : Iv X.K} {P : D → Iv X.K → Prop} {pos p2 : Pos} {d x y z : D} {ds : List D} {κ : Ko X.K} {q : Addr} {kds : List (Key × D)} {k : Key} {od : Obj} {kvs : List (Key × V)}
theorem ev_dictC {p : Pos} (hm : X.mg "dict" = none) (h : PV X I e δ z) (dI : DcI I z kds) (pp : ∀ n, P (.adr n) (I.and (iDic X.K n kds))) (hg : Gl X "dict" := by rfl)
    (he : starEach [e] X.env = (false, eval e X.env) :: starEach [] X.env := by rfl) (hpl : (backTo pos (starEach [] X.env)).any (·.1) = false := by rfl) : EvX X W R (.Call (.Name "dict" p) [e] [] pos) δ I P :=
  ev_ct call_dictD hm (ea_cons (h W R _ (ea_nil fun G H vs Q s hI ⟨v, r, e1, e2, e3⟩ q => by
    obtain ⟨a, kvs, ev, rd, kr⟩ := dI.h G H v s hI e2
    refine ⟨a, kvs, by rw [e1, ev, show r = [] from e3], rd, fun n hn => ?_⟩
    have hg : G n = none := s.free hn
    have na : ∀ a, ¬ (I.F a ∧ a = n) := fun a ha => hI.dom ha.1 (by rw [ha.2]; exact hn)
    exact q (.ref n) (.adr n) G _ (I.and (iDic X.K n kds)) (Same.refl G) (same_upd s hg) (Hd.mk2 (hI.newp hn) ⟨⟨_, upd_same, kvs, rfl, kr⟩, fun a ha => by rw [show a = n from ha]; exact hg⟩ na) rfl (pp n))) he) (by decide +kernel) hg (by decide) (by decide) he hpl
def dropG {α : Type} (kds : List (Key × α)) (k : Key) : List (Key × α) := kds.filter fun kv => decide (kv.1 ≠ k)
theorem KR.dropG {K : PySem.W.Frag} {G : Hp} {k : Key} : ∀ {kds : List (Key × D)} {kvs : List (Key × V)}, KR K G kds kvs → KR K G (DL.dropG kds k) (L2.dropK kvs k)
  | [], _, h => by rw [show _ = [] from h]; exact rfl
  | p :: ps, _, ⟨v, r, e, r1, r2⟩ => by
    rw [e]
    unfold DL.dropG L2.dropK
    rw [List.filter_cons, List.filter_cons]
    by_cases hk : p.1 = k
    · rw [if_neg (by simpa using hk), if_neg (by simpa using hk)]
      exact KR.dropG r2
    · rw [if_pos (by simpa using hk), if_pos (by simpa using hk)]
      exact ⟨v, _, rfl, r1, KR.dropG r2⟩
theorem ev_popD (c : Rc X.K) {apos : Pos} (ho : PV X I o δ (.adr q)) (hi : PV X I i δ y) (hk : keyD y = some k) (hd : getG kds k = some d) (eI : I = c.fill (iDic X.K q kds)) (pp : P d (c.fill (iDic X.K q (dropG kds k))))
    (hbase : attributeBase o "pop" X.env (eval o X.env) = eval o X.env := by rfl)
    (hfew : ((backTo pos (starEach [i] X.env)).all (fun x => !x.1) && (backToKw pos (keywordEach [] X.env)).all (fun x => x.1.isSome) && decide (([i] : List Expr).length + ([] : List Keyword).length + (if ([] : List Keyword).isEmpty then 0 else 1) < 30)) = true := by rfl)
    (hline : (apos.endLine == pos.line) = true := by rfl) (htr : backTo pos (starEach [i] X.env) = [(false, eval i X.env)] := by rfl) : EvX X W R (.Call (.Attribute o "pop" apos) [i] [] pos) δ I P := fun σ G H Q hE s hI qx qq =>
  PE.wp (pe_dpop1 peC peC ⟨hbase, hfew, hline, htr⟩) (ho W R (fun z J => z = .adr q ∧ J = I) ⟨rfl, rfl⟩ σ G H _ hE s hI qx fun v z G1 H1 I1 s1 t1 h1 r1 ⟨e1, e2⟩ => by
    subst e1 e2 eI
    obtain rfl : v = .ref q := r1
    obtain ⟨kvs0, hp0, _, _⟩ := h1.dic
    refine ⟨q, rfl, .inl ⟨kvs0, .inl hp0⟩, ?_⟩
    refine hi W R (fun z1 J => z1 = y ∧ J = c.fill (iDic X.K q kds)) ⟨rfl, rfl⟩ σ G1 H1 _ (hE.mono s1) t1 h1 (qx.mono s1) fun v2 d2 G2 H2 I2 s2 t2 h2 r2 ⟨ed2, ei2⟩ => ?_
    subst ed2 ei2
    obtain ⟨kvs, hp, kr, g⟩ := h2.dic
    obtain ⟨u, e3, e4⟩ := (kr.get (k := k)).1 d hd
    refine ⟨kvs, k, u, hp, rep_key hk r2, e3, ?_⟩
    exact qq u d G2 _ _ (s1.trans s2) (same_upd t2 g) (h2.dicSet kr.dropG) e4 pp)
end
end DL
set_option Elab.async false
set_option linter.all false
set_option maxRecDepth 100000
set_option maxHeartbeats 1000000
namespace DL
open PySem PySem.Spec PyProof.Rows L2
section
variable {X : Cx} {W : WX} {elt tg iter : Expr} {scope : Scope} {δ : DEnv} {I : Iv X.K} {Ok : Iv X.K → Prop}
end
end DL
namespace LK
open PySem PySem.Spec PyProof.Rows L2 DL
section
variable {P : Program} {w : World} {K : PySem.W.Frag} {mg : Str → Option Value} {base : Heap}
end
end LK
set_option Elab.async false
set_option linter.all false
set_option maxRecDepth 100000
set_option maxHeartbeats 1000000
namespace LK
open PySem PySem.Spec PyProof.Rows L2 DL
def nameFault (p : Str × Wv) : Option (Str × Option Nat) := if isNameS p.1 = true then (lookFault p.2).map fun o => (p.1, o) else some (p.1, none)
def castFault (ws : List (Str × Wv)) : Option (Str × Option Nat) := if 1 ≤ ws.length ∧ ws.length ≤ 6 then (sortW ws).findSome? nameFault else some ("", none)
abbrev wksD (K : PySem.W.Frag) (ws : List (Str × Wv)) : D := dicT ws (·.1) (fun p => p.2.d K)
abbrev ctbD (K : PySem.W.Frag) (ws : List (Str × Wv)) : D := dicT (sortW ws) (·.1) (fun p => .tup (p.2.ths.map (Th.d K)))
structure WksOk (ws : List (Str × Wv)) : Prop where
  nd : (ws.map (·.1)).Nodup
  ok : ∀ p ∈ ws, p.2.ok
  ln : ∀ p ∈ ws, p.1.length ≤ 100000
  sz : ws.length ≤ 50
def sCInit {K : PySem.W.Frag} : Spec K := fun I ds P R => ∃ (x dx : Addr) (J : Iv K) (ws : List (Str × Wv)), ds = [.adr x, wksD K ws] ∧ I = J.and (iSl K x (cC K) dx []) ∧ WksOk ws ∧ match castFault ws with
  | none => P .non (J.and (iSl K x (cC K) dx [some (ctbD K ws)]))
  | some no => R (He.ga K "InvalidCast") (xCast K no.1 no.2) I
theorem names_D (ws : List (Str × Wv)) : (sortS (ws.map (·.1))).map D.str = (sortW ws).map fun p => D.str p.1 := by
  rw [← sortW_names, List.map_map]; rfl
theorem kb0 {K : PySem.W.Frag} {x qual : Str} {params : Arguments} {body : List Stmt} {scope : Scope} {kws : List (Str × V)} {f : Addr} {fd : FuncData} {ps : List Str} (F : FunD K x qual params body scope [] kws f fd) (n : Nat) (hn : ps.length = n)
    (h : ∀ (kV doc pm : Value) (an : Option Addr) (cdv ct : Value) (us : List Value), us.length = ps.length → bindArgs (PySem.W.fnOf x qual params body scope .none kV doc pm an cdv ct) ⟨us, []⟩ = pure (ps.zip us)) : KBn K fd ps n [] (fun us _ => us) (fun vs _ => vs) :=
  ⟨fun s us ws _ l1 l2 => F.bindsA h s us (by rw [l1, hn]), fun r1 _ => r1⟩
section
variable {P : Program} {w : World} {K : PySem.W.Frag} {mg : Str → Option Value} {base : Heap}
theorem M_cInit (E : Env P w K mg base) : ∃ fd, FnOk P w K mg base (L2.CX P w) 4 (He.ma K (cC K) "__init__") fd ["self", "works"] (spD K sCInit) ∧ ∃ g, KBn K fd ["self", "works"] 2 [] g fun vs _ => vs := by
  obtain ⟨fd, F⟩ := E.has _ in_m_Cast_init
  have F : FunD K "__init__" "Cast.__init__" (defArgs m_Cast_init) (defBody m_Cast_init) (defScope m_Cast_init) [] [] (He.ma K (cC K) "__init__") fd := F
  have b0 := kb0 (ps := ["self", "works"]) F 2 rfl fun _ _ _ _ _ _ us hl => match us, hl with | [_, _], _ => rfl
  refine ⟨fd, ?_, _, b0⟩
  refine fn_d F sc_m_Cast_init (fun I ds P R h => by obtain ⟨x, dx, J, ws, rfl, _⟩ := h; rfl) fun cdv A outer s H EE hr tk po I ds Q R h => ?_
  obtain ⟨x, dx, J, ws, rfl, rfl, o, q⟩ := h
  have nd := sc_m_Cast_init.nd
  have hu := hr.units
  have hu1 := hr.u1
  have hr1 : Room 1 _ := hr.mono (by decide)
  have hr2 : Room 2 _ := hr.mono (by decide)
  have hl : (ws.map fun x => ((.inr x.1 : Key), x.2.d K)).length = ws.length := by simp
  refine s_cons (s_ifP (ptn (pt_chn op_le op_le pv_int (pv_len E.b_len (pv_w (d := wksD K ws) 1 rfl) trivial) p2_le (pv_gint E.c_MOST_WORKS) p2_le)) (fun e => ?_) fun e => s_nil ?_)
  · have e2 : castFault ws = some (("" : Str), none) := by
      unfold castFault
      rw [if_neg]
      rw [hl] at e
      simp only [Bool.not_eq_true', Bool.and_eq_false_iff, decide_eq_false_iff_not] at e
      omega
    rw [e2] at q
    exact s_one (s_rz (hr := hr2) tk E.x_InvalidCast E.ini_InvalidCast (ea_cons (pv_str.ev (ea_cons (pv_non.ev (ea_nil ⟨rfl, by simp, q⟩))))))
  have hsz : 1 ≤ ws.length ∧ ws.length ≤ 6 := by
    rw [hl] at e
    simp only [Bool.not_eq_false', Bool.and_eq_true, decide_eq_true_eq] at e
    omega
  have hF : castFault ws = (sortW ws).findSome? nameFault := by unfold castFault; rw [if_pos hsz]
  rw [hF] at q
  have hsub : ∀ p ∈ sortW ws, p ∈ ws := fun p hp => (sortW_perm ws).mem_iff.mp hp
  have hsl : (sortW ws).length ≤ 6 := by rw [(sortW_perm ws).length_eq]; exact hsz.2
  have hnd2 := sortW_nd o.nd
  have hgo : ∀ p ∈ sortW ws, getG (ws.map fun x => ((.inr x.1 : Key), x.2.d K)) (.inr p.1) = some (p.2.d K) := fun p hp => get_dicT (k := fun x : Str × Wv => x.1) (v := fun x => x.2.d K) o.nd (hsub p hp)
  have hnm := names_D ws
  unfold ctbD at q
  generalize hSW : sortW ws = sw at *
  refine s_cons (s_forT (xs := sw) (g := fun p => D.str p.1) po (by rw [← hnm]; exact vi_lst (pv_sortedS E.b_sorted (pv_listD E.b_list (pv_v 1)) (by rw [List.length_map]; omega))) (fun p δ' I' => I' = J.and (iSl K x (cC K) dx []) ∧ (∀ y ∈ p, nameFault y = none) ∧ DLe δ' [some (.adr x), some (wksD K ws), none]) ⟨rfl, (fun y hy => nomatch hy), .of rfl rfl⟩ ?_ ?_)
  · rintro p ⟨n, v⟩ r δ' I' e2 ⟨rfl, hp, hle⟩
    have hm : (n, v) ∈ sw := by rw [e2]; simp
    have hw := hsub _ hm
    refine ⟨_, [2], (bind_name 2).le hle, ?_⟩
    refine s_cons (s_ifP (ptn (pt_v (pv_def (D_is_name E) hr1 (va_cons (pv_v 2) va_nil) fun P pp => ⟨n, rfl, o.ln _ hw, pp⟩))) (fun e3 => ?_) fun e3 => s_nil ?_)
    · refine s_one (s_rz (hr := hr2) tk E.x_InvalidCast E.ini_InvalidCast (ea_cons ((pv_v 2).ev (ea_cons (pv_non.ev (ea_nil ⟨rfl, by simp, ?_⟩))))))
      have e4 : nameFault (n, v) = some (n, none) := by
        unfold nameFault
        rw [if_neg (by simpa using e3)]
      rw [e2, findSome_hit hp e4] at q
      exact q
    · have e3' : isNameS n = true := by simpa using e3
      refine s_one (s_expr (ev_def tk (D_look E) hr (ea_cons ((pv_v 2).ev (ea_cons ((pv_dget hu1 (.inl rfl) (pv_v 1) (pv_v 2) rfl (hgo _ hm)).ev (ea_nil ⟨n, v, rfl, o.ok _ hw, ?_⟩)))))))
      have e4 : nameFault (n, v) = (lookFault v).map fun o => (n, o) := by
        unfold nameFault
        rw [if_pos e3']
      cases hh : lookFault v with
      | none =>
        refine ⟨rfl, fun y hy => ?_, .of rfl rfl⟩
        rcases List.mem_append.mp hy with h | h
        · exact hp y h
        · rw [List.mem_singleton.mp h, e4, hh]; rfl
      | some oo =>
        rw [hh] at e4
        rw [e2, findSome_hit hp e4] at q
        exact q
  · rintro δ' I' ⟨rfl, hp, hle⟩
    refine SX.le hle ?_
    have e5 : sw.findSome? nameFault = none := List.findSome?_eq_none_iff.mpr hp
    rw [e5] at q
    have hths : ∀ p ∈ sw, p.2.d K = .lst (p.2.ths.map (Th.d K)) ∨ p.2.d K = .lsf (p.2.ths.map (Th.d K)) ∨ p.2.d K = .tup (p.2.ths.map (Th.d K)) := fun p hpm => by
      have hf := hp p hpm
      unfold nameFault at hf
      split at hf
      · cases hv : p.2 with
        | ls ths => exact .inl rfl
        | tp ths => exact .inr (.inr rfl)
        | ot d => rw [hv] at hf; cases hf
      · cases hf
    refine s_one (s_slot (.r J .here) E.k_Cast.sc E.s_Cast_table (pv_v 0) (pv_dcT (xs := sw) (g := fun p => D.str p.1) (fun p => .inr p.1) (fun p => .tup (p.2.ths.map (Th.d K))) [("name", 2)] (fun p => [some (.adr x), some (wksD K ws), some (.str p.1)]) (by rw [← hnm]; exact vi_lst (pv_sortedS E.b_sorted (pv_listD E.b_list (pv_v 1)) (by rw [List.length_map]; omega))) (by omega) (fun p s H C cl fp => bind_name 2) (fun p hp J s H C cl fp => pv_v 2) (fun p hp J s H C cl fp => pv_tuple E.b_tuple (pv_dget hu1 (.inl rfl) (pv_v 1) (pv_v 2) rfl (hgo _ hp)) (hths p hp)) ?_) ?_)
    · exact nodup_key hnd2
    · exact q
end
end LK
set_option Elab.async false
set_option linter.all false
set_option maxRecDepth 100000
set_option maxHeartbeats 1000000
namespace LK
open PySem PySem.Spec PyProof.Rows L2 DL
abbrev Tb := List (Str × List Wr)
structure RowOk (ws : List Wr) : Prop where
  g : ∀ w ∈ ws, GoodR w
  n : 1 ≤ ws.length
  m : ws.length ≤ 8
  k : kindFault (ws.map (·.k)) = none
structure TbOk (t : Tb) : Prop where
  nd : (t.map (·.1)).Nodup
  nm : ∀ p ∈ t, isNameS p.1 = true
  row : ∀ p ∈ t, RowOk p.2
  n : 1 ≤ t.length
  m : t.length ≤ 6
def rowD (K : PySem.W.Frag) (ws : List Wr) : D := .tup (ws.map (wrD K))
abbrev tbD (K : PySem.W.Frag) (t : Tb) : D := dicT t (·.1) (fun p => rowD K p.2)
def cD (K : PySem.W.Frag) (t : Tb) : D := .slo (cC K) [tbD K t]
def lsW (ws : List Wr) : Wv := .ls (ws.map .wr)
def tpW (ws : List Wr) : Wv := .tp (ws.map .wr)
theorem ths_map (K : PySem.W.Frag) (ws : List Wr) : (ws.map Th.wr).map (Th.d K) = ws.map (wrD K) := by rw [List.map_map]; rfl
theorem kinds_map (ws : List Wr) : (ws.map Th.wr).map Th.kind = ws.map (·.k) := by rw [List.map_map]; rfl
theorem lsW_d (K : PySem.W.Frag) (ws : List Wr) : (lsW ws).d K = .lst (ws.map (wrD K)) := by show D.lst _ = _; rw [ths_map]
theorem isName_len {s : Str} (h : isNameS s = true) : 1 ≤ s.length ∧ s.length ≤ 8 := by
  unfold isNameS at h
  simp only [Bool.and_eq_true, decide_eq_true_eq] at h
  exact ⟨h.1.1, h.1.2⟩
structure PassW (f : Str × List Wr → Wv) : Prop where
  h : ∀ p, f p = lsW p.2 ∨ f p = tpW p.2
theorem PassW.look {f : Str × List Wr → Wv} (h : PassW f) {p : Str × List Wr} (r : RowOk p.2) : lookFault (f p) = none := by
  have e : lookThs (p.2.map Th.wr) = none := by
    unfold lookThs
    rw [List.length_map, if_pos ⟨r.n, r.m⟩, kinds_map, r.k]; rfl
  rcases h.h p with h | h <;> rw [h] <;> exact e
theorem PassW.ths {f : Str × List Wr → Wv} (h : PassW f) (p : Str × List Wr) : (f p).ths = p.2.map Th.wr := by
  rcases h.h p with h | h <;> rw [h] <;> rfl
theorem TbOk.sort {t : Tb} (h : TbOk t) : TbOk (sortW t) :=
  have m : ∀ {p}, p ∈ sortW t → p ∈ t := fun hp => (sortW_perm t).mem_iff.mp hp
  ⟨sortW_nd h.nd, fun p hp => h.nm p (m hp), fun p hp => h.row p (m hp), by rw [(sortW_perm t).length_eq]; exact h.n, by rw [(sortW_perm t).length_eq]; exact h.m⟩
theorem map_fst {α β : Type} (f : Str × α → β) (t : List (Str × α)) : (t.map fun p => (p.1, f p)).map (·.1) = t.map (·.1) := by rw [List.map_map]; rfl
theorem sortW_map' {α β : Type} (f : Str × α → β) {ws : List (Str × α)} (nd : (ws.map (·.1)).Nodup) : sortW (ws.map fun p => (p.1, f p)) = (sortW ws).map fun p => (p.1, f p) := by
  refine (sortW_uniq (by rw [map_fst]; exact nd) ?_ ((sortW_perm ws).map _)).symm
  exact List.pairwise_map.mpr (sortW_pw ws)
section
variable {K : PySem.W.Frag} {t : Tb} {f : Str × List Wr → Wv}
theorem TbOk.wks (h : TbOk t) (hf : PassW f) : WksOk (t.map fun p => (p.1, f p)) := by
  refine ⟨by rw [map_fst]; exact h.nd, fun q hq => ?_, fun q hq => ?_, by rw [List.length_map]; have := h.m; omega⟩
  · obtain ⟨p, hp, rfl⟩ := List.mem_map.mp hq
    have r := h.row p hp
    have hall : (∀ x ∈ p.2.map Th.wr, x.ok) ∧ (p.2.map Th.wr).length ≤ 1000 := ⟨fun x hx => by
      obtain ⟨w, hw, rfl⟩ := List.mem_map.mp hx
      exact (r.g w hw).g.gk, by rw [List.length_map]; have := r.m; omega⟩
    show (f p).ok
    rcases hf.h p with e | e <;> rw [e] <;> exact hall
  · obtain ⟨p, hp, rfl⟩ := List.mem_map.mp hq
    have := isName_len (h.nm p hp)
    show p.1.length ≤ _
    omega
theorem TbOk.none (h : TbOk t) (hf : PassW f) : castFault (t.map fun p => (p.1, f p)) = none := by
  unfold castFault
  rw [List.length_map, if_pos ⟨h.n, h.m⟩, List.findSome?_eq_none_iff]
  intro q hq
  obtain ⟨p, hp, rfl⟩ := List.mem_map.mp ((sortW_perm _).mem_iff.mp hq)
  unfold nameFault
  rw [if_pos (h.nm p hp), hf.look (h.row p hp)]; rfl
theorem TbOk.ctb (h : TbOk t) (hf : PassW f) : ctbD K (t.map fun p => (p.1, f p)) = tbD K (sortW t) := by
  unfold ctbD
  rw [sortW_map' f h.nd]
  show dicD (List.map _ (List.map _ _)) = dicD _
  rw [List.map_map]
  refine congrArg dicD (List.map_congr_left fun p hp => ?_)
  show (_, D.tup (((f p).ths).map (Th.d K))) = _
  rw [hf.ths, ths_map]; rfl
theorem wks_D (t : Tb) (f : Str × List Wr → Wv) : wksD K (t.map fun p => (p.1, f p)) = dicT t (·.1) fun p => (f p).d K := by
  show dicD (List.map _ (List.map _ _)) = dicD _
  rw [List.map_map]; rfl
end
theorem passL : PassW fun p => lsW p.2 := ⟨fun _ => .inl rfl⟩
section
variable {X : Cx} {W : WX} {R : Rx X.K} {I : Iv X.K} {e : Expr} {δ : DEnv} {P : D → Iv X.K → Prop} {pos p : Pos} {t : Tb}
theorem ev_cast (E : Env X.prog X.w X.K X.mg X.base) (tk : Takes X W) (hr : Room 5 X.A) (h : EvX X W R e δ I fun d I1 => ∃ ws, d = wksD X.K ws ∧ WksOk ws ∧ match castFault ws with
    | none => P (.slo (cC X.K) [ctbD X.K ws]) I1
    | some no => R (He.ga X.K "InvalidCast") (xCast X.K no.1 no.2) I1)
    (hg : Gl X "Cast" := by rfl) (hall : (backToKw pos (keywordEach [] X.env)).all (·.1.isSome) = true := by rfl) (hks : (backToKw pos (keywordEach [] X.env)).filterMap (·.1) = ([] : List Str) := by rfl)
    (h1 : starEach [e] X.env = (false, eval e X.env) :: starEach [] X.env := by rfl) (hpl : ((backTo pos (starEach [e] X.env)).any (·.1) || (backToKw pos (keywordEach [] X.env)).any (·.1.isNone)) = false := by rfl) : EvX X W R (.Call (.Name "Cast" p) [e] [] pos) δ I P := by
  obtain ⟨fI, F, g, b1⟩ := M_cInit E
  refine ev_makeSl (ks := []) (fun ds _ => ds) tk E.m_Cast F hr E.g_Cast b1 (fun r1 _ => r1) (ea_cons (h.imp fun d I1 hh => ?_) h1) hg (by decide) hall hks h1 hpl
  obtain ⟨ws, rfl, o, q⟩ := hh
  refine ea_nil (ek_nil ⟨rfl, rfl, fun y dy na => ⟨y, dy, I1, ws, rfl, rfl, o, ?_⟩⟩)
  cases hf : castFault ws with
  | none =>
    rw [hf] at q
    exact ⟨rfl, [ctbD X.K ws], rfl, q⟩
  | some no =>
    rw [hf] at q
    exact ⟨_, rfl, q⟩
theorem pv_castG (E : Env X.prog X.w X.K X.mg X.base) (hr : Room 5 X.A) (o : TbOk t) {f : Str × List Wr → Wv} (hf : PassW f) (h : PV X I e δ (dicT t (·.1) fun p => (f p).d X.K))
    (hg : Gl X "Cast" := by rfl) (hall : (backToKw pos (keywordEach [] X.env)).all (·.1.isSome) = true := by rfl) (hks : (backToKw pos (keywordEach [] X.env)).filterMap (·.1) = ([] : List Str) := by rfl)
    (h1 : starEach [e] X.env = (false, eval e X.env) :: starEach [] X.env := by rfl) (hpl : ((backTo pos (starEach [e] X.env)).any (·.1) || (backToKw pos (keywordEach [] X.env)).any (·.1.isNone)) = false := by rfl) : PV X I (.Call (.Name "Cast" p) [e] [] pos) δ (cD X.K (sortW t)) := fun W R P pp => by
  refine EvX.weak (ev_cast E takesF hr (h.ev ⟨_, (wks_D t f).symm, o.wks hf, ?_⟩) hg hall hks h1 hpl)
  rw [o.none hf]
  show P (.slo _ [ctbD X.K _]) I
  rw [o.ctb hf]
  exact pp
theorem pv_castL (E : Env X.prog X.w X.K X.mg X.base) (hr : Room 5 X.A) (o : TbOk t) (h : PV X I e δ (dicT t (·.1) fun p => .lst (p.2.map (wrD X.K))))
    (hg : Gl X "Cast" := by rfl) (hall : (backToKw pos (keywordEach [] X.env)).all (·.1.isSome) = true := by rfl) (hks : (backToKw pos (keywordEach [] X.env)).filterMap (·.1) = ([] : List Str) := by rfl)
    (h1 : starEach [e] X.env = (false, eval e X.env) :: starEach [] X.env := by rfl) (hpl : ((backTo pos (starEach [e] X.env)).any (·.1) || (backToKw pos (keywordEach [] X.env)).any (·.1.isNone)) = false := by rfl) : PV X I (.Call (.Name "Cast" p) [e] [] pos) δ (cD X.K (sortW t)) :=
  pv_castG E hr o passL (h.is (by simp only [lsW_d])) hg hall hks h1 hpl
end
end LK
set_option Elab.async false
set_option linter.all false
set_option maxRecDepth 100000
set_option maxHeartbeats 1000000
namespace DL
open PySem PySem.Spec PyProof.Rows L2
end DL
namespace LK
open PySem PySem.Spec PyProof.Rows L2 DL
structure TbI {K : PySem.W.Frag} (J : Iv K) (m : Addr) (t : Tb) (kds : List (Key × D)) : Prop where
  o : TbOk t
  d : DcI J (.adr m) kds
  k : kds.map (·.1) = t.map fun p => (.inr p.1 : Key)
  l : ∀ p ∈ t, ∃ q, getG kds (.inr p.1) = some (.adr q) ∧ LsI J (.adr q) (p.2.map (wrD K))
theorem TbI.wk {K : PySem.W.Frag} {I J : Iv K} {m : Addr} {t : Tb} {kds : List (Key × D)} (w : Wk I J) (h : TbI J m t kds) : TbI I m t kds := ⟨h.o, h.d.wk w, h.k, fun p hp => let ⟨q, e, l⟩ := h.l p hp; ⟨q, e, l.wk w⟩⟩
section
variable {P : Program} {w : World} {K : PySem.W.Frag} {mg : Str → Option Value} {base : Heap}
end
section
variable {X : Cx} {W : WX} {R : Rx X.K} {I : Iv X.K} {e : Expr} {δ : DEnv} {P : D → Iv X.K → Prop} {pos p : Pos} {t : Tb}
end
end LK
set_option Elab.async false
set_option linter.all false
set_option maxRecDepth 100000
set_option maxHeartbeats 1000000
namespace LK
open PySem PySem.Spec PyProof.Rows L2 DL
def isPlainW (w : Wr) : Bool := decide (w.k = "say") && (decide (w.l = "") && decide (w.e = "newline"))
def kAt (ws : List Wr) (k : Nat) : Str := (ws[k]?.map (·.k)).getD ""
def gapsR (p : Str × List Wr) : List (Str × Nat) := ((List.range (p.2.length - 1)).filter fun k => !decide (kAt p.2 k = "ask")).map fun k => (p.1, k)
def gapsT (t : Tb) : List (Str × Nat) := t.flatMap gapsR
def linesR (p : Str × List Wr) : List (Str × Nat) := (p.2.zipIdx.filter fun q => isPlainW q.1).map fun q => (p.1, q.2)
def linesT (t : Tb) : List (Str × Nat) := t.flatMap linesR
def pairD (q : Str × Nat) : D := .tup [.str q.1, .int q.2]
section
variable {K : PySem.W.Frag} {t : Tb} {p : Str × List Wr}
end
section
variable {P : Program} {w : World} {K : PySem.W.Frag} {mg : Str → Option Value} {base : Heap}
end
section
variable {X : Cx} {W : WX} {R : Rx X.K} {I : Iv X.K} {e : Expr} {δ : DEnv} {P : D → Iv X.K → Prop} {pos apos : Pos} {t : Tb}
end
end LK
set_option Elab.async false
set_option linter.all false
set_option maxRecDepth 100000
set_option maxHeartbeats 1000000
namespace LK
open PySem PySem.Spec PyProof.Rows L2 DL
theorem isName_ok {s : Str} (h : isNameS s = true) : PyData.strOk s = true := by
  unfold isNameS at h
  have h2 := (Bool.and_eq_true_iff.mp h).2
  unfold PyData.strOk
  rw [← Array.all_toList]
  refine List.all_eq_true.mpr fun c hc => ?_
  have k : ∀ c ∈ (Str.ofString "abcdefghijklmnopqrstuvwxyz").cps.toList, (decide (c < 1114112)) = true := by decide +kernel
  exact k c (of_decide_eq_true (List.all_eq_true.mp h2 c hc))
section
variable {X : Cx} {W : WX} {R : Rx X.K} {I : Iv X.K} {e : Expr} {δ : DEnv} {P : D → Iv X.K → Prop} {pos apos : Pos} {t : Tb}
end
end LK
set_option Elab.async false
set_option linter.all false
set_option maxRecDepth 100000
set_option maxHeartbeats 1000000
namespace LK
open PySem PySem.Spec PyProof.Rows L2 DL
def rowOf (t : Tb) (n : Str) : Option (List Wr) := (t.find? fun p => decide (p.1 = n)).map (·.2)
theorem rowOf_some {t : Tb} (nd : (t.map (·.1)).Nodup) {p : Str × List Wr} (hp : p ∈ t) : rowOf t p.1 = some p.2 := by
  unfold rowOf
  cases h : t.find? fun q => decide (q.1 = p.1) with
  | none => exact absurd (List.find?_eq_none.mp h p hp) (by simp)
  | some q =>
    have h1 := List.mem_of_find?_eq_some h
    have h2 : q.1 = p.1 := by simpa using List.find?_some h
    rw [nd_inj nd h1 hp h2]; rfl
theorem rowOf_mem {t : Tb} {n : Str} {ws : List Wr} (h : rowOf t n = some ws) : (n, ws) ∈ t := by
  unfold rowOf at h
  cases e : t.find? fun q => decide (q.1 = n) with
  | none => rw [e] at h; cases h
  | some q =>
    rw [e] at h
    have h1 := List.mem_of_find?_eq_some e
    have h2 : q.1 = n := by simpa using List.find?_some e
    cases h
    rw [← h2]; exact h1
theorem rowOf_none {t : Tb} {n : Str} : rowOf t n = none ↔ n ∉ t.map (·.1) := by
  unfold rowOf
  rw [Option.map_eq_none_iff, List.find?_eq_none]
  constructor
  · intro h hn
    obtain ⟨p, hp, e⟩ := List.mem_map.mp hn
    exact h p hp (by simpa using e)
  · intro h p hp e
    exact h (List.mem_map.mpr ⟨p, hp, by simpa using e⟩)
theorem tb_getO {K : PySem.W.Frag} {t : Tb} (nd : (t.map (·.1)).Nodup) (n : Str) : getG (t.map fun x => ((.inr x.1 : Key), rowD K x.2)) (.inr n) = (rowOf t n).map (rowD K) := by
  cases h : rowOf t n with
  | none => exact getN_dicT (k := fun x : Str × List Wr => x.1) (v := fun x => rowD K x.2) (rowOf_none.mp h)
  | some ws => exact get_dicT (k := fun x : Str × List Wr => x.1) (v := fun x => rowD K x.2) nd (rowOf_mem h)
def total (t : Tb) : Nat := (t.map fun p => p.2.length).sum
def sGetI {K : PySem.W.Frag} : Spec K := fun I ds P R => ∃ t n, ds = [cD K t, .str n] ∧ (t.map (·.1)).Nodup ∧ match rowOf t n with
  | some ws => P (rowD K ws) I
  | none => R (He.ga K "UnknownWork") [("name", .str n)] I
def sHasI {K : PySem.W.Frag} : Spec K := fun I ds P R => ∃ t n, ds = [cD K t, .str n] ∧ (t.map (·.1)).Nodup ∧ P (.bl (rowOf t n).isSome) I
section
variable {P : Program} {w : World} {K : PySem.W.Frag} {mg : Str → Option Value} {base : Heap}
theorem M_cget (E : Env P w K mg base) : FnR P w K mg base (L2.CX P w) 3 (He.ma K (cC K) "__getitem__") (spD K sGetI) := mk_m_Cast_getitem E fun fd F => by
  refine fn_d F sc_m_Cast_getitem (fun I ds P R h => by obtain ⟨t, n, rfl, _⟩ := h; rfl) fun cdv A outer s H EE hr tk po I ds Q R h => ?_
  obtain ⟨t, n, rfl, nd, q⟩ := h
  have hu1 := hr.u1
  have hr2 : Room 2 _ := hr
  have hg := tb_getO (K := K) nd n
  have ht : ∀ {I : Iv K} {p1 p2 : Pos}, PV (cxOf (L2.CX P w) P w K mg base ["self", "name"] "Cast.__getitem__" (defScope m_Cast_getitem) (He.ma K (cC K) "__getitem__") cdv A outer s H EE) I (.Attribute (.Name "self" p1) "table" p2) (dstart ["self", "name"] [cD K t, .str n]) (tbD K t) := pv_sl E.k_Cast.sc E.s_Cast_table (pv_v 0) rfl
  cases hh : rowOf t n with
  | none =>
    rw [hh] at q hg
    refine s_cons (s_ifP (pt_dnin hu1 (.inl rfl) (pv_v 1) ht rfl) (fun e => ?_) fun e => ?_)
    · exact s_one (s_rz (hr := hr2) tk E.x_UnknownWork E.ini_UnknownWork (ea_cons ((pv_v 1).ev (ea_nil ⟨rfl, by simp, q⟩))))
    · rw [hg] at e; cases e
  | some ws =>
    rw [hh] at q hg
    refine s_cons (s_ifP (pt_dnin hu1 (.inl rfl) (pv_v 1) ht rfl) (fun e => ?_) fun e => s_nil ?_)
    · rw [hg] at e; cases e
    · exact s_one (s_retP (pv_dget hu1 (.inl rfl) ht (pv_v 1) rfl hg) q)
theorem M_chas (E : Env P w K mg base) : FnR P w K mg base (L2.CX P w) 1 (He.ma K (cC K) "__contains__") (spD K sHasI) := mk_m_Cast_contains E fun fd F => by
  refine fn_d F sc_m_Cast_contains (fun I ds P R h => by obtain ⟨t, n, rfl, _⟩ := h; rfl) fun cdv A outer s H EE hr tk po I ds Q R h => ?_
  obtain ⟨t, n, rfl, nd, q⟩ := h
  have hu1 := hr.u1
  have hg := tb_getO (K := K) nd n
  have e : (getG (t.map fun x => ((.inr x.1 : Key), rowD K x.2)) (.inr n)).isSome = (rowOf t n).isSome := by rw [hg]; cases rowOf t n <;> rfl
  exact s_one (s_retP ((pv_din hu1 (.inl rfl) (pv_v 1) (pv_sl E.k_Cast.sc E.s_Cast_table (pv_v 0) rfl) rfl).is (by rw [e])) q)
end
section
variable {X : Cx} {W : WX} {R : Rx X.K} {I : Iv X.K} {a b : Expr} {δ : DEnv} {P : D → Iv X.K → Prop} {pos p : Pos} {t : Tb} {n : Str} {ws : List Wr}
theorem pv_cget (E : Env X.prog X.w X.K X.mg X.base) (hr : Room 4 X.A) (nd : (t.map (·.1)).Nodup) (ha : PV X I a δ (cD X.K t)) (hb : PV X I b δ (.str n)) (hw : rowOf t n = some ws)
    (hsl : ∀ v i, subscripted b true v i = runValue (.builtin "lifetime.subscript" ⟨[v, i], []⟩) := by intro _ _; with_unfolding_all rfl) : PV X I (.Subscript a b pos) δ (rowD X.K ws) := fun W R P pp =>
  EvX.weak (ev_subOwn takesF E.h_Cast_getitem.f E.h_Cast_getitem.i E.fn_Cast_getitem (M_cget E) hr (ha.ev (hb.ev ⟨insD_slo, t, n, rfl, nd, by rw [hw]; exact pp⟩)) hsl)
theorem pv_cgetT (E : Env X.prog X.w X.K X.mg X.base) (hr : Room 4 X.A) (nd : (t.map (·.1)).Nodup) (ha : PV X I a δ (cD X.K t)) (hb : PV X I b δ (.str n)) (hw : rowOf t n = some ws)
    (hsl : ∀ v i, subscripted b true v i = runValue (.builtin "lifetime.subscript" ⟨[v, i], []⟩) := by intro _ _; with_unfolding_all rfl) : PV X I (.Subscript a b pos) δ (.tup (ws.map (wrD X.K))) := pv_cget E hr nd ha hb hw hsl
end
end LK
set_option Elab.async false
set_option linter.all false
set_option maxRecDepth 100000
set_option maxHeartbeats 1000000
namespace LK
open PySem PySem.Spec PyProof.Rows L2 DL
section
variable {P : Program} {w : World} {K : PySem.W.Frag} {mg : Str → Option Value} {base : Heap} {f : Addr} {fd : FuncData}
theorem ok_mix (F : FnP K "_law_mix" "_law_mix" f_Lmix f fd) (E : Env P w K mg base) : FnOk P w K mg base (L2.CX P w) 1 f fd ["_law_script", "_law_seed"] (spD K (sMix 14)) := by
  refine fn_d F sc_f_Lmix (fun I ds P R h => by obtain ⟨ns, seed, rfl, _⟩ := h; rfl) fun cdv A outer s H EE hr tk po I ds Q R h => ?_
  obtain ⟨ns, seed, rfl, hl, q⟩ := h
  have nd := sc_f_Lmix.nd
  refine s_cons (s_setP 2 (pv_v 1) ?_)
  refine s_cons (s_for po (ei_lst ((pv_v (d := .lsf (ns.map D.int)) 0).ev ⟨_, .inr rfl, fun i δ' I' => I' = I ∧ ∃ (st : Int) (o : Option D), δ' = [some (.lsf (ns.map D.int)), some (.int seed), some (.int st), o], ⟨rfl, seed, none, rfl⟩, ?_, ?_⟩)))
  · rintro i d δ' I' hd ⟨rfl, st, o, rfl⟩
    obtain ⟨n, hn⟩ : ∃ n, d = .int n := by
      rw [List.getElem?_map] at hd
      cases e : ns[i]? with
      | none => rw [e] at hd; cases hd
      | some n => rw [e] at hd; exact ⟨n, (Option.some.inj hd).symm⟩
    subst hn
    refine ⟨_, [3], bind_name 3, ?_⟩
    refine s_one (s_setP 2 (pv_op op_modN (pv_ct call_int1 E.b_int (va_cons (pv_op op_add (pv_op op_add (pv_op op_mul (pv_v 2) pv_int (p2_mul (.inr (by decide)))) (pv_op op_modN (pv_ct call_int1 E.b_int (va_cons (pv_v 3) va_nil) pn_int) pv_int (p2_mod (by decide))) p2_add) pv_int p2_add) va_nil) pn_int) pv_int (p2_mod (by decide))) ?_)
    exact ⟨rfl, _, _, rfl⟩
  · rintro δ' I' ⟨rfl, st, o, rfl⟩
    exact s_one (s_ret (ev_reg (ev_lstMM (ea_cons ((pv_v 2).ev (ea_cons (ev_ct call_list_of E.b_list (ea_cons ((pv_v 0).ev (ea_nil (on_listM (.inr (.inl rfl)) fun b hb => ea_cons (pv_int.ev (ea_cons (pv_int.ev (ea_nil ⟨by show 4 ≤ 1000; decide, fun a ha => ⟨_, iDr_of2 hl, q a b⟩⟩)))))))))))))))
theorem modm {k : Int} {l : Nat} : ∃ j : Nat, k.fmod (if (l : Int) > 1 then (l : Int) else 1) = j ∧ (j < l ∨ (l = 0 ∧ j = 0)) := by
  by_cases h : (l : Int) > 1
  · rw [if_pos h, Int.fmod_eq_emod_of_nonneg _ (by omega)]
    have h1 := Int.emod_nonneg k (show (l : Int) ≠ 0 by omega)
    have h2 := Int.emod_lt_of_pos k (show (0 : Int) < l by omega)
    exact ⟨(k % (l : Int)).toNat, by omega, by omega⟩
  · rw [if_neg h]
    exact ⟨0, by rw [Int.fmod_one]; rfl, by omega⟩
theorem atI_nat' {α : Type} {xs : List α} {j : Nat} {x : α} (h : xs[j]? = some x) : atI xs (j : Int) = some x := by
  have hl := (List.getElem?_eq_some_iff.mp h).1
  unfold atI ixN
  rw [if_pos (by omega), if_pos (by omega)]
  simpa using h
theorem ixN_nat {n j : Nat} (h : j < n) : ixN n (j : Int) = some j := by
  unfold ixN
  rw [if_pos (by omega), if_pos (by omega)]
  simp
theorem fmod_pos {z n : Int} (h : 0 < n) : 0 ≤ z.fmod n ∧ z.fmod n < n := by
  rw [Int.fmod_eq_emod_of_nonneg _ (by omega)]
  exact ⟨Int.emod_nonneg _ (by omega), Int.emod_lt_of_pos _ h⟩
theorem ok_next (F : FnP K "_law_next" "_law_next" f_Lnext f fd) (E : Env P w K mg base) : FnOk P w K mg base (L2.CX P w) 1 f fd ["_law_h", "_law_bound"] (spD K sNext) := by
  refine fn_d F sc_f_Lnext (fun I ds P R h => by obtain ⟨a, b, c, n, rfl, _⟩ := h; rfl) fun cdv A outer s H EE hr tk po I ds Q R h => ?_
  obtain ⟨a, b, c, n, rfl, rfl, n0, n1, q⟩ := h
  have nd := sc_f_Lnext.nd
  refine iDr_open fun st k m ns hl => ?_
  have eA : ∀ st k ns, c.fill (iDrC K a b st k m ns) = (c.comp (.l .here (iLst K b (ns.map D.int)))).fill (iLst K a [.int st, .adr b, .int k, .int m]) := fun st k ns => (fill_comp (I := iLst K a [.int st, .adr b, .int k, .int m]) (.l .here (iLst K b (ns.map D.int))) c).symm
  have eB : ∀ st k ns, c.fill (iDrC K a b st k m ns) = (c.comp (.r (iLst K a [.int st, .adr b, .int k, .int m]) .here)).fill (iLst K b (ns.map D.int)) := fun st k ns => (fill_comp (I := iLst K b (ns.map D.int)) (.r (iLst K a [.int st, .adr b, .int k, .int m]) .here) c).symm
  -- the place in the script
  obtain ⟨j, hj, hjl⟩ := modm (k := k) (l := (ns.map D.int).length)
  rw [List.length_map] at hjl
  obtain ⟨z, hz, hz0⟩ : ∃ z : Int, (ns.map D.int ++ [D.int 0])[j]? = some (.int z) ∧ (ns = [] → z = 0) := by
    rcases hjl with h | ⟨h, h0⟩
    · exact ⟨ns[j], by rw [List.getElem?_append_left (by simpa using h), List.getElem?_map, List.getElem?_eq_getElem h]; rfl, fun e => by subst e; simp at h⟩
    · have e : ns = [] := List.length_eq_zero_iff.mp h
      subst e h0
      exact ⟨0, rfl, fun _ => rfl⟩
  have m0 : (if ((ns.map D.int).length : Int) > 1 then ((ns.map D.int).length : Int) else 1) ≠ 0 := by split <;> omega
  refine s_cons (s_setP (d := .int z) 2 (pv_ix ix_list (pv_op op_cat (pv_ix ix_list (pv_v 0) pv_int (p2_ixM _ (by rfl) (eA _ _ _))) (pv_lst (va_cons pv_int va_nil)) (p2_catMK _ (by rw [List.length_map]; show ns.length + 1 ≤ _; omega) (eB _ _ _))) (pv_op op_modN (pv_ct call_int1 E.b_int (va_cons (pv_ix ix_list (pv_v 0) pv_int (p2_ixM _ (by rfl) (eA _ _ _))) va_nil) pn_int) (pv_cb (call_max2 rfl) E.b_max (va_cons pv_int (va_cons (pv_cb call_len_seq E.b_len (va_cons (pv_ix ix_list (pv_v 0) pv_int (p2_ixM _ (by rfl) (eA _ _ _))) va_nil) (pn_lenM _ (eB _ _ _))) va_nil)) pn_max2) (p2_mod m0)) (p2_ixL (by rw [hj]; exact atI_nat' hz))) ?_)
  refine s_cons (s_ifP (pt_cmp op_ge (pv_v 2) (pv_op op_pow pv_int pv_int (p2_pow ⟨by decide, by decide, by decide⟩)) p2_ge) (fun e => ?_) fun e => s_nil ?_)
  · have e2 : (10 : Int) ^ (18 : Int).toNat ≤ z := by simpa using e
    have hjn : j < ns.length := by
      rcases hjl with h | ⟨h, h0⟩
      · exact h
      · have e3 : ns = [] := List.length_eq_zero_iff.mp h
        rw [hz0 e3] at e2
        exact absurd e2 (by decide)
    refine s_cons (s_setItem (d := .int (z.fdiv n)) _ (pv_ix ix_list (pv_v 0) pv_int (p2_ixM _ (by rfl) (eA _ _ _))) (pv_op op_modN (pv_ct call_int1 E.b_int (va_cons (pv_ix ix_list (pv_v 0) pv_int (p2_ixM _ (by rfl) (eA _ _ _))) va_nil) pn_int) (pv_cb call_len_seq E.b_len (va_cons (pv_ix ix_list (pv_v 0) pv_int (p2_ixM _ (by rfl) (eA _ _ _))) va_nil) (pn_lenM _ (eB _ _ _))) (p2_mod (by rw [List.length_map]; omega))) (pv_op op_fdivN (pv_v 2) (pv_v 1) (p2_fdiv ⟨by omega, by omega⟩)) (j := j) ?_ ?_ (eB _ _ _))
    · have el : (if ((ns.map D.int).length : Int) > 1 then ((ns.map D.int).length : Int) else 1) = ((ns.map D.int).length : Int) := by
        rw [List.length_map]
        split <;> omega
      rw [← el, hj]
      exact ixN_nat (by rw [List.length_map]; exact hjn)
    · refine s_one (s_ret (ev_reg (PV.ev (pv_op op_modN (pv_ct call_int1 E.b_int (va_cons (pv_v 2) va_nil) pn_int) (pv_v 1) (p2_mod (by omega))) ⟨c.fill (iDr K a b), ?_, q _ (fmod_pos n0).1 (fmod_pos n0).2⟩)))
      show DL.Sub ((c.comp (.r (iLst K a [.int st, .adr b, .int k, .int m]) .here)).fill (iLst K b ((ns.map D.int).set j (.int (z.fdiv n))))) (c.fill (iDr K a b))
      rw [← List.map_set, ← eB st k (ns.set j (z.fdiv n))]
      exact (iDr_of (by rw [List.length_set]; exact hl)).fill c
  · refine s_cons (s_setItem (d := .int ((st * 48271 + z * 69621 + 11).fmod 2147483647)) _ (pv_v 0) pv_int (pv_op op_modN (pv_ct call_int1 E.b_int (va_cons (pv_op op_add (pv_op op_add (pv_op op_mul (pv_ix ix_list (pv_v 0) pv_int (p2_ixM _ (by rfl) (eA _ _ _))) pv_int (p2_mul (.inr (by decide)))) (pv_op op_mul (pv_v 2) pv_int (p2_mul (.inr (by decide)))) p2_add) pv_int p2_add) va_nil) pn_int) pv_int (p2_mod (by decide))) (j := 0) (by rfl) ?_ (eA _ _ _))
    refine SX.eq (eA _ k ns).symm ?_
    refine s_cons (s_setItem (d := .int (k + 1)) _ (pv_v 0) pv_int (pv_op op_add (pv_ix ix_list (pv_v 0) pv_int (p2_ixM _ (by rfl) (eA _ _ _))) pv_int p2_add) (j := 2) (by rfl) ?_ (eA _ _ _))
    refine SX.eq (eA _ (k + 1) ns).symm ?_
    exact s_one (s_ret (ev_reg (PV.ev (pv_op op_modN (pv_ct call_int1 E.b_int (va_cons (pv_op op_fdivN (pv_ix ix_list (pv_v 0) pv_int (p2_ixM _ (by rfl) (eA _ _ _))) pv_int (p2_fdiv ⟨by decide, by decide⟩)) va_nil) pn_int) (pv_v 1) (p2_mod (by omega))) ⟨c.fill (iDr K a b), (iDr_of hl).fill c, q _ (fmod_pos n0).1 (fmod_pos n0).2⟩)))
end
abbrev ALPH : List Nat := [97, 98, 120, 39, 32, 48, 47, 57, 126, 122, 59, 58]
def mx (m : Int) : Int := if m < 3 then 3 else m
def sLetters {K : PySem.W.Frag} : Spec K := fun I ds P _ => ∃ (a b : Addr) (c : Rc K) (most : Int), ds = [.adr a, .int most] ∧ I = c.fill (iDr K a b) ∧ 0 ≤ most ∧ most < 10000 ∧
  ∀ s : Str, (s.length : Int) ≤ mx most → (∀ ch ∈ s.cps.toList, ch ∈ ALPH) → P (.str s) I
section
variable {P : Program} {w : World} {K : PySem.W.Frag} {mg : Str → Option Value} {base : Heap} {f : Addr} {fd : FuncData}
theorem ok_letters (F : FnP K "_law_letters" "_law_letters" f_Lletters f fd) (E : Env P w K mg base) (DN : Def P w K mg base "_law_next" 1 ["_law_h", "_law_bound"] [] sNext) : FnOk P w K mg base (L2.CX P w) 2 f fd ["_law_h", "_law_most"] (spD K sLetters) := by
  refine fn_d F sc_f_Lletters (fun I ds P R h => by obtain ⟨a, b, c, m, rfl, _⟩ := h; rfl) fun cdv A outer s H EE hr tk po I ds Q R h => ?_
  obtain ⟨a, b, c, m, rfl, rfl, m0, m1, q⟩ := h
  have nd := sc_f_Lletters.nd
  have hx : 3 ≤ mx m ∧ m ≤ mx m ∧ mx m < 10000 := by unfold mx; split <;> omega
  -- the signs
  refine s_cons (s_set 2 (ev_ix ix_list (PV.ev (pv_lst (va_cons pv_str (va_cons pv_str (va_cons pv_str (va_cons pv_str va_nil))))) (ev_nextP tk DN hr c (pv_v 0) pv_int rfl (by decide) fun k k0 k1 => o2_ixL k0 k1 fun d hd => ?_))))
  obtain ⟨sg, rfl, hsg, hsl⟩ : ∃ sg : Str, d = .str sg ∧ (∀ ch ∈ sg.cps.toList, ch ∈ ALPH) ∧ 0 < sg.cps.toList.length ∧ sg.cps.toList.length ≤ 10 := by
    simp only [List.mem_cons, List.not_mem_nil, or_false] at hd
    rcases hd with rfl | rfl | rfl | rfl <;> exact ⟨_, rfl, by decide +kernel, by decide +kernel, by decide +kernel⟩
  -- the size
  refine s_cons (s_set 3 (ev_ix ix_list (ev_lst ?_)))
  iterate 6 refine ea_cons (pv_int.ev ?_)
  refine ea_cons ((pv_v 1).ev ?_)
  refine ea_cons (ev_nextP tk DN hr c (pv_v 0) (pv_op op_add (pv_v 1) pv_int p2_add) rfl (by omega) fun j j0 j1 => ea_nil ⟨by show 8 ≤ 1000; decide, ?_⟩)
  refine ev_nextP tk DN hr c (pv_v 0) pv_int rfl (by decide) fun k k0 k1 => o2_ixL k0 k1 fun d hd => ?_
  obtain ⟨z, rfl, z0, z1⟩ : ∃ z : Int, d = D.int z ∧ 0 ≤ z ∧ z ≤ mx m := by
    simp only [List.mem_cons, List.not_mem_nil, or_false] at hd
    rcases hd with rfl | rfl | rfl | rfl | rfl | rfl | rfl | rfl <;> exact ⟨_, rfl, by omega, by omega⟩
  -- the text
  refine s_one (s_ret (ev_join (pv_str (w := "")) (ev_lc [("_law_k", 4)] nd (blkOk_by (by rfl)) (ei_range1 E.b_range ((pv_v 3).ev ⟨z, rfl, by omega, by omega, ?_⟩)))))
  refine ⟨by unfold DL.intsFrom; simp; omega, fun i ys => ∃ cs : List Nat, ys = (cs.map one).map D.str ∧ cs.length = i ∧ ∀ ch ∈ cs, ch ∈ ALPH, fun d => [some (.adr a), some (.int m), some (.str sg), some (.int z), some d], ⟨[], rfl, rfl, fun _ h => nomatch h⟩, ?_, ?_⟩
  · rintro i d ys hd ⟨cs, rfl, hcl, hca⟩
    refine ⟨fun b => b = true, fun J s H C cl fp => ⟨bind_name 4, ets_nil ⟨rfl, rfl⟩⟩, fun _ J s H C cl fp => ?_, fun e => nomatch (show false = true from e)⟩
    refine ev_ix ix_str ((pv_v 2).ev (ev_nextP takesF DN hr (.l c J) (pv_v 0) (pv_cb call_len_str E.b_len (va_cons (pv_v 2) va_nil) (pn_lenS (by rw [str_len]; omega))) rfl (by rw [str_len]; omega) fun k k0 k1 => ?_))
    obtain ⟨n, rfl⟩ : ∃ n : Nat, k = n := ⟨k.toNat, by omega⟩
    have hn : n < sg.cps.toList.length := by rw [str_len] at k1; omega
    refine p2_ixS (c := sg.cps.toList[n]) (by rw [str_len, sizeLine_eq]; omega) (atI_nat' (List.getElem?_eq_getElem hn)) _ ⟨rfl, cs ++ [sg.cps.toList[n]], ?_, by simp [hcl], ?_⟩
    · rw [List.map_append, List.map_append]; rfl
    · intro ch hch
      rcases List.mem_append.mp hch with h | h
      · exact hca ch h
      · rw [List.mem_singleton.mp h]; exact hsg _ (List.getElem_mem hn)
  · rintro ys ⟨cs, rfl, hcl, hca⟩
    have hl : cs.length = z.toNat := by rw [hcl]; unfold DL.intsFrom; simp
    refine ⟨cs.map one, rfl, ?_, ?_⟩
    · have e : ((cs.map one).map (·.length)).sum = cs.length := by
        clear hcl hca hl
        induction cs with
        | nil => rfl
        | cons c cs ih => simp only [List.map_cons, List.sum_cons, ih, List.length_cons]; show 1 + _ = _; omega
      rw [e]
      show cs.length + (cs.map one).length * 0 ≤ _
      omega
    · rw [join_ones _ rfl]
      refine q _ ?_ ?_
      · rw [str_len]; show (cs.length : Int) ≤ mx m; omega
      · exact hca
end
abbrev forms5 : List Str := ["say", "ask", "reply", "show", "line"]
structure OneOk (form : Str) (most : Int) (k t l e : Str) : Prop where
  g : GoodW k t l e
  f : k = if form = "line" then ("say" : Str) else form
  ln : form = "line" → l = "" ∧ e = "newline"
  z : ∃ z : Str, (z.length : Int) ≤ most ∧ (∀ ch ∈ z.cps.toList, ch ∈ ALPH) ∧ t = if k = "ask" then z ++ "?" else if k = "reply" then z ++ "y" else z
def sOne {K : PySem.W.Frag} : Spec K := fun I ds P _ => ∃ (a b : Addr) (c : Rc K) (form : Str) (most : Int), ds = [.adr a, .str form, .int most] ∧ I = c.fill (iDr K a b) ∧ form ∈ forms5 ∧ 0 ≤ most ∧ most < 9000 ∧
  ∀ k t l e, OneOk form (mx most) k t l e → P (.tup [.str k, .str t, .str l, .str e]) I
theorem alph_signs : ∀ c ∈ ALPH, c ∈ SIGNS.cps.toList := by decide +kernel
theorem one_q : (∀ c ∈ (Str.ofString "?").cps.toList, c ∈ SIGNS.cps.toList) ∧ (∀ c ∈ (Str.ofString "y").cps.toList, c ∈ SIGNS.cps.toList) := by decide +kernel
theorem app_signs {z y : Str} (h1 : ∀ c ∈ z.cps.toList, c ∈ ALPH) (h2 : ∀ c ∈ y.cps.toList, c ∈ SIGNS.cps.toList) : ∀ c ∈ (z ++ y).cps.toList, c ∈ SIGNS.cps.toList := fun c hc => by
  rw [str_app] at hc
  exact (List.mem_append.mp hc).elim (fun h => alph_signs c (h1 c h)) (h2 c)
theorem app_len {z y : Str} : (z ++ y).length = z.length + y.length := by rw [str_len, str_app, List.length_append, ← str_len, ← str_len]
section
variable {P : Program} {w : World} {K : PySem.W.Frag} {mg : Str → Option Value} {base : Heap} {f : Addr} {fd : FuncData}
theorem ok_one (F : FnP K "_law_one" "_law_one" f_Lone f fd) (DN : Def P w K mg base "_law_next" 1 ["_law_h", "_law_bound"] [] sNext) (DL : Def P w K mg base "_law_letters" 2 ["_law_h", "_law_most"] [] sLetters) : FnOk P w K mg base (L2.CX P w) 3 f fd ["_law_h", "_law_form", "_law_most"] (spD K sOne) := by
  refine fn_d F sc_f_Lone (fun I ds P R h => by obtain ⟨a, b, c, form, m, rfl, _⟩ := h; rfl) fun cdv A outer s H EE hr tk po I ds Q R h => ?_
  obtain ⟨a, b, c, form, m, rfl, rfl, hf, m0, m1, q⟩ := h
  have nd := sc_f_Lone.nd
  have hmx : mx m < 9000 := by unfold mx; split <;> omega
  have hr1 : Room 1 _ := hr.mono (by decide)
  refine s_cons (s_set 3 (ev_def tk DL hr (ea_cons ((pv_v 0).ev (ea_cons ((pv_v 2).ev (ea_nil ⟨a, b, c, m, rfl, rfl, m0, by omega, fun z hz hza => ?_⟩)))))))
  refine s_cons (s_set 4 (ev_pick tk DN hr1 c (pv_lst (va_cons pv_str (va_cons pv_str (va_cons pv_str (va_cons pv_str (va_cons pv_str (va_cons pv_str va_nil))))))) (pv_v 0) (pv_int.ev ⟨_, rfl, rfl, by decide, by decide, by decide⟩) rfl fun dl hl0 => ?_))
  obtain ⟨l, rfl, hl⟩ : ∃ l, dl = .str l ∧ l ∈ leads := by
    simp only [List.mem_cons, List.not_mem_nil, or_false] at hl0
    rcases hl0 with rfl | rfl | rfl | rfl | rfl | rfl <;> exact ⟨_, rfl, by decide +kernel⟩
  refine s_cons (s_set 5 (ev_pick tk DN hr1 c (pv_lst (va_cons pv_str (va_cons pv_str (va_cons pv_str (va_cons pv_str (va_cons pv_str va_nil)))))) (pv_v 0) (pv_int.ev ⟨_, rfl, rfl, by decide, by decide, by decide⟩) rfl fun de he0 => ?_))
  obtain ⟨e, rfl, he⟩ : ∃ e, de = .str e ∧ e ∈ tails := by
    simp only [List.mem_cons, List.not_mem_nil, or_false] at he0
    rcases he0 with rfl | rfl | rfl | rfl | rfl <;> exact ⟨_, rfl, by decide +kernel⟩
  have hzs : ∀ c ∈ z.cps.toList, c ∈ SIGNS.cps.toList := fun c hc => alph_signs c (hza c hc)
  refine s_cons (s_ifP (pt_cmp op_eq (pv_v 1) pv_str (eqV_str form "line")) (fun e1 => ?_) fun e1 => s_nil ?_)
  · refine s_one (s_retP (pv_tup (va_cons pv_str (va_cons (pv_v 3) (va_cons pv_str (va_cons pv_str va_nil))))) (q _ _ _ _ ⟨⟨by decide +kernel, by decide +kernel, by decide +kernel, fun h => absurd h (by decide +kernel), fun h => absurd h (by decide +kernel), fun h => absurd h (by decide +kernel), hzs⟩, ?_, fun _ => ⟨rfl, rfl⟩, z, hz, hza, ?_⟩))
    · rw [if_pos (of_decide_eq_true e1)]
    · rw [if_neg (by decide +kernel), if_neg (by decide +kernel)]
  have n1 : form ≠ "line" := of_decide_eq_false e1
  refine s_cons (s_ifP (pt_cmp op_eq (pv_v 1) pv_str (eqV_str form "ask")) (fun e2 => ?_) fun e2 => s_nil ?_)
  · have h2 : form = "ask" := of_decide_eq_true e2
    refine s_one (s_retP (pv_tup (va_cons pv_str (va_cons (pv_op op_addT (pv_v 3) pv_str (p2_addT ?_)) (va_cons (pv_v 4) (va_cons pv_str va_nil))))) (q _ _ _ _ ⟨⟨by decide +kernel, hl, by decide +kernel, fun h => absurd h (by decide +kernel), fun _ => rfl, fun _ => ?_, app_signs hza one_q.1⟩, ?_, fun h => absurd h n1, z, hz, hza, ?_⟩))
    · show z.length + 1 ≤ _; omega
    · rw [app_len]; show 0 < z.length + 1; omega
    · rw [if_neg n1, h2]
    · rw [if_pos rfl]
  have n2 : form ≠ "ask" := of_decide_eq_false e2
  refine s_cons (s_ifP (pt_cmp op_eq (pv_v 1) pv_str (eqV_str form "reply")) (fun e3 => ?_) fun e3 => s_nil ?_)
  · have h3 : form = "reply" := of_decide_eq_true e3
    refine s_one (s_retP (pv_tup (va_cons pv_str (va_cons (pv_op op_addT (pv_v 3) pv_str (p2_addT ?_)) (va_cons pv_str (va_cons (pv_v 5) va_nil))))) (q _ _ _ _ ⟨⟨by decide +kernel, by decide +kernel, he, fun _ => rfl, fun h => absurd h (by decide +kernel), fun _ => ?_, app_signs hza one_q.2⟩, ?_, fun h => absurd h n1, z, hz, hza, ?_⟩))
    · show z.length + 1 ≤ _; omega
    · rw [app_len]; show 0 < z.length + 1; omega
    · rw [if_neg n1, h3]
    · rw [if_neg (by decide +kernel), if_pos rfl]
  have n3 : form ≠ "reply" := of_decide_eq_false e3
  have hk : form ∈ kinds := by
    simp only [List.mem_cons, List.not_mem_nil, or_false] at hf ⊢
    rcases hf with h | h | h | h | h
    · exact .inl h
    · exact absurd h n2
    · exact absurd h n3
    · exact .inr (.inr (.inr h))
    · exact absurd h n1
  refine s_one (s_retP (pv_tup (va_cons (pv_v 1) (va_cons (pv_v 3) (va_cons (pv_v 4) (va_cons (pv_v 5) va_nil))))) (q _ _ _ _ ⟨⟨hk, hl, he, fun h => absurd h n3, fun h => absurd h n2, fun h => absurd h (fun h => h.elim n2 n3), hzs⟩, ?_, fun h => absurd h n1, z, hz, hza, ?_⟩))
  · rw [if_neg n1]
  · rw [if_neg n2, if_neg n3]
theorem D_mix (E : Env P w K mg base) : Def P w K mg base "_law_mix" 1 ["_law_script", "_law_seed"] [] (sMix 14) := mk_f_Lmix E fun fd F => ok_mix F E
theorem D_next (E : Env P w K mg base) : Def P w K mg base "_law_next" 1 ["_law_h", "_law_bound"] [] sNext := mk_f_Lnext E fun fd F => ok_next F E
theorem D_letters (E : Env P w K mg base) : Def P w K mg base "_law_letters" 2 ["_law_h", "_law_most"] [] sLetters := mk_f_Lletters E fun fd F => ok_letters F E (D_next E)
theorem D_one (E : Env P w K mg base) : Def P w K mg base "_law_one" 3 ["_law_h", "_law_form", "_law_most"] [] sOne := mk_f_Lone E fun fd F => ok_one F (D_next E) (D_letters E)
end
end LK
set_option Elab.async false
set_option linter.all false
set_option maxRecDepth 100000
set_option maxHeartbeats 1000000
namespace LK
open PySem PySem.Spec PyProof.Rows L2 DL
inductive Wl : List Str → Prop
  | nil : Wl []
  | one {ks : List Str} {k : Str} : Wl ks → k ∈ (["say", "show"] : List Str) → Wl (ks ++ [k])
  | two {ks : List Str} : Wl ks → Wl (ks ++ (["ask", "reply"] : List Str))
theorem kb_ext {ks zs : List Str} {k : Str} {i : Nat} (hi : i < ks.length) (h : kindBad ks k i = false) : kindBad (ks ++ zs) k i = false := by
  unfold kindBad at h ⊢
  have e1 : (ks ++ zs).take i = ks.take i := by rw [List.take_append_of_le_length (by omega)]
  rw [e1]
  simp only [Bool.or_eq_false_iff, Bool.and_eq_false_iff, Bool.not_eq_false', decide_eq_false_iff_not, decide_eq_true_eq] at h ⊢
  refine ⟨⟨h.1.1, ?_⟩, h.2⟩
  rcases h.1.2 with h | h
  · exact .inl h
  · refine .inr ?_
    rw [List.drop_append_of_le_length (by omega)]
    have e2 : ∀ ys : List Str, ys.take 1 = (["reply"] : List Str) → (ys ++ zs).take 1 = (["reply"] : List Str) := fun ys hy => by
      cases ys with
      | nil => cases hy
      | cons y ys => exact hy
    exact e2 _ h
theorem Wl.bad {ks : List Str} (h : Wl ks) : ∀ y ∈ ks.zipIdx, kindBad ks y.1 y.2 = false := by
  induction h with
  | nil => intro y hy; cases hy
  | @one ks k h hk ih =>
    rintro ⟨x, i⟩ hy
    rw [List.zipIdx_append] at hy
    rcases List.mem_append.mp hy with hy | hy
    · exact kb_ext (by have := (List.getElem?_eq_some_iff.mp (mem_zipIdx hy)).1; exact this) (ih _ hy)
    · simp only [List.zipIdx_cons, List.zipIdx_nil, List.mem_singleton, Prod.mk.injEq] at hy
      obtain ⟨hx, hi⟩ := hy
      subst hx hi
      have hk2 : x ≠ "" ∧ x ≠ "ask" ∧ x ≠ "reply" := by
        simp only [List.mem_cons, List.not_mem_nil, or_false] at hk
        rcases hk with rfl | rfl <;> exact ⟨by decide +kernel, by decide +kernel, by decide +kernel⟩
      unfold kindBad
      rw [decide_eq_false hk2.1, decide_eq_false hk2.2.1, decide_eq_false hk2.2.2]; rfl
  | @two ks h ih =>
    rintro ⟨x, i⟩ hy
    rw [List.zipIdx_append] at hy
    rcases List.mem_append.mp hy with hy | hy
    · exact kb_ext (by have := (List.getElem?_eq_some_iff.mp (mem_zipIdx hy)).1; exact this) (ih _ hy)
    · simp only [List.zipIdx_cons, List.zipIdx_nil, List.mem_cons, List.not_mem_nil, or_false, Prod.mk.injEq] at hy
      rcases hy with ⟨rfl, rfl⟩ | ⟨rfl, rfl⟩
      · unfold kindBad
        have e1 : ((ks ++ (["ask", "reply"] : List Str)).drop (0 + ks.length + 1)).take 1 = (["reply"] : List Str) := by
          rw [List.drop_append, List.drop_eq_nil_of_le (by omega), show 0 + ks.length + 1 - ks.length = 1 by omega]; rfl
        rw [e1, decide_eq_false (show ("ask" : Str) ≠ "" by decide +kernel), decide_eq_false (show ("ask" : Str) ≠ "reply" by decide +kernel)]
        simp
      · unfold kindBad
        have e1 : (ks ++ (["ask", "reply"] : List Str)).take (0 + ks.length + 1) = ks ++ (["ask"] : List Str) := by
          rw [List.take_append, List.take_of_length_le (by omega), show 0 + ks.length + 1 - ks.length = 1 by omega]; rfl
        have e2 : (ks ++ (["ask"] : List Str)).drop ((ks ++ (["ask"] : List Str)).length - 1) = (["ask"] : List Str) := by
          rw [List.length_append, List.drop_append, List.drop_eq_nil_of_le (by simp)]; simp
        rw [e1, e2, decide_eq_false (show ("reply" : Str) ≠ "" by decide +kernel), decide_eq_false (show ("reply" : Str) ≠ "ask" by decide +kernel)]
        simp
theorem Wl.fault {ks : List Str} (h : Wl ks) : kindFault ks = none := kind_none h.bad
structure RowG (most : Int) (ws : List Wr) : Prop where
  wl : Wl (ws.map (·.k))
  one : ∀ w ∈ ws, ∃ form ∈ forms5, OneOk form most w.k w.t w.l w.e
theorem OneOk.len {form : Str} {most : Int} {k t l e : Str} (o : OneOk form most k t l e) (h : most ≤ 39) : t.length ≤ 40 := by
  obtain ⟨z, h1, h2, e1⟩ := o.z
  rw [e1]
  split
  · rw [app_len, show (Str.ofString "?").length = 1 from rfl]; omega
  · split
    · rw [app_len, show (Str.ofString "y").length = 1 from rfl]; omega
    · omega
theorem RowG.ok {most : Int} {ws : List Wr} (g : RowG most ws) (hm : most ≤ 39) (n : 1 ≤ ws.length) (m : ws.length ≤ 8) : RowOk ws :=
  ⟨fun w hw => by
    obtain ⟨form, _, o⟩ := g.one w hw
    exact ⟨o.g, o.len hm⟩, n, m, g.wl.fault⟩
def Ready (most : Int) (ws : List Wr) (form : Str) : Prop := form ∈ forms5 ∧ ∀ k t l e, OneOk form most k t l e → RowG most (ws ++ [⟨k, t, l, e⟩])
theorem RowG.next {most : Int} {ws : List Wr} (g : RowG most ws) {form : Str} (hf : form ∈ (["say", "show", "line"] : List Str)) : Ready most ws form := by
  have h5 : form ∈ forms5 := by
    simp only [List.mem_cons, List.not_mem_nil, or_false] at hf ⊢
    rcases hf with h | h | h <;> simp [h]
  refine ⟨h5, fun k t l e o => ⟨?_, fun w hw => ?_⟩⟩
  · rw [List.map_append]
    refine .one g.wl ?_
    show k ∈ _
    rw [o.f]
    simp only [List.mem_cons, List.not_mem_nil, or_false] at hf
    rcases hf with rfl | rfl | rfl <;> decide +kernel
  · rcases List.mem_append.mp hw with h | h
    · exact g.one w h
    · rw [List.mem_singleton.mp h]; exact ⟨form, h5, o⟩
theorem RowG.reply {most : Int} {ws : List Wr} (g : RowG most ws) {w : Wr} (hw : OneOk "ask" most w.k w.t w.l w.e) : Ready most (ws ++ [w]) "reply" := by
  refine ⟨by decide +kernel, fun k t l e o => ⟨?_, fun v hv => ?_⟩⟩
  · rw [List.map_append, List.map_append, List.append_assoc]
    have e1 : w.k = "ask" := hw.f.trans (by decide +kernel)
    have e2 : k = "reply" := o.f.trans (by decide +kernel)
    show Wl (_ ++ [w.k, k])
    rw [e1, e2]
    exact .two g.wl
  · rcases List.mem_append.mp hv with h | h
    · rcases List.mem_append.mp h with h | h
      · exact g.one v h
      · rw [List.mem_singleton.mp h]; exact ⟨"ask", by decide +kernel, hw⟩
    · rw [List.mem_singleton.mp h]; exact ⟨"reply", by decide +kernel, o⟩
def sRow {K : PySem.W.Frag} : Spec K := fun I ds P _ => ∃ (a b : Addr) (c : Rc K) (many most : Int), ds = [.adr a, .int many, .int most] ∧ I = c.fill (iDr K a b) ∧ 0 ≤ many ∧ many ≤ 1000 ∧ 0 ≤ most ∧ most < 9000 ∧
  ∀ ws, RowG (mx most) ws → (ws.length : Int) = many → ∀ p, P (.adr p) (I.and (iLst K p (ws.map wr4)))
abbrev nm6 : List Str := ["a", "log", "who", "b", "zzzzzzzz", "cc"]
abbrev tD (t : Tb) : D := dicT t (·.1) (fun p => .lst (p.2.map wr4))
structure TabG (works : Nat) (total most : Int) (t : Tb) : Prop where
  sub : (t.map (·.1)).Sublist nm6
  n : 1 ≤ t.length
  m : t.length ≤ works
  row : ∀ p ∈ t, RowG most p.2 ∧ 1 ≤ p.2.length ∧ p.2.length ≤ 3
  tot : ((t.map fun p => p.2.length).sum : Int) ≤ total
  fa : ("a" : Str) ∈ t.map (·.1)
theorem nm6_nd : nm6.Nodup := by decide +kernel
theorem nm6_ok : ∀ s ∈ nm6, isNameS s = true := by decide +kernel
theorem TabG.nd {works : Nat} {total most : Int} {t : Tb} (g : TabG works total most t) : (t.map (·.1)).Nodup := nm6_nd.sublist g.sub
theorem TabG.ok {works : Nat} {total most : Int} {t : Tb} (g : TabG works total most t) (hm : most ≤ 39) : TbOk t :=
  ⟨g.nd, fun p hp => nm6_ok _ (g.sub.subset (List.mem_map_of_mem hp)), fun p hp => (g.row p hp).1.ok hm (g.row p hp).2.1 (by have := (g.row p hp).2.2; omega), g.n, by have := g.sub.length_le; rw [List.length_map] at this; exact this⟩
def sTable {K : PySem.W.Frag} : Spec K := fun I ds P _ => ∃ (a b : Addr) (c : Rc K) (works : Nat) (total most : Int), ds = [.adr a, .int works, .int total, .int most] ∧ I = c.fill (iDr K a b) ∧ 1 ≤ works ∧ works ≤ 6 ∧ 1 ≤ total ∧ total < 1000 ∧ 0 ≤ most ∧ most < 9000 ∧
  ∀ t, TabG works total (mx most) t → ∀ p, P (.adr p) (I.and (iDic K p (t.map fun x => (.inr x.1, .lst (x.2.map wr4)))))
def sBuilt {K : PySem.W.Frag} : Spec K := fun I ds P _ => ∃ t, ds = [tD t] ∧ TbOk t ∧ P (cD K (sortW t)) I
section
variable {P : Program} {w : World} {K : PySem.W.Frag} {mg : Str → Option Value} {base : Heap}
theorem D_rowof (E : Env P w K mg base) : Def P w K mg base "_law_rowof" 4 ["_law_h", "_law_many", "_law_most"] [] sRow := mk_f_Lrowof E fun fd F => by
  refine fn_d F sc_f_Lrowof (fun I ds P R h => by obtain ⟨a, b, c, many, most, rfl, _⟩ := h; rfl) fun cdv A outer s H EE hr tk po I ds Q R h => ?_
  obtain ⟨a, b, c, many, most, rfl, rfl, n0, n1, m0, m1, q⟩ := h
  have nd := sc_f_Lrowof.nd
  have hu := hr.units
  have hr1 : Room 1 _ := hr.mono (by decide)
  have hr3 : Room 3 _ := hr
  refine s_cons (s_set 3 (ev_lstM' va_nil (by decide) fun x => ?_))
  refine s_cons (s_whileP po (fun m δ' I' => ∃ (ws : List Wr) (o : Option D), RowG (mx most) ws ∧ (ws.length : Int) ≤ many ∧ m = (many - ws.length).toNat ∧ I' = (c.fill (iDr K a b)).and (iLst K x (ws.map wr4)) ∧ δ' = [some (.adr a), some (.int many), some (.int most), some (.adr x), o]) many.toNat ⟨[], none, ⟨.nil, fun w hw => nomatch hw⟩, by simpa using n0, by simp, rfl, rfl⟩ ?_)
  rintro m δ' I' ⟨ws, o, g, hl, rfl, rfl, rfl⟩
  refine ⟨_, DL.pt_cmp op_lt (pv_cb call_len_seq E.b_len (va_cons (pv_v 3) va_nil) (pn_lenM (.r _ .here))) (pv_v 1) p2_lt, fun hlt => ?_, fun hlt => ?_⟩
  · have hlt : (ws.length : Int) < many := by rw [List.length_map] at hlt; exact of_decide_eq_true hlt
    refine s_cons (s_set 4 (ev_pick tk (D_next E) hr1 (.l c (iLst K x (ws.map wr4))) (pv_lst (va_cons pv_str (va_cons pv_str (va_cons pv_str (va_cons pv_str (va_cons pv_str (va_cons pv_str va_nil))))))) (pv_v 0) (pv_int.ev ⟨_, rfl, rfl, by decide, by decide, by decide⟩) rfl fun d hd => ?_))
    obtain ⟨form, rfl, hf⟩ : ∃ form, d = .str form ∧ (form ∈ (["say", "show", "line"] : List Str) ∨ form = "ask") := by
      simp only [List.mem_cons, List.not_mem_nil, or_false] at hd
      rcases hd with rfl | rfl | rfl | rfl | rfl | rfl <;> exact ⟨_, rfl, by decide +kernel⟩
    refine s_cons (s_joint (fun δ2 I2 => ∃ ws2 form2, ((form2 ∈ (["say", "show", "line"] : List Str) ∨ form2 = "ask") ∧ RowG (mx most) ws2 ∨ form2 = "reply" ∧ Ready (mx most) ws2 form2) ∧ ws.length ≤ ws2.length ∧ (ws2.length : Int) + 1 ≤ many ∧ I2 = (c.fill (iDr K a b)).and (iLst K x (ws2.map wr4)) ∧ δ2 = [some (.adr a), some (.int many), some (.int most), some (.adr x), some (.str form2)]) (s_ifP (ptw (ww_and (pt_eq hu (pv_v 4) pv_str trivial) fun _ => ww_and1 (DL.pt_cmp op_le (pv_op op_add (pv_cb call_len_seq E.b_len (va_cons (pv_v 3) va_nil) (pn_lenM (.r _ .here))) pv_int p2_add) (pv_v 1) p2_le))) (fun e1 => ?_) fun e1 => s_nil ?_) ?_)
    · have e2 : (ws.length : Int) + 2 ≤ many := by
        simp only [Bool.and_eq_true, decide_eq_true_eq, List.length_map] at e1
        exact e1.2
      refine s_cons (s_append (.r _ .here) (pv_v 3) rfl (ev_def tk (D_one E) hr3 (ea_cons ((pv_v 0).ev (ea_cons (pv_str.ev (ea_cons ((pv_v 2).ev (ea_nil ⟨a, b, .l c (iLst K x (ws.map wr4)), "ask", most, rfl, rfl, by decide +kernel, m0, m1, fun k t l e ok => ⟨rfl, by rw [List.length_map]; omega, ?_⟩⟩)))))))))
      refine s_one (s_setP 4 pv_str ?_)
      refine ⟨ws ++ [⟨k, t, l, e⟩], "reply", .inr ⟨rfl, g.reply ok⟩, by simp, by rw [List.length_append]; simp only [List.length_cons, List.length_nil]; omega, ?_, rfl⟩
      show (c.fill (iDr K a b)).and (iLst K x (ws.map wr4 ++ [_])) = _
      rw [List.map_append]; rfl
    · exact ⟨ws, form, .inl ⟨hf, g⟩, Nat.le_refl _, by omega, rfl, rfl⟩
    · rintro δ2 I2 ⟨ws2, form2, hg2, hl2, hl3, rfl, rfl⟩
      refine s_cons (s_joint (fun δ3 I3 => ∃ form3, Ready (mx most) ws2 form3 ∧ I3 = (c.fill (iDr K a b)).and (iLst K x (ws2.map wr4)) ∧ δ3 = [some (.adr a), some (.int many), some (.int most), some (.adr x), some (.str form3)]) (s_ifP (pt_eq hu (pv_v 4) pv_str trivial) (fun e1 => ?_) fun e1 => s_nil ?_) ?_)
      · have e2 : form2 = "ask" := of_decide_eq_true e1
        have g2 : RowG (mx most) ws2 := by
          rcases hg2 with h | h
          · exact h.2
          · rw [e2] at h; exact absurd h.1 (by decide +kernel)
        refine s_one (s_setP 4 pv_str ?_)
        exact ⟨"line", g2.next (by decide +kernel), rfl, rfl⟩
      · have e2 : form2 ≠ "ask" := of_decide_eq_false e1
        refine ⟨form2, ?_, rfl, rfl⟩
        rcases hg2 with h | h
        · exact h.2.next (h.1.resolve_right e2)
        · exact h.2
      · rintro δ3 I3 ⟨form3, hr', rfl, rfl⟩
        refine s_one (s_append (.r _ .here) (pv_v 3) rfl (ev_def tk (D_one E) hr3 (ea_cons ((pv_v 0).ev (ea_cons ((pv_v 4).ev (ea_cons ((pv_v 2).ev (ea_nil ⟨a, b, .l c (iLst K x (ws2.map wr4)), form3, most, rfl, rfl, hr'.1, m0, m1, fun k t l e ok => ⟨rfl, by rw [List.length_map]; omega, ?_⟩⟩)))))))))
        refine ⟨(many - (ws2 ++ ([⟨k, t, l, e⟩] : List Wr)).length).toNat, ?_, ws2 ++ [⟨k, t, l, e⟩], _, hr'.2 _ _ _ _ ok, ?_, rfl, ?_, rfl⟩
        · rw [List.length_append]; simp only [List.length_cons, List.length_nil]; omega
        · rw [List.length_append]; simp only [List.length_cons, List.length_nil]; omega
        · show (c.fill (iDr K a b)).and (iLst K x (ws2.map wr4 ++ [_])) = _
          rw [List.map_append]; rfl
  · have hlt : ¬ (ws.length : Int) < many := by rw [List.length_map] at hlt; exact of_decide_eq_false hlt
    exact s_one (s_retP (pv_v 3) (q ws g (by omega) x))
end
end LK
set_option Elab.async false
set_option linter.all false
set_option maxRecDepth 100000
set_option maxHeartbeats 1000000
namespace LK
open PySem PySem.Spec PyProof.Rows L2 DL
theorem sub_take {k : Nat} {p r : List Str} {x : Str} {ns : List Str} (e : nm6.take k = p ++ x :: r) (h : ns.Sublist p) : x ∉ ns ∧ (ns ++ [x]).Sublist (p ++ [x]) := by
  refine ⟨fun hx => ?_, h.append (List.Sublist.refl _)⟩
  have nd : (nm6.take k).Nodup := nm6_nd.sublist (List.take_sublist _ _)
  rw [e] at nd
  have := (List.nodup_append.mp nd).2.2 x (h.subset hx) x (by simp)
  exact this rfl
structure TabI (total most l : Int) (p : List Str) (t : Tb) : Prop where
  sub : (t.map (·.1)).Sublist p
  row : ∀ p ∈ t, RowG most p.2 ∧ 1 ≤ p.2.length ∧ p.2.length ≤ 3
  tot : ((t.map fun p => p.2.length).sum : Int) + l = total
  l0 : 0 ≤ l
  ne : p ≠ [] → t ≠ []
  fa : p ≠ [] → ("a" : Str) ∈ t.map (·.1)
theorem TabI.add {total most l : Int} {k : Nat} {p r : List Str} {x : Str} {t : Tb} (h : TabI total most l p t) (e : nm6.take k = p ++ x :: r) {ws : List Wr} (g : RowG most ws) (h1 : 1 ≤ ws.length) (h3 : ws.length ≤ 3) (hl : (ws.length : Int) ≤ l) : TabI total most (l - ws.length) (p ++ [x]) (t ++ [(x, ws)]) := by
  refine ⟨?_, fun q hq => ?_, ?_, by omega, fun _ => by simp, fun _ => ?_⟩
  · rw [List.map_append]; exact (sub_take e h.sub).2
  · rcases List.mem_append.mp hq with hq | hq
    · exact h.row q hq
    · rw [List.mem_singleton.mp hq]; exact ⟨g, h1, h3⟩
  · rw [List.map_append, List.sum_append]
    have := h.tot
    simp only [List.map_cons, List.map_nil, List.sum_cons, List.sum_nil]
    omega
  · rw [List.map_append]
    cases p with
    | nil =>
      have hx : x = "a" := by
        have e0 := congrArg (·[0]?) e
        cases k with
        | zero => simp at e
        | succ k => simp at e0; exact e0.symm
      exact List.mem_append_right _ (by rw [hx]; simp)
    | cons y ys => exact List.mem_append_left _ (h.fa (by simp))
theorem TabI.skip {total most l : Int} {p : List Str} {x : Str} {t : Tb} (h : TabI total most l p t) (t0 : 1 ≤ total) (hl : l = 0) : TabI total most l (p ++ [x]) t := by
  refine ⟨h.sub.trans (List.sublist_append_left _ _), h.row, h.tot, h.l0, fun _ e => ?_, fun _ => ?_⟩
  · have := h.tot
    rw [e] at this
    simp only [List.map_nil, List.sum_nil] at this
    omega
  · cases p with
    | nil =>
      have e := List.sublist_nil.mp h.sub
      have := h.tot
      rw [List.map_eq_nil_iff.mp e] at this
      simp only [List.map_nil, List.sum_nil] at this
      omega
    | cons y ys => exact h.fa (by simp)
section
variable {P : Program} {w : World} {K : PySem.W.Frag} {mg : Str → Option Value} {base : Heap}
theorem D_table (E : Env P w K mg base) : Def P w K mg base "_law_table" 5 ["_law_h", "_law_works", "_law_total", "_law_most"] [] sTable := mk_f_Ltable E fun fd F => by
  refine fn_d F sc_f_Ltable (fun I ds P R h => by obtain ⟨a, b, c, works, total, most, rfl, _⟩ := h; rfl) fun cdv A outer s H EE hr tk po I ds Q R h => ?_
  obtain ⟨a, b, c, works, total, most, rfl, rfl, w0, w1, t0, t1, m0, m1, q⟩ := h
  have nd := sc_f_Ltable.nd
  have hu := hr.units
  have hu1 := hr.u1
  have hr1 : Room 1 _ := hr.mono (by decide)
  have hr4 : Room 4 _ := hr
  refine s_cons (s_set 4 (ev_dnew fun x _ => ?_))
  refine s_cons (s_setP 5 (pv_v 2) ?_)
  refine s_cons (s_forE po (ei_lst (ev_slL ((pv_lst (va_cons pv_str (va_cons pv_str (va_cons pv_str (va_cons pv_str (va_cons pv_str (va_cons pv_str va_nil))))))).ev ⟨_, rfl, eo_none (eo_some (ev_op op_add (pv_int.ev (ev_nextP tk (D_next E) hr1 (.l c (iDic K x [])) (pv_v 0) (pv_v 1) rfl (by omega) fun j j0 j1 => ?_))))⟩))))
  refine p2_add _ ?_
  obtain ⟨k, rfl⟩ : ∃ k : Nat, j = k := ⟨j.toNat, by omega⟩
  have ek : (1 + (k : Int)) = ((1 + k : Nat) : Int) := by omega
  refine ⟨1 + (k : Int), rfl, _, .inl rfl, Str, nm6.take (1 + k), D.str, fun p δ' I' => ∃ (t : Tb) (l : Int) (o6 o7 : Option D), TabI total (mx most) l p t ∧ I' = (c.fill (iDr K a b)).and (iDic K x (t.map fun y => (.inr y.1, .lst (y.2.map wr4)))) ∧ δ' = [some (.adr a), some (.int works), some (.int total), some (.int most), some (.adr x), some (.int l), o6, o7], ?_, ⟨[], total, none, none, ⟨List.nil_sublist _, (fun p hp => nomatch hp), by simp, by omega, (fun h => absurd rfl h), fun h => absurd rfl h⟩, rfl, rfl⟩, ?_, ?_⟩
  · rw [ek, cut_take]; exact (List.map_take (f := D.str) (l := nm6) (i := 1 + k)).symm
  · rintro p n r δ' I' e ⟨t, l, o6, o7, g, rfl, rfl⟩
    refine ⟨_, [6], bind_name 6, ?_⟩
    refine s_one (s_ifP (DL.pt_cmp op_gt (pv_v 5) pv_int p2_gt) (fun hl => ?_) fun hl => s_nil ?_)
    · have hl : 0 < l := of_decide_eq_true hl
      refine s_cons (s_set 7 (ev_op op_add (pv_int.ev (ev_nextP tk (D_next E) hr1 (.l c (iDic K x (t.map fun y => (.inr y.1, .lst (y.2.map wr4))))) (pv_v 0) (pv_cb (call_min2 rfl) E.b_min (va_cons pv_int (va_cons (pv_v 5) va_nil)) pn_min2) rfl (by split <;> omega) fun i i0 i1 => p2_add _ ?_))))
      have h3 : 1 + i ≤ 3 ∧ 1 + i ≤ l := by split at i1 <;> omega
      refine s_cons (s_dput (y := .str n) (k := .inr n) (p := x) (kds := t.map fun y => (.inr y.1, .lst (y.2.map wr4))) hu1 (.r (c.fill (iDr K a b)) .here) (ev_freezeL (ev_def tk (D_rowof E) hr4 (ea_cons ((pv_v 0).ev (ea_cons ((pv_v 7).ev (ea_cons ((pv_v 3).ev (ea_nil ⟨a, b, .l c (iDic K x (t.map fun y => (.inr y.1, .lst (y.2.map wr4)))), 1 + i, most, rfl, rfl, by omega, by omega, m0, m1, fun ws gr hn y => ⟨y, _, _, rfl, rfl, ?_⟩⟩))))))))))
      have hfr := (sub_take e g.sub).1
      refine ⟨rfl, pv_v 4, pv_v 6, rfl, ?_, ?_⟩
      · have := g.sub.length_le
        have h2 : (nm6.take (1 + k)).length ≤ 6 := by rw [List.length_take]; exact Nat.min_le_right _ _
        rw [e, List.length_append] at h2
        rw [List.length_map] at this ⊢
        omega
      · refine s_one (s_setP 5 (pv_op op_sub (pv_v 5) (pv_v 7) p2_sub) ?_)
        refine ⟨t ++ [(n, ws)], l - (1 + i), _, _, ?_, ?_, rfl⟩
        · rw [← hn]
          exact g.add e gr (by omega) (by omega) (by omega)
        · rw [put_newT (k := fun y : Str × List Wr => y.1) (v := fun y => D.lst (y.2.map wr4)) hfr, List.map_append]; rfl
    · have hl : ¬ 0 < l := of_decide_eq_false hl
      exact ⟨t, l, _, _, g.skip t0 (by have := g.l0; omega), rfl, rfl⟩
  · rintro δ' I' ⟨t, l, o6, o7, g, rfl, rfl⟩
    refine s_one (s_retP (pv_v 4) (q t ⟨g.sub.trans (List.take_sublist _ _), ?_, ?_, g.row, ?_, g.fa (by simp)⟩ x))
    · have := g.ne (by simp)
      exact List.length_pos_iff.mpr this
    · have h1 := g.sub.length_le
      rw [List.length_map, List.length_take] at h1
      omega
    · have := g.tot
      have := g.l0
      omega
end
end LK
set_option Elab.async false
set_option linter.all false
set_option maxRecDepth 100000
set_option maxHeartbeats 1000000
namespace LK
open PySem PySem.Spec PyProof.Rows L2 DL
theorem t_get {t : Tb} {p : Str × List Wr} (nd : (t.map (·.1)).Nodup) (hp : p ∈ t) : getG (t.map fun x => ((.inr x.1 : Key), D.lst (x.2.map wr4))) (.inr p.1) = some (.lst (p.2.map wr4)) := get_dicT (k := fun x : Str × List Wr => x.1) (v := fun x => D.lst (x.2.map wr4)) nd hp
theorem nd_at {t p r : Tb} {x : Str × List Wr} (nd : (t.map (·.1)).Nodup) (e : t = p ++ x :: r) : x.1 ∉ p.map (·.1) := by
  rw [e, List.map_append] at nd
  intro hx
  exact (List.nodup_append.mp nd).2.2 _ hx _ (by simp) rfl
section
variable {P : Program} {w : World} {K : PySem.W.Frag} {mg : Str → Option Value} {base : Heap}
theorem D_built (E : Env P w K mg base) : Def P w K mg base "_law_built" 6 ["_law_t"] [] sBuilt := mk_f_Lbuilt E fun fd F => by
  refine fn_d F sc_f_Lbuilt (fun I ds P R h => by obtain ⟨t, rfl, _⟩ := h; rfl) fun cdv A outer s H EE hr tk po I ds Q R h => ?_
  obtain ⟨t, rfl, o, q⟩ := h
  have nd := sc_f_Lbuilt.nd
  have hu1 := hr.u1
  have hr4 : Room 4 _ := hr.mono (by decide)
  have hr5 : Room 5 _ := hr
  refine s_cons (s_set 1 (ev_dnew fun x _ => ?_))
  refine s_cons (s_forT (xs := t) (g := fun p => D.str p.1) po (vi_dicT (pv_v (d := tD t) 0)) (fun p δ' I' => I' = I.and (iDic K x (p.map fun y => (.inr y.1, .lst (y.2.map (wrD K))))) ∧ ∃ o2 o3, δ' = [some (tD t), some (.adr x), o2, o3]) ⟨rfl, none, none, rfl⟩ ?_ ?_)
  · rintro p y r δ' I' e ⟨rfl, o2, o3, rfl⟩
    have hy : y ∈ t := by rw [e]; simp
    have hrow := o.row y hy
    have hlen := hrow.m
    refine ⟨_, [2], bind_name 2, ?_⟩
    refine s_one (s_dput (y := .str y.1) (k := .inr y.1) (p := x) (kds := p.map fun y => (.inr y.1, .lst (y.2.map (wrD K)))) hu1 (.r I .here) (PV.ev (pv_lcTM (xs := y.2) (g := wr4) (wrD K) [("_law_one_here", 3)] (fun z => [some (tD t), some (.adr x), some (.str y.1), some (wr4 z)]) (vi_lst (pv_dget hu1 (.inl rfl) (pv_v (d := tD t) 0) (pv_v 2) rfl (t_get o.nd hy))) (by omega) (fun z s H C cl fp => bind_name 3) fun z hz J s H C cl fp => ?_) ?_))
    · have gz := hrow.g z hz
      exact pv_write E hr4 (pv_ix ix_tup (pv_w (d := wr4 z) 3 rfl) pv_int (p2_ixT rfl)) (pv_ix ix_tup (pv_w (d := wr4 z) 3 rfl) pv_int (p2_ixT rfl)) (pv_ix ix_tup (pv_w (d := wr4 z) 3 rfl) pv_int (p2_ixT rfl)) (pv_ix ix_tup (pv_w (d := wr4 z) 3 rfl) pv_int (p2_ixT rfl)) gz.g gz.h
    · refine ⟨rfl, pv_v 1, pv_v 2, rfl, ?_, ?_, _, _, rfl⟩
      · have := o.m
        rw [e, List.length_append, List.length_cons] at this
        rw [List.length_map]; omega
      · rw [put_newT (k := fun y : Str × List Wr => y.1) (v := fun y => D.lst (y.2.map (wrD K))) (nd_at o.nd e), List.map_append]; rfl
  · rintro δ' I' ⟨rfl, o2, o3, rfl⟩
    exact sx_freezeD (j := 1) rfl (s_one (s_retP (pv_castL E hr5 o (pv_v (d := dicT t (·.1) fun p => .lst (p.2.map (wrD K))) 1)) q))
end
end LK
set_option Elab.async false
set_option linter.all false
set_option maxRecDepth 100000
set_option maxHeartbeats 1000000
namespace DL
open PySem PySem.Spec PyProof.Rows L2
theorem EqB.imp {X : Cx} {n : Nat} {E E' : D → D → Bool → Prop} (h : EqB X n E) (k : ∀ x y b, E' x y b → E x y b) : EqB X n E' := ⟨fun A pins s σ G H x y u v dx dy b a1 a2 a3 a4 a5 a6 a7 e => h.run A pins s σ G H x y u v dx dy b a1 a2 a3 a4 a5 a6 a7 (k _ _ _ e), fun pins s σ G H x dx dy b a1 a2 a3 a4 e => h.same pins s σ G H x dx dy b a1 a2 a3 a4 (k _ _ _ e)⟩
end DL
namespace LK
open PySem PySem.Spec PyProof.Rows L2 DL
def castEq (t u : Tb) : Bool := t.length == u.length && t.all fun p => decide (rowOf u p.1 = some p.2)
theorem rowsEq (xs ys : List Wr) : ((xs.length == ys.length) && (List.range (min xs.length ys.length)).all fun i => match xs[i]?, ys[i]? with
    | some a, some c => decide (a = c)
    | _, _ => true) = decide (xs = ys) := by
  refine Bool.eq_iff_iff.mpr ?_
  rw [Bool.and_eq_true, beq_iff_eq, List.all_eq_true, decide_eq_true_eq]
  constructor
  · rintro ⟨hl, h⟩
    refine List.ext_getElem hl fun i h1 h2 => ?_
    have := h i (List.mem_range.mpr (by omega))
    rw [List.getElem?_eq_getElem h1, List.getElem?_eq_getElem h2] at this
    exact of_decide_eq_true this
  · rintro rfl
    refine ⟨rfl, fun i _ => ?_⟩
    cases xs[i]? <;> simp
theorem wEq_dec (a c : Wr) : wEq a.k a.t a.l a.e c.k c.t c.l c.e = decide (a = c) := by
  refine Bool.eq_iff_iff.mpr ?_
  unfold wEq
  simp only [Bool.and_eq_true, decide_eq_true_eq]
  constructor
  · rintro ⟨h1, h2, h3, h4⟩
    cases a; cases c; simp_all
  · rintro rfl
    exact ⟨rfl, rfl, rfl, rfl⟩
def EqRow (K : PySem.W.Frag) (dx dy : D) (b : Bool) : Prop := ∃ xs ys : List Wr, dx = rowD K xs ∧ dy = rowD K ys ∧ b = decide (xs = ys)
theorem hits_tb {K : PySem.W.Frag} {u : Tb} (nd : (u.map (·.1)).Nodup) : ∀ t : Tb, EHits (EqRow K) (u.map fun x => ((.inr x.1 : Key), rowD K x.2)) (t.map fun x => ((.inr x.1 : Key), rowD K x.2)) (t.all fun p => decide (rowOf u p.1 = some p.2))
  | [] => .nil
  | p :: r => by
    rw [List.map_cons, List.all_cons]
    have hg := tb_getO (K := K) nd p.1
    cases h : rowOf u p.1 with
    | none =>
      rw [h] at hg
      rw [show decide ((none : Option (List Wr)) = some p.2) = false by simp, Bool.false_and]
      exact .miss hg
    | some ws =>
      rw [h] at hg
      have e : decide (some ws = some p.2) = decide (p.2 = ws) := Bool.eq_iff_iff.mpr (by simp [eq_comm])
      rw [e]
      exact .hit hg ⟨p.2, ws, rfl, rfl, rfl⟩ (hits_tb nd r)
theorem castEq_self {t : Tb} (nd : (t.map (·.1)).Nodup) : castEq t t = true := by
  unfold castEq
  rw [Bool.and_eq_true, beq_iff_eq, List.all_eq_true]
  exact ⟨rfl, fun p hp => decide_eq_true (rowOf_some nd hp)⟩
def sCEq {K : PySem.W.Frag} : Spec K := fun I ds P _ => ∃ t z, ds = [cD K t, z] ∧ ((∃ u, z = cD K u ∧ (u.map (·.1)).Nodup ∧ P (.bl (castEq t u)) I) ∨ ∃ ty, tyD z = some ty ∧ P (.bl false) I)
section
variable {P : Program} {w : World} {K : PySem.W.Frag} {mg : Str → Option Value} {base : Heap}
theorem eqb_row {X : Cx} (E : Env X.prog X.w X.K X.mg X.base) : EqB X 2 (EqRow X.K) := by
  have h1 : EqB X 1 (fun dx dy b => ∃ a c : Wr, dx = wrD X.K a ∧ dy = wrD X.K c ∧ b = decide (a = c)) := (EqB.own (X := X) (C := cW X.K) E.h_Write_eq.f E.h_Write_eq.i E.k_Write.nW (M_weq E)).imp fun x y b ⟨a, c, e1, e2, e3⟩ =>
    ⟨[.str a.l, .str a.e, .str a.k, .str a.t], [.str c.l, .str c.e, .str c.k, .str c.t], e1, e2, rfl, rfl, rfl, fun e => by
      rw [e3]
      refine decide_eq_true ?_
      cases a; cases c
      simp only [List.cons.injEq, D.str.injEq, and_true] at e
      obtain ⟨h1, h2, h3, h4⟩ := e
      subst h1 h2 h3 h4
      rfl, fun P p => ⟨a.k, a.t, a.l, a.e, .inl ⟨c.k, c.t, c.l, c.e, by rw [e1, e2], by rw [wEq_dec, ← e3]; exact p⟩⟩⟩
  refine h1.tup.imp fun x y b ⟨xs, ys, e1, e2, e3⟩ => ?_
  refine ⟨xs.map (wrD X.K), ys.map (wrD X.K), fun i => match xs[i]?, ys[i]? with
    | some a, some c => decide (a = c)
    | _, _ => true, e1, e2, fun i x y hx hy => ?_, ?_⟩
  · rw [List.getElem?_map] at hx hy
    cases hxi : xs[i]? with
    | none => rw [hxi] at hx; cases hx
    | some a =>
      cases hyi : ys[i]? with
      | none => rw [hyi] at hy; cases hy
      | some c =>
        rw [hxi] at hx
        rw [hyi] at hy
        cases hx
        cases hy
        exact ⟨a, c, rfl, rfl, by simp only [hxi, hyi]⟩
  · rw [List.length_map, List.length_map, rowsEq, e3]
theorem M_ceq (E : Env P w K mg base) : FnR P w K mg base (L2.CX P w) 4 (He.ma K (cC K) "__eq__") (spD K sCEq) := mk_m_Cast_eq E fun fd F => by
  refine fn_d F sc_m_Cast_eq (fun I ds P R h => by obtain ⟨t, z, rfl, _⟩ := h; rfl) fun cdv A outer s H EE hr tk po I ds Q R h => ?_
  obtain ⟨t, z, rfl, h⟩ := h
  have hr3 : Room 3 _ := hr
  rcases h with ⟨u, rfl, nd, q⟩ | ⟨ty, hty, q⟩
  · refine s_one (s_retP (PV.is (pv_andB (k := true) (pv_cb (SlX.call_isiSl (.ref (cC K))) E.b_isinstance (va_cons (pv_v (d := cD K u) 1) (va_cons (pv_gref E.g_Cast) va_nil)) (pn_isiSl E.k_Cast.sc E.k_Cast.si E.k_Cast.kW)) fun _ => pv_one (pv_cmp (op_eqDic (eqb_row E) hr3) (pv_sl E.k_Cast.sc E.s_Cast_table (pv_v 0) rfl) (pv_sl E.k_Cast.sc E.s_Cast_table (pv_v 1) rfl) (p2_eqDic (ka := t.map fun x => ((.inr x.1 : Key), rowD K x.2)) (kb := u.map fun x => ((.inr x.1 : Key), rowD K x.2)) fun _ => hits_tb nd t))) ?_) q)
    rw [Bool.true_and, List.length_map, List.length_map]; rfl
  · exact s_one (s_retP (PV.is (pv_andB (k := false) (l := false) (pv_cb call_isi E.b_isinstance (va_cons (pv_v (d := z) 1) (va_cons (pv_gref E.g_Cast) va_nil)) (pn_isiO hty (E.k_Cast.kT _ (tyD_in hty)))) fun z => nomatch z) rfl) q)
end
section
variable {X : Cx} {I : Iv X.K} {a b : Expr} {δ : DEnv} {pos : Pos} {t : Tb} {n : Str}
theorem EvT.weakC {e : Expr} {W : WX} {R : Rx X.K} {P : Bool → Iv X.K → Prop} (h : EvT X (fun _ _ _ _ => False) (fun _ _ _ => False) e δ I P) : EvT X W R e δ I P := fun σ G H Q hE s hI qx q => h σ G H Q hE s hI (fun _ _ _ _ _ _ _ _ _ _ _ _ z => z.elim) q
theorem ptC_has (E : Env X.prog X.w X.K X.mg X.base) (hr : Room 1 X.A) (nd : (t.map (·.1)).Nodup) (ha : PV X I a δ (.str n)) (hb : PV X I b δ (cD X.K t)) (hm : behindInMarks .In b = false := by rfl) : PVT X I (.Compare a [.In] [b] pos) δ (rowOf t n).isSome := fun W R P pp =>
  EvT.weakC (et_inOwn takesF E.h_Cast_contains.f E.h_Cast_contains.i (M_chas E) hr (ha.ev (hb.ev ⟨insD_slo, t, n, rfl, nd, _, rfl, pp⟩)) hm)
theorem ptC_not (E : Env X.prog X.w X.K X.mg X.base) (hr : Room 1 X.A) (nd : (t.map (·.1)).Nodup) (ha : PV X I a δ (.str n)) (hb : PV X I b δ (cD X.K t)) (hm : behindInMarks .NotIn b = false := by rfl) : PVT X I (.Compare a [.NotIn] [b] pos) δ (!(rowOf t n).isSome) := fun W R P pp =>
  EvT.weakC (et_ninOwn takesF E.h_Cast_contains.f E.h_Cast_contains.i (M_chas E) hr (ha.ev (hb.ev ⟨insD_slo, t, n, rfl, nd, _, rfl, pp⟩)) hm)
end
end LK
set_option Elab.async false
set_option linter.all false
set_option maxRecDepth 100000
set_option maxHeartbeats 4000000
namespace DL
open PySem PySem.Spec PyProof.Rows L2
section
variable {X : Cx} {W : WX} {R : Rx X.K} {n : Nat} {C : Addr} {S : Spec X.K} {δ : DEnv} {I I' : Iv X.K} {e : Expr} {pos pos' : Pos} {κ : Ko X.K} {x' : Str} {x : D} {sts : List Stmt} {st : Stmt} {P : D → Iv X.K → Prop}
def Fz {K : PySem.W.Frag} (I I' : Iv K) : Prop := ∀ (G H : Hp), Same G H → Hd I G H → ∃ G2, Same G G2 ∧ Same G2 H ∧ Hd I' G2 H
theorem Fz.sx (f : Fz I I') (h : SX X W sts δ I' κ) : SX X W sts δ I κ := fun σ G H E hE s hI k => by
  obtain ⟨G2, s2, t2, h2⟩ := f G H s hI
  exact h σ G2 H E (hE.mono s2) t2 h2 (k.mono s2)
theorem Fz.s1 (f : Fz I I') (h : S1 X W st δ I' κ) : S1 X W st δ I κ := fun σ G H E hE s hI k => by
  obtain ⟨G2, s2, t2, h2⟩ := f G H s hI
  exact h σ G2 H E (hE.mono s2) t2 h2 (k.mono s2)
theorem Fz.ev (h : EvX X W R e δ I fun d I1 => ∃ I2, Fz I1 I2 ∧ P d I2) : EvX X W R e δ I P := fun σ G H Q hE s hI qx q =>
  h σ G H Q hE s hI qx fun v d G1 H1 I1 s1 t1 h1 r1 ⟨I2, f, p⟩ => by
    obtain ⟨G2, s2, t2, h2⟩ := f G1 H1 t1 h1
    exact q v d G2 H1 I2 (s1.trans s2) t2 h2 (r1.mono s2) p
theorem Fz.wk {K : PySem.W.Frag} {I J L : Iv K} (w : Wk I J) (f : Fz J L) : Fz I L := fun G H s h => f G H s (h.wk w)
end
end DL
set_option Elab.async false
set_option linter.all false
set_option maxRecDepth 100000
set_option maxHeartbeats 4000000
namespace DL
open PySem PySem.Spec PyProof.Rows L2
section
variable {X : Cx} {W : WX} {R : Rx X.K} {n1 n2 : Nat} {C : Addr} {SE SF : Spec X.K} {δ : DEnv} {I : Iv X.K} {ctx : Expr} {body : List Stmt} {pos py : Pos} {κ : Ko X.K} {y : Str}
end
end DL
set_option Elab.async false
set_option linter.all false
set_option maxRecDepth 100000
set_option maxHeartbeats 4000000
namespace DL
open PySem PySem.Spec PyProof.Rows L2
structure FnZ (P : Program) (w : World) (K : PySem.W.Frag) (mg : Str → Option Value) (base : Heap) (k : Nat) (f : Addr) (fd : FuncData) (ps : List Str) (sp : Sp) : Prop where
  len : ∀ vs H Q E, sp vs H Q E → vs.length = ps.length
  run : ∀ (A : Around) (outer : List Env) (s : Shared) (H : Hp) (args : Args) (us : List Value) (vs : List V) (Q : VK) (E : XK) (p : Addr × Obj), L2H.RoomH k A → L2H.PinOk outer H s p → Env0 P w K mg base A outer s H → BindsTo s fd args (ps.zip us) → Vals vs us → sp vs H Q E →
    codeAny (model P w) A (.call (.ref f) args) (CR (L2.CX P w) outer P w H s Q E) s
end DL
set_option Elab.async false
set_option linter.all false
set_option maxRecDepth 100000
set_option maxHeartbeats 4000000
namespace DL
open PySem PySem.Spec PyProof.Rows L2
section
variable {X : Cx} {W : WX} {n3 : Nat} {C c : Addr} {S : Spec X.K} {pins : List (Addr × Obj)} {Q : Flow → Shared → Prop}
end
section
variable {X : Cx} {W : WX} {R : Rx X.K} {n1 n2 n3 : Nat} {C : Addr} {SE SF SZ : Spec X.K} {δ : DEnv} {I : Iv X.K} {ctx : Expr} {body : List Stmt} {pos py : Pos} {κ : Ko X.K} {y : Str}
end
end DL
set_option Elab.async false
set_option linter.all false
set_option maxRecDepth 100000
set_option maxHeartbeats 4000000
namespace DL
open PySem PySem.Spec PyProof.Rows L2
section
variable {M : Model} {A : Around} {E : Value → Shared → Prop} {s : Shared} {env : Env}
end
section
variable {M : Model} {A : Around} {E : Value → Shared → Prop} {s : Shared} {Z : Obj → Prop} {B : Heap} {env : Env} {outer : List Env} {L C a : Addr}
end
section
variable {X : Cx} {W : WX} {pins : List (Addr × Obj)} {σ : L2.St} {H : Hp} {s : Shared} {scope : Scope} {ce : Env} {fp : List Addr} {use : Option (Value → Sem Unit)} {Q : Value → Shared → Prop} {acc : Value}
end
end DL
set_option Elab.async false
set_option linter.all false
set_option maxRecDepth 100000
set_option maxHeartbeats 4000000
namespace DL
open PySem PySem.Spec PyProof.Rows L2
section
variable {X : Cx} {W : WX}
end
section
variable {X : Cx} {W : WX} {R : Rx X.K} {elt tg iter : Expr} {ifs : List Expr} {scope : Scope} {δ : DEnv} {I : Iv X.K} {κ : Ko X.K} {P : D → Iv X.K → Prop} {pos : Pos}
end
end DL
set_option Elab.async false
set_option linter.all false
set_option maxRecDepth 100000
set_option maxHeartbeats 4000000
namespace DL
open PySem PySem.Spec PyProof.Rows L2
section
variable {X : Cx} {W : WX} {R : Rx X.K} {elt tg iter : Expr} {scope : Scope} {δ : DEnv} {I : Iv X.K} {P : D → Iv X.K → Prop}
end
end DL
set_option Elab.async false
set_option linter.all false
set_option maxRecDepth 100000
set_option maxHeartbeats 4000000
namespace DL
open PySem PySem.Spec PyProof.Rows L2
section
variable {X : Cx} {W : WX}
end
section
variable {X : Cx} {W : WX} {R : Rx X.K} {tg iter kx vx : Expr} {scope : Scope} {δ : DEnv} {I : Iv X.K} {P : D → Iv X.K → Prop} {pos : Pos}
end
end DL
set_option Elab.async false
set_option linter.all false
set_option maxRecDepth 100000
set_option maxHeartbeats 4000000
namespace DL
open PySem PySem.Calls PyProof.Rows
section
variable {prog : Program} {w : World} {A : Around} {E : Value → Shared → Prop} {s : Shared} {K : Type} [DecidableEq K] {knd : KeyKind prog w K}
theorem wpAny_dictPut_pairs {d : Addr} {kvs : List (K × Value)} {k : K} {key v : Value} {Q : Unit → Shared → Prop} (hkey : knd.is k key = true) (hm : s.heap.DictOf knd d kvs)
    (hQ : ∀ h', h'.DictOf knd d (stored kvs k v) → Heap.SameBut d s.heap h' → Q () { s with heap := h' })
    (hsz : kvs.length ≤ sizeLine) :
    wpAny (model prog w) A (dictPut d (knd.hash k) key v) Q E s := by
  obtain ⟨o, es, ep, ho, hc, hd, hk, hp, hn⟩ := hm
  have hes : es.size ≤ sizeLine := by have e1 := hp.length; have e2 : es.toList.length = es.size := by simp
                                      omega
  unfold dictPut
  refine wpAny_bind (wpAny_dictFind_of hkey ho hd hk ?_)
  have hidx : (es.findIdx? fun e => knd.is k e.key) = kvs.findIdx? fun kv => decide (kv.1 = k) := by
    rw [← hp.findIdx k]; obtain ⟨l⟩ := es; simp
  cases hi : es.findIdx? fun e => knd.is k e.key with
  | some i =>
    refine wpAny_updateDict ho hd (hQ _ ⟨_, _, ep, Heap.get?_update_self _ ho (Obj.isFreed_of_dict (Obj.data_mapDict hd _)),
      hc.mapDict _, Obj.data_mapDict hd _, hk.modify _ _, ?_, ?_⟩ (Heap.SameBut.update ..))
    · rw [stored, if_pos (any_of_findIdx_some (hidx ▸ hi))]
      have hl : (es.toList.findIdx? fun e => knd.is k e.key) = some i := by rw [← hi]; obtain ⟨l⟩ := es; simp
      have := hp.modify hn hl v
      obtain ⟨l⟩ := es
      simpa using this
    · rw [stored, if_pos (any_of_findIdx_some (hidx ▸ hi)), keys_map_store]; exact hn
  | none =>
    have hnot : k ∉ kvs.map (·.1) := not_mem_of_findIdx_none (hidx ▸ hi)
    have hany : ¬ (kvs.any fun kv => decide (kv.1 = k)) = true := by
      rw [List.any_eq_true]; rintro ⟨kv, hkv, he⟩
      exact hnot (List.mem_map.mpr ⟨kv, hkv, of_decide_eq_true he⟩)
    refine wpAny_updateDictKeys (hz := hes) ho hd (hQ _ ⟨_, _, ep + 1, Heap.get?_update_self _ ho (Obj.isFreed_of_dict (Obj.data_mapDictKeys hd _)),
      hc.mapDictKeys _, Obj.data_mapDictKeys hd _, hk.push hkey _, ?_, ?_⟩ (Heap.SameBut.update ..))
    · rw [stored, if_neg hany]
      have := hp.append hkey (knd.hash k) v
      obtain ⟨l⟩ := es
      simpa using this
    · rw [stored, if_neg hany, List.map_append, List.nodup_append]
      refine ⟨hn, by simp, ?_⟩
      intro a ha b hb
      simp only [List.map_cons, List.map_nil, List.mem_singleton] at hb
      subst hb
      exact fun e => hnot (e ▸ ha)
theorem wpAny_mergeMapping {d o : Addr} {kvs more : List (K × Value)} {Q : Unit → Shared → Prop} (hdo : d ≠ o) (hoS : (o == sysModules) = false) (hnr : ∀ k v, knd.is k v = true → ∀ a, v ≠ .ref a)
    (hd : s.heap.DictOf knd d kvs) (ho : s.heap.DictOf knd o more) (hT : s.TypeIs (.ref o) "dict")
    (hQ : ∀ h', h'.DictOf knd d (merged kvs more) → h'.DictOf knd o more → Heap.SameBut d s.heap h' → Q () { s with heap := h' })
    (hsz : kvs.length + more.length ≤ sizeLine) :
    wpAny (model prog w) A (mergeMapping d (.ref o) false) Q E s := by
  obtain ⟨od, esd, epd, hod, hcd, hdd, hkd, hpd, hnd⟩ := id hd
  obtain ⟨oo, eso, epo, hoo, hco, hdo', hko, hpo, hno⟩ := id ho
  have hlen : more.length = eso.size := by rw [← hpo.length]; simp
  unfold mergeMapping
  have loop : wpAny (model prog w) A (do
      let l ← dictEntries o
      let epoch ← dictEpoch o
      forIn (List.range l.size) PUnit.unit fun i (_ : PUnit) => (do
          let l' ← dictEntries o
          match l'[i]? with
            | some e => do
              holding [e.key, e.val] (dictPut d e.hash e.key e.val)
              let ep' ← dictEpoch o
              if (ep' != epoch) = true then do
                  (unsupported "dict.changed-during-merge" : Sem PUnit)
                  pure (ForInStep.yield PUnit.unit)
                else pure (ForInStep.yield PUnit.unit)
            | _ => do
              (unsupported "dict.changed-during-merge" : Sem PUnit)
              pure (ForInStep.yield PUnit.unit) : Sem (ForInStep PUnit))
      pure ()) Q E s := by
    refine wpAny_bind (wpAny_dictEntries hoo hdo' ?_)
    refine wpAny_bind (wpAny_dictEpoch hoo hdo' ?_)
    refine wpAny_bind ?_
    rw [List.range_eq_range']
    refine wpAny_forIn_list _
      (fun rest _ s' => ∃ h' i, s' = { s with heap := h' } ∧ rest = List.range' i (eso.size - i) ∧ i ≤ eso.size ∧ h'.DictOf knd d (merged kvs (more.take i)) ∧ h'.get? o = some oo ∧ Heap.SameBut d s.heap h')
      _ ?_ ?_ _ _ ⟨s.heap, 0, rfl, by simp, Nat.zero_le _, by simpa [merged] using hd, hoo, Heap.SameBut.refl _ _⟩
    · rintro x rest b s' ⟨h', i, rfl, hr, hi, hd', hoo', hs'⟩
      have hlt : i < eso.size := by
        rcases Nat.lt_or_ge i eso.size with h | h
        · exact h
        · rw [Nat.sub_eq_zero_of_le h] at hr; simp at hr
      obtain ⟨rfl, hrest⟩ : x = i ∧ rest = List.range' (i + 1) (eso.size - (i + 1)) := by
        have e : eso.size - i = (eso.size - (i + 1)) + 1 := by omega
        rw [e, List.range'_succ] at hr
        injection hr with h1 h2
        exact ⟨h1, h2⟩
      refine wpAny_bind (wpAny_dictEntries hoo' hdo' ?_)
      rw [Array.getElem?_eq_getElem hlt]
      obtain ⟨kv, hkv⟩ : ∃ kv, more[x]? = some kv := ⟨more[x]'(by rw [hlen]; exact hlt), List.getElem?_eq_getElem _⟩
      obtain ⟨k, v⟩ := kv
      obtain ⟨hkey, hval⟩ := hpo.get? (e := eso[x]) (by simp [hlt]) hkv
      obtain ⟨k', hkey', hhash⟩ := hko eso[x] (Array.getElem_mem hlt)
      obtain rfl : k' = k := knd.inj _ _ _ hkey' hkey
      show wpAny _ _ (holding [eso[x].key, eso[x].val] (dictPut d eso[x].hash eso[x].key eso[x].val) >>= _) _ _ _
      rw [hhash, hval]
      have hmx : (merged kvs (more.take x)).length ≤ sizeLine := by
        have e1 := merged_length_le kvs (more.take x)
        have e2 : (more.take x).length ≤ more.length := by rw [List.length_take]; omega
        omega
      refine wpAny_bind (wpAny_holding (wpAny_dictPut_pairs (hsz := hmx) hkey hd' fun h'' hd'' hs'' => ?_))
      have hoo'' : h''.get? o = some oo := (hs''.2 o (Ne.symm hdo)).trans hoo'
      refine wpAny_bind (wpAny_dictEpoch hoo'' hdo' ?_)
      rw [if_neg (by simp)]
      exact wpAny_pure ⟨h'', x + 1, rfl, hrest, hlt, by rw [merged_take_succ kvs more x (k', v) hkv]; exact hd'', hoo'', hs'.trans hs''⟩
    · rintro b s' ⟨h', i, rfl, hr, hi, hd', hoo', hs'⟩
      have hin : i = eso.size := by
        rcases Nat.lt_or_ge i eso.size with h | h
        · have e : eso.size - i = (eso.size - (i + 1)) + 1 := by omega
          rw [e, List.range'_succ] at hr; exact nomatch hr
        · exact Nat.le_antisymm hi h
      refine wpAny_pure (hQ h' ?_ ⟨oo, eso, epo, hoo', hco, hdo', hko, hpo, hno⟩ hs')
      rw [hin, ← hlen, List.take_length] at hd'; exact hd'
  refine wpAny_bind (wpAny_isInstance hT (b := true) (by kernel_rfl) ?_)
  rw [if_pos rfl]
  refine wpAny_bind (wpAny_specialOf hT F.slot_dict_iter.lookup ?_)
  have e1 : (some (Value.builtin "dict.__iter__") == some (Value.builtin "dict.__iter__")) = true := by decide +kernel
  rw [e1]
  refine wpAny_bind (wpAny_pure ?_)
  dsimp only
  rw [if_neg (by rw [hoS]; exact Bool.false_ne_true)]
  refine wpAny_bind (wpAny_dictEntries hod hdd ?_)
  split
  · refine wpAny_bind (wpAny_dictEntries hoo hdo' ?_)
    refine wpAny_bind (wpAny_of_eq (a := PUnit.unit) ?_ loop)
    rw [← Array.forIn_toList]
    refine forIn_yield_id _ fun e he c => ?_
    obtain ⟨k, hkey, _⟩ := hko e (Array.mem_toList_iff.mp he)
    have := hnr k e.key hkey
    split
    · rename_i a ea
      exact absurd ea (this a)
    · rfl
  · exact loop
end
end DL
set_option Elab.async false
set_option linter.all false
set_option maxRecDepth 100000
set_option maxHeartbeats 4000000
namespace L2
open PySem PySem.Spec PyProof.Rows
section
variable {X : Cx} {a b : Expr} {ta tb : TE} {pos : Pos} {A : Around}
theorem merge_ok {pins : List (Addr × Obj)} {σ : St} {H : Hp} {s : Shared} {d a : Addr} {kvs more : List (Key × V)} {Q : Unit → Shared → Prop} {E : Value → Shared → Prop} (I : Inv X pins σ H s) (hd : H d = some (.dK kvs)) (ha : Rd H a (.dK more)) (hne : a ≠ d) (hz : kvs.length + more.length ≤ 1000000)
    (h : ∀ s', Inv X pins σ (upd H d (.dK (mergeK kvs more))) s' → Q () s') : wpAny (model X.prog X.w) A (mergeMapping d (.ref a) false) Q E s := by
  obtain ⟨z, lo, vs, rel, dd⟩ := dk_of I.hok hd
  obtain ⟨z2, lo2, vs2, rel2, dd2⟩ := dk_rd I.hok ha
  have hT : s.TypeIs (.ref a) "dict" := by
    obtain ⟨o, es, ep, ho, hc, _⟩ := id dd2
    exact ⟨o, ho, hc.1⟩
  refine DL.wpAny_mergeMapping (knd := mixKind X.prog X.w) (Ne.symm hne) lo2 (fun k v hk a ea => ?_) dd dd2 hT (fun h' dd' dd2' hs => ?_) ?_
  · rcases keyIs_shape hk with ⟨i, t, _, rfl⟩ | ⟨x, t, _, rfl⟩ <;> cases ea
  · have hz' : (mergeK kvs more).length ≤ sizeLine := by
      have h1 := length_mergeK more kvs
      rw [sizeLine_eq]; omega
    have he : ∃ q, h'.get? d = some q := let ⟨q, _, _, hq, _⟩ := dd'; ⟨q, hq⟩
    exact h _ (d_write I (by rw [hd]; exact True.intro) hs he (dk_new hz' lo (rel2.merge rel) dd'))
  · rw [← rel.length, ← rel2.length, sizeLine_eq]; omega
end
end L2
namespace DL
open PySem PySem.Spec PyProof.Rows L2
def mergeG {α : Type} (kds more : List (Key × α)) : List (Key × α) := more.foldl (fun acc kv => putG acc kv.1 kv.2) kds
theorem KR.merge {K : PySem.W.Frag} {G : Hp} : ∀ {more : List (Key × D)} {mv : List (Key × V)} {kds : List (Key × D)} {kvs : List (Key × V)}, KR K G more mv → KR K G kds kvs → KR K G (mergeG kds more) (mergeK kvs mv)
  | [], mv, kds, kvs, h, k => by
    rw [show mv = [] from h]; exact k
  | (k1, d) :: more, mv, kds, kvs, h, k => by
    obtain ⟨v, r, e, rv, rr⟩ := h
    rw [e]
    show KR K G (mergeG (putG kds k1 d) more) (mergeK (putK kvs k1 v) r)
    exact KR.merge (more := more) (mv := r) rr (k.put rv)
theorem KR.len {K : PySem.W.Frag} {G : Hp} : ∀ {kds : List (Key × D)} {kvs : List (Key × V)}, KR K G kds kvs → kvs.length = kds.length
  | [], _, h => by rw [show _ = [] from h]; rfl
  | _ :: _, _, ⟨v, r, e, _, h⟩ => by rw [e, List.length_cons, List.length_cons, KR.len h]
section
variable {X : Cx} {W : WX} {R : Rx X.K} {a b : Expr} {δ : DEnv} {I : Iv X.K} {P : D → Iv X.K → Prop} {pos : Pos} {k1 k2 : List (Key × D)}
end
end DL
set_option Elab.async false
set_option linter.all false
set_option maxRecDepth 100000
set_option maxHeartbeats 4000000
namespace L2
open PySem PySem.Spec PyProof.Rows
section
variable {X : Cx}
end
end L2
namespace DL
open PySem PySem.Spec PyProof.Rows L2
section
variable {X : Cx} {W : WX} {R : Rx X.K} {o e i : Expr} {δ : DEnv} {I : Iv X.K} {apos pos ep ps : Pos} {q : Addr} {κ : Ko X.K} {kds more : List (Key × D)}
end
end DL
set_option Elab.async false
set_option linter.all false
set_option maxRecDepth 100000
set_option maxHeartbeats 4000000
namespace DL
open PySem PySem.Spec PyProof.Rows L2
abbrev TsA := Addr → Value → Option Addr → TS
def offD (D : Ends) (i : Nat) : Ends := ⟨fun z g => D.nx (z.set i none) g, D.rt, fun z g => D.bk (z.set i none) g, fun z g => D.ct (z.set i none) g⟩
def wAsM (K : PySem.W.Frag) (Wo : WX) (D : Ends) : List (Value × Nat × TsA) → WX
  | [] => Wo
  | q :: r => fun C dd z g => ∃ b, PySem.W.exmOne K C q.1 = some b ∧ (b = true → ∀ p, g p = none → q.2.2 p C dd (offD D q.2.1) (z.set q.2.1 (some (.ref p))) g) ∧ (b = false → wAsM K Wo D r C dd z g)
structure AsC (X : Cx) (hd : ExceptHandler) (q : Value × Nat × TsA) : Prop where
  e : ∃ (x n : Str) (b0 : Stmt) (su : List Stmt) (p1 p2 : Pos), hd = .ExceptHandler (some (.Name x p1)) (some n) (b0 :: su) p2 ∧ Names X x q.1 ∧ X.N[q.2.1]? = some n ∧ X.env.kindOf n = some .local ∧
    ∀ (p : Addr) (o : Obj) (C : Value) (dd : Option Addr) (pn : List (Addr × Obj)), Zc C dd o → (∃ fv, o.data = .fields fv) → PSs (X.suite p ((p, o) :: pn)) (b0 :: su) (q.2.2 p C dd)
inductive AsAll (X : Cx) : List ExceptHandler → List (Value × Nat × TsA) → Prop
  | nil : AsAll X [] []
  | cons {h : ExceptHandler} {q : Value × Nat × TsA} {hs : List ExceptHandler} {l : List (Value × Nat × TsA)} : AsC X h q → AsAll X hs l → AsAll X (h :: hs) (q :: l)
section
variable {X : Cx} {sts : List Stmt} {h0 : ExceptHandler} {hds : List ExceptHandler} {l : List (Value × Nat × TsA)} {pos : Pos} {tb : WX → TS} {Wo : WX}
theorem ps_try_asM (st : X.stack = X.env :: X.outer) (fr : X.env.frame = some X.env.locals) (nd : X.N.Nodup) (tk : Takes X Wo)
    (body : ∀ (V : WX) (pn : List (Addr × Obj)) (xe : Value → Shared → Prop), Takes (X.tr pn xe) V → PassesOwn (model X.prog X.w) X.A X.env xe → PSs (X.tr pn xe) sts (tb V))
    (all : AsAll X (h0 :: hds) l) : PS X (.Try sts (h0 :: hds) [] [] pos) (fun D z g => tb (wAsM X.K Wo D l) D z g) := by
  refine ⟨fun ps s z g D I hw => ?_⟩
  have ok := I.ok
  have fr2 : X.A.frames = some (X.env :: X.outer) := ok.frames.trans (congrArg some st)
  refine wpAny_Try_except (wpAny_mono (PSs.run (body (wAsM X.K Wo D l) (X.pn ++ ps) (fun e s1 => wpAny (model X.prog X.w) X.A (noteFrame e X.env) (fun _ s2 => wpAny (model X.prog X.w) X.A (setFlight e none) (fun _ s3 => wpAny (model X.prog X.w) X.A (handleBy e X.env (h0 :: hds)) (SP X ps D) X.xe s3) X.xe s2) X.xe s1) (fun u s1 xx => ?_) PassesOwn.looking) [] s z g D (I.toTry _) hw) (fun f s1 hsp => ?_) (fun _ _ he => he))
  · obtain ⟨a, B, s0, ps9, z1, g1, C, dd, rfl, J0, nb, up, sky, na, os, ag, w1⟩ := xx
    have J : Inv X ps z1 g1 s0 := J0.ofTry ok
    rw [st] at sky
    show wpAny (model X.prog X.w) X.A (noteFrame (.ref a) X.env) _ _ _
    refine Sky.land Zc.steady fr2 fr sky fun h3 fl up3 => ?_
    have J3 : Inv X ps z1 g1 { s1 with heap := h3 } := J.landed nb fl.1 (up.trans up3) os ag
    obtain ⟨o3, fv3, x3, y3, d3⟩ := fl.there
    have aoff : a ∉ frs (X.env :: X.outer) := fun hm => by
      obtain ⟨_, o', e', hnf⟩ := fl.2.2.1.mem hm
      rw [x3] at e'
      cases e'
      exact hnf _ d3
    have aL : a ≠ X.env.locals := fun e => aoff (List.mem_filterMap.mpr ⟨X.env, List.mem_cons_self, by rw [fr, e]⟩)
    have aF : a ∉ X.fs := fun hm => by
      obtain ⟨y, hy, e⟩ := List.mem_filterMap.mp hm
      exact aoff (List.mem_filterMap.mpr ⟨y, List.mem_cons_of_mem _ hy, e⟩)
    have S3 := J3.suite x3 d3 na aL aF
    have go : ∀ {hs : List ExceptHandler} {m : List (Value × Nat × TsA)}, AsAll X hs m → wAsM X.K Wo D m C dd z1 g1 → wpAny (model X.prog X.w) X.A (handleBy (.ref a) X.env hs) (SP X ps D) X.xe { s1 with heap := h3 } := fun {hs m} hk => by
      induction hk with
      | nil =>
        intro w2
        refine wpAny_handleBy_nil ?_
        obtain ⟨_, _, _, o4, fv4, T, oT, ts4, i1, i2, i3, i4, _⟩ := id fl
        unfold PySem.passOn
        refine wpAny_bind (wpAny_field i1 i3 i4 ?_)
        rw [if_neg (by simp : ¬ ((Value.ref T == Value.none) = true))]
        have off : wpAny (model X.prog X.w) X.A (setFlight (.ref a) X.env.frame) (fun _ s4 => wpAny (model X.prog X.w) X.A (throw (.ref a) : Sem Flow) (SP X ps D) X.xe s4) X.xe { s1 with heap := h3 } := by
          rw [fr]
          exact HandSPX.setFlight_upZ fl fun h4 k4 up4 => wpAny_throw (tk _ _ ⟨a, B, s0, ps, z1, g1, C, dd, rfl, J, nb, (up.trans up3).trans up4, .inr (.inr (by rw [st]; exact k4)), na, os, ag, w2⟩)
        first
          | exact wpAny_bind (wpAny_pure (wpAny_bind off))
          | exact wpAny_bind off
      | @cons hd q hs2 m2 hc _ ih =>
        intro w2
        obtain ⟨x, n, b0, su, p1, p2, rfl, nm, hi, hln, suite⟩ := hc.e
        obtain ⟨b, m1, yes, no⟩ := w2
        have looks : PySem.W.Looks (model X.prog X.w) h3 (typeOf (.ref a)) C := fun A Q E s k k2 => wpAny_typeOf_ref (k _ _ x3) (by rw [y3.1]; exact k2)
        have here := PySem.W.exm_one (M := model X.prog X.w) J3.kIn looks m1
        have test : ∀ {Q : Value → Shared → Prop} {E : Value → Shared → Prop}, Q q.1 { s1 with heap := h3 } → wpAny (model X.prog X.w) (X.A.mark (some (.ref a))) (eval (.Name x p1) X.env) Q E { s1 with heap := h3 } := fun k => by
          rcases nm with ⟨n1, n2, n3 | ⟨n3, n4, n5⟩⟩
          · exact ld_glob (X := X.suite a ((a, o3) :: (X.pn ++ ps))) S3 n1 n3 k n2
          · exact ld_blt (X := X.suite a ((a, o3) :: (X.pn ++ ps))) S3 n1 n3 n4 k n5 n2
        refine wpAny_handleBy_cons (codeAny_handlers_test (test (here.here ?_))) (fun e => by cases e)
        cases b with
        | false => exact ih (no rfl)
        | true =>
          refine codeAny_handlers_suite_as (HandSPX.lands_againZ fl fun h4 fl4 up4 => ?_)
          have J4 : Inv X ps z1 g1 { s1 with heap := h4 } := J.landed nb fl4.1 ((up.trans up3).trans up4) os ag
          obtain ⟨o4, fv4, x4, y4, d4⟩ := fl4.there
          refine store_ok (X := X.suite a ((a, o4) :: (X.pn ++ ps))) (v := .ref a) (J4.suite x4 d4 na aL aF) nd hi (.inl hln) rfl (fun s5 S5 => ?_) (.inr hln)
          refine wpAny_mono ((suite a o4 C dd (X.pn ++ ps) y4 ⟨_, d4⟩).run [] s5 _ g1 _ S5 (yes rfl a na)) (fun f s6 hsp => ?_) (fun _ _ e => False.elim e)
          have last : ∀ {z6 : L2.St} {g6 : Hp} {Q : Shared → Prop}, Inv (X.suite a ((a, o4) :: (X.pn ++ ps))) [] z6 g6 s6 → (∀ s7, Inv X ps (z6.set q.2.1 none) g6 s7 → Q s7) → wpAny (model X.prog X.w) X.A (do bindName X.env n .none; unbindBehindTheSuite X.env n p2) (fun _ s7 => Q s7) X.xe s6 := fun S6 k => gone_ok (S6.unsuite ok) nd hi hln k
          cases f with
          | ret u =>
            obtain ⟨v6, z6, g6, S6, r6, q6⟩ := hsp
            exact last S6 fun s7 J7 => ⟨v6, _, _, J7, r6, q6⟩
          | next =>
            obtain ⟨z6, g6, S6, q6⟩ := hsp
            exact last S6 fun s7 J7 => ⟨_, g6, J7, q6⟩
          | brk =>
            obtain ⟨z6, g6, S6, q6⟩ := hsp
            exact last S6 fun s7 J7 => ⟨_, g6, J7, q6⟩
          | cont =>
            obtain ⟨z6, g6, S6, q6⟩ := hsp
            exact last S6 fun s7 J7 => ⟨_, g6, J7, q6⟩
    exact go all w1
  · cases f with
    | ret u => exact match hsp with | ⟨v, z1, g1, J1, r, k⟩ => ⟨v, z1, g1, J1.ofTry ok, r, k⟩
    | next => exact match hsp with | ⟨z1, g1, J1, k⟩ => wpAny_execs_nil ⟨z1, g1, J1.ofTry ok, k⟩
    | brk => exact match hsp with | ⟨z1, g1, J1, k⟩ => ⟨z1, g1, J1.ofTry ok, k⟩
    | cont => exact match hsp with | ⟨z1, g1, J1, k⟩ => ⟨z1, g1, J1.ofTry ok, k⟩
end
inductive ClsAll (X : Cx) : List ExceptHandler → List (Value × Nat × List Stmt) → Prop
  | nil : ClsAll X [] []
  | cons {x n : Str} {c : Value} {i : Nat} {b0 : Stmt} {su : List Stmt} {p1 p2 : Pos} {hs : List ExceptHandler} {m : List (Value × Nat × List Stmt)} (nm : Names X x c) (r : ClsAll X hs m) (hi : X.N[i]? = some n := by rfl) (hln : X.env.kindOf n = some .local := by rfl) : ClsAll X (.ExceptHandler (some (.Name x p1)) (some n) (b0 :: su) p2 :: hs) ((c, i, b0 :: su) :: m)
def CatX (X : Cx) (κ : Ko X.K) : List (Value × Nat × List Stmt) → Addr → List (Str × D) → DEnv → Iv X.K → Prop
  | [], C, fs, δ, I => κ.ex C fs δ I
  | q :: r, C, fs, δ, I => ∃ b, PySem.W.exmOne X.K (.ref C) q.1 = some b ∧ (b = true → ∀ (a dd : Addr) (oe : Obj) (pn : List (Addr × Obj)), Zc (.ref C) (some dd) oe → (∃ vs, oe.data = .fields vs) → SX (X.suite a ((a, oe) :: pn)) W0 q.2.2 (δ.set q.2.1 (some (.exc a C dd (fs.map (·.1)) (fs.map (·.2))))) I
        ⟨fun δ2 I2 => κ.nx (δ2.set q.2.1 none) I2, κ.rt, fun δ2 I2 => κ.bk (δ2.set q.2.1 none) I2, fun δ2 I2 => κ.ct (δ2.set q.2.1 none) I2, fun _ _ _ _ => False⟩) ∧ (b = false → CatX X κ r C fs δ I)
def tsA (X : Cx) (sts : List Stmt) : TsA := fun a cls d D σ H => ∀ (oe : Obj) (pn : List (Addr × Obj)), Zc cls d oe → (∃ vs, oe.data = .fields vs) → wpB (X.suite a ((a, oe) :: pn)) sts D σ H
theorem ClsAll.as {X : Cx} : ∀ {hs : List ExceptHandler} {m : List (Value × Nat × List Stmt)}, ClsAll X hs m → AsAll X hs (m.map fun q => (q.1, q.2.1, tsA X q.2.2))
  | _, _, .nil => .nil
  | _, _, .cons nm r hi hln => .cons ⟨⟨_, _, _, _, _, _, rfl, nm, hi, hln, fun p o C dd pn hz hf => ⟨fun pins s σ H D J q => (q o pn hz hf).run pins s J⟩⟩⟩ r.as
section
variable {X : Cx} {δ : DEnv} {I : Iv X.K} {W : WX} {κ : Ko X.K} {body : List Stmt} {h0 : ExceptHandler} {hds : List ExceptHandler} {m : List (Value × Nat × List Stmt)} {pos : Pos}
theorem s_tryM (tk : Takes X W) (hN : X.N.Nodup) (hc : ClsAll X (h0 :: hds) m)
    (h : ∀ (V : WX) (pn : List (Addr × Obj)) (xe : Value → Shared → Prop), Takes (X.tr pn xe) V → PassesOwn (model X.prog X.w) X.A X.env xe → SX (X.tr pn xe) V body δ I { κ with ex := CatX X κ m })
    (hs : X.stack = X.env :: X.outer := by rfl) (hf : X.env.frame = some X.env.locals := by rfl) : S1 X W (.Try body (h0 :: hds) [] [] pos) δ I κ := fun σ G H E hE s hI k =>
  PS.wp (ps_try_asM (tb := fun V D σ H => ∀ pn xe, Takes (X.tr pn xe) V → PassesOwn (model X.prog X.w) X.A X.env xe → wpB (X.tr pn xe) body D σ H) (Wo := W) hs hf hN tk (fun V pn xe tk' po => ⟨fun pins s σ H D J q => (q pn xe tk' po).run pins s J⟩) hc.as) (by
    intro pn xe tk' po
    refine h _ pn xe tk' po σ G H E hE s hI ⟨k.nx, k.rt, k.bk, k.ct, ?_⟩
    intro C dd fs l δ' σ' G' H' I' s1 t1 h1 e1 rf hd
    obtain ⟨el, rl⟩ := frep_split rf
    have go : ∀ m : List (Value × Nat × List Stmt), CatX X κ m C fs δ' I' → wAsM X.K W E (m.map fun q => (q.1, q.2.1, tsA X q.2.2)) (.ref C) (some dd) σ' H' := by
      intro m
      induction m with
      | nil => exact fun p => k.ex C dd fs l δ' σ' G' H' I' s1 t1 h1 e1 rf hd p
      | cons q r ih =>
        rintro ⟨b, hb, yes, no⟩
        refine ⟨b, hb, fun e a ha oe pn hz hf => ?_, fun e => ih (no e)⟩
        refine yes e a dd oe pn hz hf _ G' H' _ (EnvR.set (v := .ref a) e1 ⟨rfl, l.map (·.2), by rw [← el]; exact hd, rl⟩) t1 h1 ⟨fun δ5 σ5 G5 H5 I5 s5 t5 h5 r5 p5 => k.nx _ _ G5 H5 I5 (s1.trans s5) t5 h5 (r5.drop none) p5, k.rt.mono s1, fun δ5 σ5 G5 H5 I5 s5 t5 h5 r5 p5 => k.bk _ _ G5 H5 I5 (s1.trans s5) t5 h5 (r5.drop none) p5, fun δ5 σ5 G5 H5 I5 s5 t5 h5 r5 p5 => k.ct _ _ G5 H5 I5 (s1.trans s5) t5 h5 (r5.drop none) p5, ?_⟩
        intro _ _ _ _ _ _ _ _ _ _ _ _ _ _ _ z
        exact z.elim
    exact go m)
end
end DL
set_option Elab.async false
set_option linter.all false
set_option maxRecDepth 100000
set_option maxHeartbeats 1000000
namespace LK
open PySem PySem.Spec PyProof.Rows L2 DL
theorem mergeG_new {α : Type} : ∀ (more acc : List (Key × α)), ((acc ++ more).map (·.1)).Nodup → mergeG acc more = acc ++ more
  | [], acc, _ => by simp [mergeG]
  | p :: ps, acc, h => by
    have hn : p.1 ∉ acc.map (·.1) := by
      intro q
      rw [List.map_append, List.map_cons] at h
      exact (List.nodup_append.mp h).2.2 _ q _ (List.mem_cons_self ..) rfl
    show mergeG (putG acc p.1 p.2) ps = _
    rw [putG_new hn, mergeG_new ps _ (by rw [List.append_assoc]; exact h), List.append_assoc]; rfl
theorem nd_keys {ns : List Str} (h : ns.Nodup) : (ns.map fun n => (Sum.inr n : Key)).Nodup := List.Pairwise.map _ (fun a b hne e => hne (Sum.inr.inj e)) h
def clashT (t u : Tb) : Option Str := (t.map (·.1)).find? fun n => (rowOf u n).isSome
theorem TbOk.app {t u : Tb} (o : TbOk t) (o2 : TbOk u) (h : clashT t u = Option.none) (hm : t.length + u.length ≤ 6) : TbOk (t ++ u) := by
  unfold clashT at h
  rw [List.find?_eq_none] at h
  refine ⟨?_, fun p hp => (List.mem_append.mp hp).elim (o.nm p) (o2.nm p), fun p hp => (List.mem_append.mp hp).elim (o.row p) (o2.row p), by rw [List.length_append]; have := o.n; omega, by rw [List.length_append]; exact hm⟩
  rw [List.map_append, List.nodup_append]
  refine ⟨o.nd, o2.nd, fun a ha b hb e => ?_⟩
  subst e
  refine h a ha ?_
  cases q : rowOf u a with
  | none => exact absurd hb (rowOf_none.mp q)
  | some x => rfl
section
variable {P : Program} {w : World} {K : PySem.W.Frag} {mg : Str → Option Value} {base : Heap}
end
end LK
set_option Elab.async false
set_option linter.all false
set_option maxRecDepth 100000
set_option maxHeartbeats 4000000
namespace DL
open PySem PySem.Spec PyProof.Rows L2
section
variable {prog : Program} {w : World} {A : Around} {E : Value → Shared → Prop} {s : Shared}
theorem wp_dd1k {v1 k2 v2 : Sem Value} {Q : Value → Shared → Prop}
    (h : wpAny (model prog w) A (alloc { cls := .type "dict", data := .dict #[] }) (fun d s1 => wpAny (model prog w) A v1 (fun m s2 => wpAny (model prog w) A (mergeMapping d m false) (fun _ s3 =>
      wpAny (model prog w) A (subDict [(k2, v2)]) (fun sub s4 => wpAny (model prog w) A (mergeMapping d (.ref sub) false) (fun _ s5 => Q (.ref d) s5) (fun _ _ => False) s4) E s3) (fun _ _ => False) s2) E s1) E s) :
    wpAny (model prog w) A (dictDisplay [(none, v1), (some k2, v2)]) Q E s := by
  unfold dictDisplay
  refine wpAny_bind ?_
  simp only [List.forIn_cons, List.forIn_nil]
  refine wpAny_bind (wpAny_bind ?_)
  rw [if_pos (show ([] : List (Sem Value × Sem Value)).isEmpty = true from rfl)]
  refine wpAny_pure ?_
  dsimp only
  refine wpAny_bind (wpAny_mono h (fun d s1 h1 => ?_) fun _ _ e => e)
  refine wpAny_bind (wpAny_holding (wpAny_mono h1 (fun m s2 h2 => ?_) fun _ _ e => e))
  refine wpAny_bind (wpAny_onRaise (wpAny_tryCatch (wpAny_onRaise (wpAny_holding (wpAny_mono h2 (fun _ s3 h3 => ?_) fun _ _ f => f.elim)))))
  refine wpAny_pure ?_
  dsimp only
  have e17 : ((([] : List (Sem Value × Sem Value)) ++ [(k2, v2)]).length == 17) = false := rfl
  simp only [e17, Bool.false_eq_true, if_false]
  refine wpAny_bind (wpAny_pure ?_)
  dsimp only
  refine wpAny_pure ?_
  dsimp only
  refine wpAny_bind ?_
  rw [if_neg (show ¬ (([] : List (Sem Value × Sem Value)) ++ [(k2, v2)]).isEmpty = true from by simp)]
  refine wpAny_bind (wpAny_holding (wpAny_mono h3 (fun sub s4 h4 => ?_) fun _ _ e => e))
  refine wpAny_bind (wpAny_onRaise (wpAny_holding (wpAny_mono h4 (fun _ s5 h5 => ?_) fun _ _ f => f.elim)))
  refine wpAny_pure ?_
  exact wpAny_pure h5
end
end DL
namespace L2
open PySem PySem.Spec PyProof.Rows
def tD1K (ta tk tv : TE) : TE := fun σ H Q => ∀ d, H d = none → ta σ (upd H d (.dK [])) fun x H1 => ∃ a kvs, x = .ref a ∧ Rd H1 a (.dK kvs) ∧ a ≠ d ∧ H1 d = some (.dK []) ∧ kvs.length ≤ 100000 ∧
  ∀ q, (upd H1 d (.dK (mergeK [] kvs))) q = none → tk σ (upd (upd H1 d (.dK (mergeK [] kvs))) q (.dK [])) fun y H3 => tv σ H3 fun z H4 => ∃ kk kv3, y = kV kk ∧ H4 q = some (.dK []) ∧ H4 d = some (.dK kv3) ∧ q ≠ d ∧ kv3.length ≤ 100000 ∧ Q (.ref d) (upd (upd H4 q (.dK [(kk, z)])) d (.dK (putK kv3 kk z)))
section
variable {X : Cx} {a k e : Expr} {ta tk tv : TE} {pos : Pos}
theorem pe_dstar1k (ha : PE X a ta) (hk : PE X k tk) (hv : PE X e tv) : PE X (.Dict [none, some k] [a, e] pos) (tD1K ta tk tv) := by
  refine ⟨fun pins s σ H Q I q => ?_⟩
  rw [arm_eval_Dict]
  refine wpAny_bind (wpAny_standAt ?_)
  have hn := I.hok.fresh (Nat.le_refl s.heap.objs.size)
  have I1 := I.laid (a := s.heap.objs.size) (o := .dK []) (h' := s.heap.push { cls := .type "dict", data := .dict #[] }) (t' := s.toks) (fun _ _ q => Heap.get?_push_of_some _ q) (Nat.le_refl _) (dk_empty s.heap I.big)
  refine DL.wp_dd1k (v1 := do let x ← eval a X.env; standAt pos; pure x) (k2 := eval k X.env) (v2 := do let x ← eval e X.env; standAt pos; pure x) (wpAny_alloc ?_)
  refine wpAny_bind (thn (ha.run pins _ σ _ _ I1 (q _ hn)) fun u s2 ⟨x, H1, I2, rx, c, kvs, ex, hc, hne, hd, hz, q2⟩ => wpAny_bind (wpAny_standAt (wpAny_pure ?_)))
  subst ex
  obtain rfl : u = Value.ref c := rx
  refine merge_ok I2 hd hc hne (by simp; omega) fun s3 I3 => ?_
  have hn3 := I3.hok.fresh (Nat.le_refl s3.heap.objs.size)
  have I4 := I3.laid (a := s3.heap.objs.size) (o := .dK []) (h' := s3.heap.push { cls := .type "dict", data := .dict #[] }) (t' := s3.toks) (fun _ _ q => Heap.get?_push_of_some _ q) (Nat.le_refl _) (dk_empty s3.heap I3.big)
  refine wpAny_subDict (knd := mixKind X.prog X.w) (by show (1 : Nat) ≤ 15; decide) (evalPairs_cons ?_)
  refine thn (hk.run pins _ σ _ _ I4 (q2 _ hn3)) fun u s4 ⟨y, H3, I5, ry, q3⟩ => ?_
  refine wpAny_bind (thn (hv.run pins _ σ _ _ I5 q3) fun u2 s5 ⟨z, H4, I6, rz, kk, kv3, ey, hq, hd4, hqd, hz3, q4⟩ => wpAny_bind (wpAny_standAt (wpAny_pure (evalPairs_nil ?_))))
  subst ey
  obtain ⟨zz, hdd, vs0, r0, dd⟩ := dk_of I6.hok hq
  cases r0
  refine ⟨[(kk, u2)], ⟨kV_is ry, rfl, trivial⟩, dd, fun h' dd' hs => ?_⟩
  have he : ∃ q, h'.get? s3.heap.objs.size = some q := let ⟨q, _, _, hq, _⟩ := dd'; ⟨q, hq⟩
  have rk : KV [(kk, z)] [(kk, u2)] := .cons ⟨rfl, rz⟩ .nil
  have I7 : Inv X pins σ (upd H4 s3.heap.objs.size (.dK [(kk, z)])) { s5 with heap := h', toks := s5.toks + [(u, u2)].length } := by
    have := d_write (t' := s5.toks + [(u, u2)].length) I6 (by rw [hq]; exact True.intro) hs he (dk_new (by rw [sizeLine_eq]; show (1 : Nat) ≤ 16777216; decide) hdd (rk.merge .nil) dd')
    exact this
  refine merge_ok I7 (kvs := kv3) (more := [(kk, z)]) (by rw [upd_ne (Ne.symm hqd)]; exact hd4) (.inl upd_same) hqd (by simp; omega) fun s6 I8 => ?_
  exact ⟨.ref _, _, I8, rfl, q4⟩
end
end L2
namespace DL
open PySem PySem.Spec PyProof.Rows L2
section
variable {X : Cx} {W : WX} {R : Rx X.K} {a k e : Expr} {δ : DEnv} {I : Iv X.K} {P : D → Iv X.K → Prop} {pos : Pos} {k1 : List (Key × D)} {z0 : D} {kk : Str}
theorem ev_dstar1k (ha : ∀ J, PV X (I.and J) a δ (dicD k1)) (hk : ∀ J, PV X J k δ (.str kk)) (hv : ∀ J, PV X (I.and J) e δ z0) (h1 : k1.length ≤ 1000) (pp : P (dicD (putG (mergeG [] k1) (.inr kk) z0)) I) : EvX X W R (.Dict [none, some k] [a, e] pos) δ I P := by
  refine ev_freezeD (fun σ G H Q hE s hI qx q => PE.wp (pe_dstar1k peC peC peC) fun d hd => ?_)
  have hg : G d = none := s.free hd
  have na : ∀ x, ¬ (I.F x ∧ x = d) := fun x hx => hI.dom hx.1 (by rw [hx.2]; exact hd)
  have h0 : Hd (I.and (iDic X.K d [])) G (upd H d (.dK [])) := Hd.mk2 (hI.newp hd) ⟨⟨_, upd_same, [], rfl, rfl⟩, fun x hx => by rw [show x = d from hx]; exact hg⟩ na
  refine ha (iDic X.K d []) W R (fun z J => z = dicD k1 ∧ J = I.and (iDic X.K d [])) ⟨rfl, rfl⟩ σ G _ _ hE (same_upd s hg) h0 qx fun v z G1 H1 I1 s1 t1 g1 r1 ⟨ez, ei⟩ => ?_
  subst ez ei
  obtain ⟨c, od, kvs, ev, e1, kr⟩ := rep_dicD.mp r1
  obtain ⟨kv0, hp0, kr0, g0⟩ := Hd.dic (c := .r I .here) g1
  have ek : kv0 = [] := kr0
  subst ek
  have cd : c ≠ d := fun e => by
    have := t1 _ _ e1
    rw [e, hp0] at this; cases this
  refine ⟨c, kvs, ev, .inr ⟨od, t1 _ _ e1⟩, cd, hp0, by rw [kr.len]; omega, fun q2 hq2 => ?_⟩
  have km := KR.merge kr (show KR X.K G1 [] [] from rfl)
  have h3 := Hd.dicSet (c := .r I .here) g1 km
  have sm3 := same_upd (o := .dK (mergeK [] kvs)) t1 g0
  have gq : G1 q2 = none := sm3.free hq2
  have na2 : ∀ x, ¬ ((I.and (iDic X.K d (mergeG [] k1))).F x ∧ x = q2) := fun x hx => h3.dom hx.1 (by rw [hx.2]; exact hq2)
  have h4 : Hd ((I.and (iDic X.K d (mergeG [] k1))).and (iDic X.K q2 [])) G1 (upd (upd H1 d (.dK (mergeK [] kvs))) q2 (.dK [])) := Hd.mk2 (h3.newp hq2) ⟨⟨_, upd_same, [], rfl, rfl⟩, fun x hx => by rw [show x = q2 from hx]; exact gq⟩ na2
  refine hk ((I.and (iDic X.K d (mergeG [] k1))).and (iDic X.K q2 [])) W R (fun z J => z = .str kk ∧ J = (I.and (iDic X.K d (mergeG [] k1))).and (iDic X.K q2 [])) ⟨rfl, rfl⟩ σ G1 _ _ (hE.mono s1) (same_upd sm3 gq) h4 (qx.mono s1) fun y dy G2 H2 I2 s2 t2 g2 r2 ⟨ez2, ei2⟩ => ?_
  subst ez2 ei2
  have asc : Hd (I.and ((iDic X.K d (mergeG [] k1)).and (iDic X.K q2 []))) G2 H2 := ⟨⟨g2.ph.1.1, ⟨g2.ph.1.2.1, g2.ph.2.1, fun x hx => g2.ph.2.2 x ⟨.inr hx.1, hx.2⟩⟩, fun x hx => by
    rcases hx.2 with h | h
    · exact g2.ph.1.2.2 x ⟨hx.1, h⟩
    · exact g2.ph.2.2 x ⟨.inl hx.1, h⟩⟩, fun x hx => g2.fr x (by
    rcases hx with h | h | h
    · exact .inl (.inl h)
    · exact .inl (.inr h)
    · exact .inr h)⟩
  refine hv ((iDic X.K d (mergeG [] k1)).and (iDic X.K q2 [])) W R (fun z J => z = z0 ∧ J = I.and ((iDic X.K d (mergeG [] k1)).and (iDic X.K q2 []))) ⟨rfl, rfl⟩ σ G2 _ _ ((hE.mono s1).mono s2) t2 asc ((qx.mono s1).mono s2) fun z dz G3 H3 I3 s3 t3 g3 r3 ⟨ez3, ei3⟩ => ?_
  subst ez3 ei3
  have ey : y = .str kk := r2
  subst ey
  obtain ⟨kv3, hp3, kr3, g5⟩ := Hd.dic (c := .r I (.l .here (iDic X.K q2 []))) g3
  obtain ⟨kv4, hp4, kr4, g6⟩ := Hd.dic (c := .r I (.r (iDic X.K d (mergeG [] k1)) .here)) g3
  have ek4 : kv4 = [] := kr4
  subst ek4
  have hqd : q2 ≠ d := fun e => by
    subst e
    exact g3.right.apart q2 ⟨rfl, rfl⟩
  have ml : (mergeG ([] : List (Key × D)) k1).length ≤ 1000 := by
    have h5 := length_mergeK kvs []
    rw [← km.len]
    have h6 := kr.len
    simp at h5; omega
  refine ⟨.inr kk, kv3, rfl, hp4, hp3, hqd, by rw [kr3.len]; omega, ?_⟩
  have h5 := Hd.dicSet (c := .r I (.r (iDic X.K d (mergeG [] k1)) .here)) (kds' := [(.inr kk, dz)]) (kvs' := [(.inr kk, z)]) g3 ⟨z, [], rfl, r3, rfl⟩
  have h7 := Hd.dicSet (c := .r I (.l .here (iDic X.K q2 [(.inr kk, dz)]))) h5 (kr3.put (k := .inr kk) r3)
  have h8 : Hd (I.and (iDic X.K d (putG (mergeG [] k1) (.inr kk) dz))) G3 _ := ⟨⟨h7.ph.1, h7.ph.2.1.1, fun x hx => h7.ph.2.2 x ⟨hx.1, .inl hx.2⟩⟩, fun x hx => h7.fr x (by
    rcases hx with h | h
    · exact .inl h
    · exact .inr (.inl h))⟩
  exact q (.ref d) (.adr d) G3 _ (I.and (iDic X.K d (putG (mergeG [] k1) (.inr kk) dz))) ((s1.trans s2).trans s3) (same_upd (same_upd t3 g6) g5) h8 rfl ⟨d, _, I, rfl, rfl, pp⟩
end
end DL
set_option Elab.async false
set_option linter.all false
set_option maxRecDepth 100000
set_option maxHeartbeats 4000000
namespace DL
open PySem PySem.Spec PyProof.Rows L2
section
variable {X : Cx} {W : WX} {n : Nat} {C : Addr} {S : Spec X.K} {δ : DEnv} {I : Iv X.K} {o i value : Expr} {pos ps : Pos} {κ : Ko X.K}
theorem s_subSet (tk : Takes X W) (hq : PySem.W.noSeq X.K C = true) (hf : PySem.W.findIn X.K (.ref C) "__setitem__" = some (some (.ref (He.ma X.K C "__setitem__")))) (hi : PySem.W.isFn X.K (.ref (He.ma X.K C "__setitem__")) = true) (F : FnR X.prog X.w X.K X.mg X.base (L2.CX X.prog X.w) n (He.ma X.K C "__setitem__") (spD X.K S)) (hr : Room n X.A)
    (h : EvX X W (κ.r δ) value δ I fun d I1 => EvX X W (κ.r δ) o δ I1 fun x I2 => EvX X W (κ.r δ) i δ I2 fun y I3 => InsD C "" x I3 ∧ S I3 [x, y, d] (fun _ I4 => κ.nx δ I4) (κ.r δ))
    (hs : swapsWith value (some (.Subscript o i ps)) pos.line X.env = pure false := by rfl) : S1 X W (.Assign [.Subscript o i ps] value pos) δ I κ := fun σ G H E hE s hI kk => by
  have w0 := h σ G H (fun v H1 => wpE X o σ H1 fun x H2 => wpE X i σ H2 fun y H3 => ∃ c, x = .ref c ∧ IsI H3 c C "" ∧ spD X.K S [x, y, v] H3 (fun _ H4 => E.nx σ H4) (WE W σ)) hE s hI (kk.kx hE) fun v d G1 H1 I1 s1 t1 h1 r1 k1 => k1 σ G1 H1 _ (hE.mono s1) t1 h1 ((kk.kx hE).mono s1) fun x dx G2 H2 I2 s2 t2 h2 r2 k2 => k2 σ G2 H2 _ (hE.mono (s1.trans s2)) t2 h2 ((kk.kx hE).mono (s1.trans s2)) fun y dy G3 H3 I3 s3 t3 h3 r3 ⟨hx, k3⟩ => by
    obtain ⟨c, ec, hic⟩ := hx G3 H3 x t3 h3 (r2.mono s3)
    exact ⟨c, ec, hic, spD_at t3 h3 (.cons (r2.mono s3) (.cons r3 (.cons ((r1.mono s2).mono s3) .nil))) k3 (fun v4 d4 G4 H4 I4 s4 t4 h4 r4 p4 => kk.nx δ σ G4 H4 I4 (((s1.trans s2).trans s3).trans s4) t4 h4 (hE.mono (((s1.trans s2).trans s3).trans s4)) p4) ((kk.kx hE).mono ((s1.trans s2).trans s3))⟩
  refine ⟨fun pins st J => wpAny_Assign_Subscript (thn (peC.run pins st σ H _ J w0) fun u s1 ⟨v, H1, J1, rv, q1⟩ => thn (peC.run pins s1 σ H1 _ J1 q1) fun u2 s2 ⟨x, H2, J2, rx, q2⟩ => thn (peC.run pins s2 σ H2 _ J2 q2) fun u3 s3 ⟨y, H3, J3, ry, c, ec, hic, q3⟩ => ?_) hs⟩
  subst ec
  obtain rfl : u2 = Value.ref c := rx
  obtain ⟨ox, od, O, _⟩ := isi_inst J3 hic
  obtain ⟨mm, hF⟩ := J3.fr
  refine PySem.W.ksp_setItem hF J3.ok.mod.kin O hq hf hi (wpAny_mono (wpAny_call (run_own tk F hr J3.env0 J3 (us := [.ref c, u3, u]) (ws := [.ref c, y, v]) (.cons rfl (.cons ry (.cons rv .nil))) q3)) (fun r s4 z => ?_) fun _ _ z => z)
  obtain ⟨z', H4, J4, rz, qz⟩ := z
  exact ⟨σ, H4, J4, qz⟩
end
def rNeDic (K : PySem.W.Frag) (E : D → D → Bool → Prop) : R2 := fun x y H Q => ∃ (G : Hp) (ka kb : List (Key × D)) (r : Bool), Same G H ∧ Rep K G (dicD ka) x ∧ Rep K G (dicD kb) y ∧ (ka.length = kb.length → EHits E kb ka r) ∧ ∀ H', Ext H H' → Q (.bl (!(ka.length == kb.length && r))) H'
theorem op_neDic {X : Cx} {n : Nat} {E : D → D → Bool → Prop} (h : EqB X n E) (hr : Room (n + 1) X.A) : OpR X (compareOp .NotEq) (rNeDic X.K E) := by
  intro pins s σ H x y v u Q I rx ry ⟨G, ka, kb, r, sm, r1, r2, hits, q⟩
  obtain ⟨a, oa, kva, ea, ga, ra⟩ := rep_dicD.mp r1
  obtain ⟨b, ob, kvb, eb, gb, rb⟩ := rep_dicD.mp r2
  subst ea eb
  cases (show v = Value.ref a from rx)
  cases (show u = Value.ref b from ry)
  obtain ⟨z1, lo1, va, rela, dda⟩ := dk_rd I.hok (.inr ⟨oa, sm _ _ ga⟩)
  obtain ⟨z2, lo2, vb, relb, ddb⟩ := dk_rd I.hok (.inr ⟨ob, sm _ _ gb⟩)
  have oka : s.heap.get? a = some oa := (show ObjOk X.prog X.w H s.heap a (.frz oa (.dK kva)) from I.hok a _ (sm _ _ ga)).1
  have okb : s.heap.get? b = some ob := (show ObjOk X.prog X.w H s.heap b (.frz ob (.dK kvb)) from I.hok b _ (sm _ _ gb)).1
  have hla : va.length = ka.length := by rw [← rela.length, ra.length]
  have hlb : vb.length = kb.length := by rw [← relb.length, rb.length]
  refine neJ lo1 lo2 (fun s' => ∃ H', Inv X pins σ H' s' ∧ Ext H H') ⟨H, I, Ext.rfl'⟩ (fun s' ⟨H', J', ex⟩ => ?_) dda ddb hr.units0 (fun e => hits_of h (L2.Sub.in1 ⟨hr, rfl⟩) sm rb relb (hits (by omega)) ra rela) fun s' ⟨H', J', ex⟩ => ?_
  · rw [oka, okb]
    exact ⟨(show ObjOk X.prog X.w H' s'.heap a (.frz oa (.dK kva)) from J'.hok a _ (ex _ _ (sm _ _ ga))).1, (show ObjOk X.prog X.w H' s'.heap b (.frz ob (.dK kvb)) from J'.hok b _ (ex _ _ (sm _ _ gb))).1⟩
  · rw [hla, hlb]
    exact ⟨.bl _, H', J', rfl, q H' ex⟩
theorem p2_neDic {K : PySem.W.Frag} {I : Iv K} {E : D → D → Bool → Prop} {ka kb : List (Key × D)} {r : Bool} (h : ka.length = kb.length → EHits E kb ka r) : P2 K I (rNeDic K E) (dicD ka) (dicD kb) (.bl (!(ka.length == kb.length && r))) := fun P pp G H v w Q s hI r1 r2 q =>
  ⟨G, ka, kb, r, s, r1, r2, h, fun H' ex => q (.bl _) (.bl _) G H' I (Same.refl G) (fun p o hp => ex p o (s p o hp)) (hI.ext ex) rfl pp⟩
theorem eqb_no {X : Cx} {n : Nat} : EqB X n (fun _ _ _ => False) := ⟨fun A pins s σ G H x y u v dx dy b a1 a2 a3 a4 a5 a6 a7 e => e.elim, fun pins s σ G H x dx dy b a1 a2 a3 a4 e => e.elim⟩
section
variable {X : Cx} {W : WX} {R : Rx X.K} {δ : DEnv} {I : Iv X.K} {a : Expr} {pos p : Pos} {kds : List (Key × D)}
theorem pv_dnew0 : PV X I (.Dict [] [] p) δ (dicD []) := fun W R P pp => ev_freezeD (ev_dnew fun q _ => ⟨q, [], I, rfl, rfl, pp⟩)
theorem pt_neE (hr : Room 1 X.A) (ha : PV X I a δ (dicD kds)) (hm : behindInMarks .NotEq (.Dict [] [] p) = false := by first | exact nomark _ | rfl) : PVT X I (.Compare a [.NotEq] [.Dict [] [] p] pos) δ (!decide (kds = [])) := by
  refine PVT.is (DL.pt_cmp (op_neDic (n := 0) eqb_no hr) ha (pv_dnew0 (X := X) (I := I) (δ := δ) (p := p)) (p2_neDic (ka := kds) (kb := []) (r := true) fun e => by
    have : kds = [] := List.eq_nil_of_length_eq_zero e
    rw [this]
    exact .nil) hm) ?_
  cases kds <;> simp
end
end DL
set_option Elab.async false
set_option linter.all false
set_option maxRecDepth 100000
set_option maxHeartbeats 4000000
namespace DL
open PySem PySem.Spec PyProof.Rows L2
section
variable {X : Cx} {W : WX} {R : Rx X.K} {tg iter kx vx cnd : Expr} {scope : Scope} {δ : DEnv} {I : Iv X.K} {P : D → Iv X.K → Prop} {pos : Pos}
theorem pv_dcTI {α : Type} {xs : List α} {g : α → D} (fk : α → Key) (f : α → D) (t : α → Bool) (own : List (Str × Nat)) (δ' : α → DEnv) (hi : PVI X I tg iter δ (xs.map g)) (hz : xs.length ≤ 1000000)
    (hb : ∀ (x : α) (s : Shared) (H : Hp) (C : Addr) (cl : List (Str × Addr)) (fp : List Addr), BindD (X.blk s H scope (compEnvC scope cl C X.env) fp) tg (g x) (wipeD δ (own.map (·.2))) (δ' x) (own.map (·.2)))
    (ht : ∀ x, x ∈ xs → ∀ (J : Iv X.K) (s : Shared) (H : Hp) (C : Addr) (cl : List (Str × Addr)) (fp : List Addr), PVT (X.blk s H scope (compEnvC scope cl C X.env) fp) (I.and J) cnd (δ' x) (t x))
    (hk : ∀ x, x ∈ xs → ∀ (J : Iv X.K) (s : Shared) (H : Hp) (C : Addr) (cl : List (Str × Addr)) (fp : List Addr), PV (X.blk s H scope (compEnvC scope cl C X.env) fp) (I.and J) kx (δ' x) (keyV (fk x)))
    (he : ∀ x, x ∈ xs → ∀ (J : Iv X.K) (s : Shared) (H : Hp) (C : Addr) (cl : List (Str × Addr)) (fp : List Addr), PV (X.blk s H scope (compEnvC scope cl C X.env) fp) (I.and J) vx (δ' x) (f x))
    (nd : (xs.map fk).Nodup)
    (hN : X.N.Nodup := by assumption) (ok : blkC X.N X.env.scope scope own = true := by rfl)
    (hc : X.calm = true := by rfl) (hs : ∀ x, foldedSetIterable iter X.env x = pure x := by intro _; rfl) : PV X I (.DictComp kx vx [⟨tg, iter, [cnd], 0⟩] scope pos) δ (dicD ((xs.filter t).map fun x => (fk x, f x))) := fun W R P pp => by
  refine ev_freezeD fun σ G H Q hE s hI qx q => ?_
  refine PE.wp (pe_dc (wi := wpI X tg iter) (g := fun v σ H Q => ∀ s0 H0 C cl fp, wpG (X.blk s0 H0 scope (compEnvC scope cl C X.env) fp) tg v σ H Q) (tt := fun σ H Q => ∀ s0 H0 C cl fp, wpTs (X.blk s0 H0 scope (compEnvC scope cl C X.env) fp) [cnd] σ H Q)
    (tk := fun σ H Q => ∀ s0 H0 C cl fp, wpE (X.blk s0 H0 scope (compEnvC scope cl C X.env) fp) kx σ H Q) (tv := fun σ H Q => ∀ s0 H0 C cl fp, wpE (X.blk s0 H0 scope (compEnvC scope cl C X.env) fp) vx σ H Q) hc hN piC (blkOk_by ok)
    (fun s0 H0 C cl fp => ⟨fun pins s σ H v u Q J r k => (k s0 H0 C cl fp).run pins s u J r⟩) (fun s0 H0 C cl fp => ⟨fun pins s σ H Q J k => (k s0 H0 C cl fp).run pins s J⟩) (fun s0 H0 C cl fp => ⟨fun pins s σ H Q J k => (k s0 H0 C cl fp).run pins s J⟩) (fun s0 H0 C cl fp => ⟨fun pins s σ H Q J k => (k s0 H0 C cl fp).run pins s J⟩) hs) ?_
  refine hi W R (fun ds J => ds = xs.map g ∧ J = I) ⟨rfl, rfl⟩ σ G H _ hE s hI qx fun J ds G1 H1 I1 s1 t1 h1 wk ⟨ed, ei⟩ D hD => ?_
  subst ed ei
  have gD : G1 D = none := t1.free hD
  have apart : ∀ a, ¬ (I1.F a ∧ a = D) := fun a ha => h1.dom ha.1 (by rw [ha.2]; exact hD)
  refine ⟨fun i m H' => m = xs.length - i ∧ i ≤ xs.length ∧ ∃ G', Same G1 G' ∧ Same G' H' ∧ Hd (I1.and (iDic X.K D (((xs.take i).filter t).map fun x => (fk x, f x)))) G' H', ⟨_, rfl, Nat.zero_le _, G1, Same.refl _, same_upd t1 gD, ?_⟩, ?_⟩
  · exact Hd.mk2 (h1.newp hD) ⟨⟨_, upd_same, [], rfl, rfl⟩, fun a ha => by rw [show a = D from ha]; exact gD⟩ apart
  · rintro i m H' ⟨rfl, hi, G', s2, t2, hd2⟩
    by_cases hlt : i < xs.length
    · refine .inr ⟨wk.go i G' H' s2 t2 (by simpa using hlt), fun H3 => ∃ G3, Same G1 G3 ∧ Same G3 H3 ∧ Hd (I1.and (iDic X.K D (((xs.take (i + 1)).filter t).map fun x => (fk x, f x)))) G3 H3, fun H3 ⟨G3, q3, q4, q5⟩ => ⟨xs.length - (i + 1), by omega, rfl, hlt, G3, q3, q4, q5⟩, fun x H3 hyl => ?_⟩
      obtain ⟨G3, s3, t3, h3, _, d, hd, rd⟩ := wk.yld i G' H' _ x H3 s2 t2 hd2 (by simpa using hlt) hyl
      obtain ⟨x0, hx, rfl⟩ := get_map hd
      have hm : x0 ∈ xs := List.mem_of_getElem? hx
      intro s0 H0 C cl fp
      refine hb x0 s0 H0 C cl fp x _ G3 H3 _ (((hE.mono s1).mono (s2.trans s3)).wipe _) t3 rd fun σ4 e4 ew => ⟨by rw [ew, wipe_wipe], ?_⟩
      intro s0 H0 C cl fp
      refine (ets_one (X := X.blk s0 H0 scope (compEnvC scope cl C X.env) fp) (PB := fun b I2 => b = t x0 ∧ I2 = I1.and (iDic X.K D (((xs.take i).filter t).map fun x => (fk x, f x)))) (ht x0 hm _ s0 H0 C cl fp _ _ _ ⟨rfl, rfl⟩)) σ4 G3 H3 _ e4 t3 h3 kx0 fun b G4 H4 I4 s4 t4 h4 ⟨eb, eI⟩ => ?_
      subst eI
      have etk := take_filter t hx
      cases b with
      | false =>
        rw [if_neg Bool.false_ne_true]
        rw [if_neg (by rw [← eb]; exact Bool.false_ne_true), List.append_nil] at etk
        exact ⟨G4, ((s2.trans s3).trans s4), t4, by rw [etk]; exact h4⟩
      | true =>
      rw [if_pos rfl]
      rw [if_pos eb.symm] at etk
      intro s0 H0 C cl fp
      refine hk x0 hm (iDic X.K D _) s0 H0 C cl fp W0 R0 (fun z J => z = keyV (fk x0) ∧ J = I1.and (iDic X.K D (((xs.take i).filter t).map fun x => (fk x, f x)))) ⟨rfl, rfl⟩ σ4 G4 H4 _ (e4.mono s4) t4 h4 kx0 fun y dy G5 H5 I5 s5 t5 h5 r5 ⟨ey, eI⟩ => ?_
      subst ey eI
      intro s0 H0 C cl fp
      refine he x0 hm (iDic X.K D _) s0 H0 C cl fp W0 R0 (fun z J => z = f x0 ∧ J = I1.and (iDic X.K D (((xs.take i).filter t).map fun x => (fk x, f x)))) ⟨rfl, rfl⟩ σ4 G5 H5 _ ((e4.mono s4).mono s5) t5 h5 kx0 fun y2 dy2 G6 H6 I6 s6 t6 h6 r6 ⟨ey2, eI2⟩ => ?_
      subst ey2 eI2
      obtain ⟨o, ho, kvs, ev, kr⟩ := h6.right.ph
      subst ev
      have g6 : G6 D = none := h6.right.fr D rfl
      have hkey : y = kV (fk x0) := by
        have := rep_keyV (K := X.K) (G := G5) (fk x0)
        cases hh : fk x0 with
        | inl i => rw [hh] at r5; exact r5
        | inr t => rw [hh] at r5; exact r5
      have hnew : fk x0 ∉ ((((xs.take i).filter t).map fun x => (fk x, f x)).map (·.1)) := by
        rw [List.map_map]
        intro q
        have q : fk x0 ∈ (xs.take i).map fk := by
          obtain ⟨z, hz, e⟩ := List.mem_map.mp q
          exact List.mem_map.mpr ⟨z, (List.mem_filter.mp hz).1, e⟩
        have e2 : xs.map fk = (xs.take i).map fk ++ fk x0 :: (xs.drop (i + 1)).map fk := by
          have e : xs = xs.take i ++ x0 :: xs.drop (i + 1) := by
            have hl := (List.getElem?_eq_some_iff.mp hx).1
            rw [← (List.getElem?_eq_some_iff.mp hx).2, List.getElem_cons_drop hl, List.take_append_drop]
          conv => lhs; rw [e]
          rw [List.map_append, List.map_cons]
        rw [e2] at nd
        exact (List.nodup_append.mp nd).2.2 _ q _ (List.mem_cons_self ..) rfl
      refine ⟨kvs, fk x0, hkey, ho, ?_, G6, (((s2.trans s3).trans s4).trans s5).trans s6, same_upd t6 g6, ?_⟩
      · rw [kr.length, List.length_map, sizeLine_eq]
        have := List.length_filter_le t (xs.take i)
        rw [List.length_take] at this
        omega
      · have e7 : ((xs.take (i + 1)).filter t).map (fun x => (fk x, f x)) = putG (((xs.take i).filter t).map fun x => (fk x, f x)) (fk x0) (f x0) := by
          rw [putG_new hnew, etk, List.map_append]; rfl
        rw [e7]
        exact Hd.mk2 (h6.left.chg fun hf => apart D ⟨hf, rfl⟩) ⟨⟨_, upd_same, _, rfl, kr.put r6⟩, h6.right.fr⟩ apart
    · have ei : i = xs.length := by omega
      subst ei
      rw [List.take_length] at hd2
      refine .inl ⟨by have := wk.stop G' H' s2 t2; rwa [List.length_map] at this, q (.ref D) (.adr D) G' H' (I1.and (iDic X.K D ((xs.filter t).map fun x => (fk x, f x)))) (s1.trans s2) t2 hd2 rfl ⟨D, _, I1, rfl, rfl, pp⟩⟩
end
section
variable {X : Cx} {e : Expr} {es : List Expr} {δ : DEnv} {I : Iv X.K} {ds : List D} {p : Pos}
theorem va_starL (he : PV X I e δ (.lst ds)) {fs : List D} (h : PVA X I es δ fs) (hs : starEach (.Starred e p :: es) X.env = (true, eval e X.env) :: starEach es X.env := by rfl) : PVA X I (.Starred e p :: es) δ (ds ++ fs) := fun W R P pp σ G H Q hE s hI qx qq => PA.wp (StX.pa_star peC paC hs)
  (he W R (fun z J => z = .lst ds ∧ J = I) ⟨rfl, rfl⟩ σ G H _ hE s hI qx fun v d1 G1 H1 I1 s1 t1 h1 r1 ⟨ed, ei⟩ => by
    subst ed
    subst ei
    obtain ⟨c, vs, ev, e2, e3⟩ := r1
    refine ⟨c, vs, ev, .inr (SqL.of (t1 _ _ e2)), ?_⟩
    refine h W R (fun zs J => zs = fs ∧ J = I1) ⟨rfl, rfl⟩ σ G1 H1 _ (hE.mono s1) t1 h1 (qx.mono s1) fun ws d2 G2 H2 I2 s2 t2 h2 r2 ⟨ed2, ei2⟩ => ?_
    subst ed2 ei2
    exact qq _ _ G2 H2 _ (s1.trans s2) t2 h2 ((e3.mono s2).append r2) pp)
end
end DL
set_option Elab.async false
set_option linter.all false
set_option maxRecDepth 100000
set_option maxHeartbeats 1000000
namespace LK
open PySem PySem.Spec PyProof.Rows L2 DL
abbrev ORow := List (Option Wr)
abbrev OTb := List (Str × ORow)
def thO : Option Wr → Th
  | some w => .wr w
  | none => .ot .non
def frO (r : ORow) : List Th := r.map thO
def rowBad (r : ORow) : Option (Option Nat) := lookThs (frO r)
def nameBad (p : Str × ORow) : Option (Str × Option Nat) := if isNameS p.1 = true then (rowBad p.2).map fun o => (p.1, o) else some (p.1, none)
def badO (u : OTb) : Option (Str × Option Nat) := if 1 ≤ u.length ∧ u.length ≤ 6 then (sortW u).findSome? nameBad else some ("", none)
def oT (t : Tb) : OTb := t.map fun p => (p.1, p.2.map some)
def tbOf (u : OTb) : Tb := u.map fun p => (p.1, p.2.filterMap id)
theorem oT_names (t : Tb) : (oT t).map (·.1) = t.map (·.1) := by unfold oT; rw [List.map_map]; rfl
theorem tbOf_names (u : OTb) : (tbOf u).map (·.1) = u.map (·.1) := by unfold tbOf; rw [List.map_map]; rfl
theorem filterMap_some (ws : List Wr) : (ws.map some).filterMap id = ws := by
  induction ws with
  | nil => rfl
  | cons w ws ih => simp
theorem sortW_permE {α : Type} {t u : List (Str × α)} (nd : (t.map (·.1)).Nodup) (h : t.Perm u) : sortW t = sortW u := by
  have h1 := (sortW_perm t).trans (h.trans (sortW_perm u).symm)
  have e : (sortW t).map (·.1) = (sortW u).map (·.1) := by rw [sortW_names, sortW_names]; exact sortS_congr (h.map _)
  have ndt : ((sortW t).map (·.1)).Nodup := ((sortW_perm t).map (·.1)).nodup_iff.mpr nd
  have ndu : ((sortW u).map (·.1)).Nodup := e ▸ ndt
  apply List.ext_getElem?
  intro i
  cases ht : (sortW t)[i]? with
  | none =>
    have hl : (sortW t).length = (sortW u).length := h1.length_eq
    rw [List.getElem?_eq_none_iff] at ht
    rw [List.getElem?_eq_none (by omega)]
  | some p =>
    have hl : (sortW t).length = (sortW u).length := h1.length_eq
    have hi := (List.getElem?_eq_some_iff.mp ht).1
    have hiu : i < (sortW u).length := by omega
    rw [List.getElem?_eq_getElem hiu]
    have hn : ((sortW u)[i]).1 = p.1 := by
      have h2 : ((sortW t).map (·.1))[i]? = some p.1 := by rw [List.getElem?_map, ht]; rfl
      rw [e, List.getElem?_map, List.getElem?_eq_getElem hiu] at h2
      simpa using h2
    have hm : p ∈ sortW u := h1.mem_iff.mp (List.mem_of_getElem? ht)
    obtain ⟨j, hj, ej⟩ := List.getElem_of_mem hm
    have h3 : ((sortW u).map (·.1))[i]'(by rw [List.length_map]; exact hiu) = ((sortW u).map (·.1))[j]'(by rw [List.length_map]; exact hj) := by
      rw [List.getElem_map, List.getElem_map, hn, ej]
    have hij := (List.getElem_inj ndu).mp h3
    subst hij
    rw [ej]
theorem badO_perm {u v : OTb} (nd : (u.map (·.1)).Nodup) (h : u.Perm v) : badO u = badO v := by
  unfold badO
  rw [h.length_eq, sortW_permE nd h]
def wsO (u : OTb) (f : Str × ORow → Wv) : List (Str × Wv) := u.map fun p => (p.1, f p)
structure PassO (u : OTb) (f : Str × ORow → Wv) : Prop where
  h : ∀ p ∈ u, f p = .ls (frO p.2) ∨ f p = .tp (frO p.2)
theorem look_ls (r : ORow) {v : Wv} (h : v = .ls (frO r) ∨ v = .tp (frO r)) : lookFault v = rowBad r := by
  rcases h with rfl | rfl <;> rfl
theorem findSome_congr {α β : Type} {f g : α → Option β} {l : List α} (h : ∀ x ∈ l, f x = g x) : l.findSome? f = l.findSome? g := by
  induction l with
  | nil => rfl
  | cons a l ih => rw [List.findSome?_cons, List.findSome?_cons, h a (by simp), ih fun x hx => h x (by simp [hx])]
theorem fault_of {u : OTb} (nd : (u.map (·.1)).Nodup) {f : Str × ORow → Wv} (hf : PassO u f) : castFault (wsO u f) = badO u := by
  unfold castFault badO wsO
  rw [List.length_map, sortW_map' f nd, List.findSome?_map]
  split
  · refine findSome_congr fun p hp => ?_
    have hp := (sortW_perm u).mem_iff.mp hp
    show nameFault (p.1, f p) = nameBad p
    unfold nameFault nameBad
    rw [look_ls p.2 (hf.h p hp)]
  · rfl
theorem thO_ok {o : Option Wr} (h : ∀ w, o = some w → GoodR w) : (thO o).ok := by
  cases o with
  | none => exact ⟨_, rfl⟩
  | some w => exact (h w rfl).g.gk
theorem wks_of {u : OTb} (nd : (u.map (·.1)).Nodup) {f : Str × ORow → Wv} (hf : PassO u f) (hg : ∀ p ∈ u, ∀ w, some w ∈ p.2 → GoodR w) (hr : ∀ p ∈ u, p.2.length ≤ 1000) (hn : ∀ p ∈ u, p.1.length ≤ 100000) (hz : u.length ≤ 50) : WksOk (wsO u f) := by
  refine ⟨by unfold wsO; rw [map_fst]; exact nd, fun q hq => ?_, fun q hq => ?_, by unfold wsO; rw [List.length_map]; exact hz⟩
  · obtain ⟨p, hp, rfl⟩ := List.mem_map.mp hq
    have hall : (∀ x ∈ frO p.2, x.ok) ∧ (frO p.2).length ≤ 1000 := ⟨fun x hx => by
      obtain ⟨o, ho, rfl⟩ := List.mem_map.mp hx
      exact thO_ok fun w e => hg p hp w (e ▸ ho), by unfold frO; rw [List.length_map]; exact hr p hp⟩
    show (f p).ok
    rcases hf.h p hp with e | e <;> rw [e] <;> exact hall
  · obtain ⟨p, hp, rfl⟩ := List.mem_map.mp hq
    exact hn p hp
theorem kindBad_nil {ks : List Str} {i : Nat} : kindBad ks "" i = true := rfl
theorem row_good {r : ORow} (h : rowBad r = none) : r = (r.filterMap id).map some ∧ 1 ≤ r.length ∧ r.length ≤ 8 ∧ kindFault ((r.filterMap id).map (·.k)) = none := by
  unfold rowBad lookThs frO at h
  rw [List.length_map] at h
  split at h
  · rename_i hl
    rw [Option.map_eq_none_iff] at h
    have hno : ∀ o ∈ r, ∃ w, o = some w := fun o ho => by
      cases o with
      | some w => exact ⟨w, rfl⟩
      | none =>
        obtain ⟨i, hi, e⟩ := List.getElem_of_mem ho
        unfold kindFault at h
        rw [List.findSome?_eq_none_iff] at h
        have hm : (("" : Str), i) ∈ ((r.map thO).map Th.kind).zipIdx := by
          rw [List.mem_zipIdx_iff_getElem?, List.getElem?_map, List.getElem?_map, List.getElem?_eq_getElem hi, e]; rfl
        have := h _ hm
        rw [if_pos kindBad_nil] at this
        cases this
    have e1 : r = (r.filterMap id).map some := by
      clear h hl
      induction r with
      | nil => rfl
      | cons o r ih =>
        obtain ⟨w, rfl⟩ := hno o (by simp)
        rw [List.filterMap_cons]
        show some w :: r = some w :: _
        rw [← ih fun o ho => hno o (by simp [ho])]
    refine ⟨e1, hl.1, hl.2, ?_⟩
    rw [e1, List.map_map, List.map_map] at h
    exact h
  · cases h
theorem good_of {u : OTb} (nd : (u.map (·.1)).Nodup) (hg : ∀ p ∈ u, ∀ w, some w ∈ p.2 → GoodR w) (h : badO u = none) : oT (tbOf u) = u ∧ TbOk (tbOf u) := by
  unfold badO at h
  split at h
  · rename_i hl
    rw [List.findSome?_eq_none_iff] at h
    have hp : ∀ p ∈ u, isNameS p.1 = true ∧ rowBad p.2 = none := fun p hp => by
      have := h p ((sortW_perm u).mem_iff.mpr hp)
      unfold nameBad at this
      split at this
      · rename_i hn
        rw [Option.map_eq_none_iff] at this
        exact ⟨hn, this⟩
      · cases this
    refine ⟨?_, by rw [tbOf_names]; exact nd, fun q hq => ?_, fun q hq => ?_, by unfold tbOf; rw [List.length_map]; exact hl.1, by unfold tbOf; rw [List.length_map]; exact hl.2⟩
    · unfold oT tbOf
      rw [List.map_map]
      conv => rhs; rw [← List.map_id u]
      refine List.map_congr_left fun p hpu => ?_
      show (p.1, (p.2.filterMap id).map some) = p
      rw [← (row_good (hp p hpu).2).1]
    · obtain ⟨p, hpu, rfl⟩ := List.mem_map.mp hq
      exact (hp p hpu).1
    · obtain ⟨p, hpu, rfl⟩ := List.mem_map.mp hq
      obtain ⟨e1, e2, e3, e4⟩ := row_good (hp p hpu).2
      have el : (p.2.filterMap id).length = p.2.length := by
        have := congrArg List.length e1
        rw [List.length_map] at this
        exact this.symm
      refine ⟨fun w hw => hg p hpu w ?_, by show 1 ≤ (p.2.filterMap id).length; omega, by show (p.2.filterMap id).length ≤ 8; omega, e4⟩
      rw [e1]
      exact List.mem_map_of_mem hw
  · cases h
theorem ctb_of {K : PySem.W.Frag} {u : OTb} (nd : (u.map (·.1)).Nodup) {f : Str × ORow → Wv} (hf : PassO u f) (h : oT (tbOf u) = u) : ctbD K (wsO u f) = tbD K (sortW (tbOf u)) := by
  unfold ctbD wsO
  rw [sortW_map' f nd]
  have e2 : sortW (tbOf u) = (sortW u).map fun p => (p.1, p.2.filterMap id) := by unfold tbOf; exact sortW_map' (fun p => p.2.filterMap id) nd
  rw [e2]
  show dicD (List.map _ (List.map _ _)) = dicD (List.map _ (List.map _ _))
  rw [List.map_map, List.map_map]
  refine congrArg dicD (List.map_congr_left fun p hp => ?_)
  have hpu := (sortW_perm u).mem_iff.mp hp
  show ((Sum.inr p.1 : Key), D.tup (((f p).ths).map (Th.d K))) = (Sum.inr p.1, rowD K (p.2.filterMap id))
  have e3 : (f p).ths = frO p.2 := by rcases hf.h p hpu with e | e <;> rw [e] <;> rfl
  have e4 : p.2 = (p.2.filterMap id).map some := by
    rw [← h] at hpu
    unfold oT at hpu
    obtain ⟨q, _, e⟩ := List.mem_map.mp hpu
    have e5 : p.2 = q.2.map some := by rw [← e]
    rw [e5, filterMap_some]
  rw [e3]
  unfold frO rowD
  conv => lhs; rw [e4]
  rw [List.map_map, List.map_map]; rfl
inductive Ed where
  | set (n : Str) (k : Int) (o : Option Wr)
  | ins (n : Str) (k : Int) (ws : List Wr)
  | rem (n : Str) (k : Int) (m : Nat)
  | add (n : Str) (ws : List Wr)
  | drop (n : Str)
inductive Er where
  | clash (n : Str)
  | unk (n : Str)
  | num (k : Int)
  | inv (n : Str) (o : Option Nat)
def putR (u : OTb) (n : Str) (r : ORow) : OTb := if n ∈ u.map (·.1) then u.map fun p => if p.1 = n then (p.1, r) else p else u ++ [(n, r)]
def outK (len : Nat) (k : Int) (m : Nat) : Option Int := ((List.range m).map fun i : Nat => k + i).find? fun z => !(decide (0 ≤ z) && decide (z < len))
def editU (t : Tb) : Ed → Er ⊕ OTb
  | .set n k o => match rowOf t n with
    | none => .inl (.unk n)
    | some ws => if 0 ≤ k ∧ k < ws.length then .inr (putR (oT t) n ((ws.take k.toNat).map some ++ [o] ++ (ws.drop (k.toNat + 1)).map some)) else .inl (.num k)
  | .ins n k new => match rowOf t n with
    | none => .inl (.unk n)
    | some ws => if 0 ≤ k ∧ k ≤ ws.length then .inr (putR (oT t) n ((ws.take k.toNat).map some ++ new.map some ++ (ws.drop k.toNat).map some)) else .inl (.num k)
  | .rem n k m => match rowOf t n with
    | none => .inl (.unk n)
    | some ws => match outK ws.length k m with
      | some z => .inl (.num z)
      | none => .inr (putR (oT t) n ((ws.take k.toNat).map some ++ (ws.drop (k.toNat + m)).map some))
  | .add n ws => if (rowOf t n).isSome = true then .inl (.clash n) else .inr (putR (oT t) n (ws.map some))
  | .drop n => if (rowOf t n).isSome = true then .inr ((oT t).filter fun p => decide (p.1 ≠ n)) else .inl (.unk n)
def editR (t : Tb) (e : Ed) : Er ⊕ OTb := match editU t e with
  | .inl x => .inl x
  | .inr u => match badO u with
    | some no => .inl (.inv no.1 no.2)
    | none => .inr u
theorem put_names (u : OTb) (n : Str) (r : ORow) : (putR u n r).map (·.1) = if n ∈ u.map (·.1) then u.map (·.1) else u.map (·.1) ++ [n] := by
  unfold putR
  split
  · rw [List.map_map]
    refine List.map_congr_left fun p _ => ?_
    show (if p.1 = n then (p.1, r) else p).1 = p.1
    split <;> rfl
  · rw [List.map_append]; rfl
theorem put_nd {u : OTb} (nd : (u.map (·.1)).Nodup) (n : Str) (r : ORow) : ((putR u n r).map (·.1)).Nodup := by
  rw [put_names]
  split
  · exact nd
  · rename_i h
    rw [List.nodup_append]
    exact ⟨nd, by simp, fun a ha b hb e => by
      rw [List.mem_singleton.mp hb] at e
      exact h (e ▸ ha)⟩
theorem put_mem {u : OTb} {n : Str} {r : ORow} {p : Str × ORow} (h : p ∈ putR u n r) : p ∈ u ∨ p = (n, r) := by
  unfold putR at h
  split at h
  · obtain ⟨q, hq, e⟩ := List.mem_map.mp h
    split at e
    · rename_i hn
      exact .inr (by rw [← e, hn])
    · exact .inl (e ▸ hq)
  · rcases List.mem_append.mp h with h | h
    · exact .inl h
    · exact .inr (List.mem_singleton.mp h)
theorem put_at {u : OTb} {n : Str} {r : ORow} {p : Str × ORow} (h : p ∈ putR u n r) (e : p.1 = n) : p.2 = r := by
  unfold putR at h
  split at h
  · obtain ⟨q, hq, e2⟩ := List.mem_map.mp h
    split at e2
    · rw [← e2]
    · rename_i hn
      exact absurd (e2 ▸ e) hn
  · rename_i hn
    rcases List.mem_append.mp h with h | h
    · exact absurd (List.mem_map.mpr ⟨p, h, e⟩) hn
    · rw [List.mem_singleton.mp h]
theorem put_len (u : OTb) (n : Str) (r : ORow) : (putR u n r).length ≤ u.length + 1 := by
  unfold putR
  split
  · rw [List.length_map]; omega
  · rw [List.length_append]; simp
end LK
set_option Elab.async false
set_option linter.all false
set_option maxRecDepth 100000
set_option maxHeartbeats 4000000
namespace L2
open PySem PySem.Spec PyProof.Rows
def rEqNil (K : PySem.W.Frag) : R2 := fun x y H Q => ∃ a b xs, x = .ref a ∧ y = .ref b ∧ SqL K H a xs ∧ SqL K H b [] ∧ Q (.bl (decide (xs = []))) H
def rNeNil (K : PySem.W.Frag) : R2 := fun x y H Q => ∃ a b xs, x = .ref a ∧ y = .ref b ∧ SqL K H a xs ∧ SqL K H b [] ∧ Q (.bl (!decide (xs = []))) H
section
variable {X : Cx}
theorem op_eqNil (hu : X.A.units < cLine) : OpR X (compareOp .Eq) (rEqNil X.K) := by
  intro pins s σ H x y v u Q I rx ry ⟨a, b, xs, ex, ey, ha, hb, q⟩
  subst ex ey
  obtain rfl : v = Value.ref a := rx
  obtain rfl : u = Value.ref b := ry
  obtain ⟨its, rv, p1, _⟩ := I.list ha
  obtain ⟨its2, rv2, p2, _⟩ := I.list hb
  have e2 : its2 = [] := by cases rv2; rfl
  subst e2
  obtain ⟨⟨cls, dd, data, sl⟩, n, ho, hc, hdn, hd⟩ := p1
  obtain ⟨⟨cls2, dd2, data2, sl2⟩, n2, ho2, hc2, hdn2, hd2⟩ := p2
  simp only at hc hd hc2 hd2
  subst hc hd hc2 hd2
  have hl : s.heap.IsList a its.toArray := ⟨_, ho, rfl, n, rfl⟩
  have hb2 : s.heap.IsList b ([] : List Value).toArray := ⟨_, ho2, rfl, n2, rfl⟩
  show wpAny _ _ (richCompare .Eq (.ref a) (.ref b)) _ _ _
  cases xs with
  | nil =>
    have e1 : its = [] := by cases rv; rfl
    subst e1
    exact (SeqAt.RcAt.lists (e := fun _ => true) hl hb2 rfl hu fun j h1 h2 => by simp at h1) X.prog X.w _ _ ⟨.bl true, H, I, rfl, q⟩
  | cons x r =>
    have e1 : (its.toArray.size != ([] : List Value).toArray.size) = true := by
      cases rv; simp
    exact (SeqAt.RcAt.lists_lengths hl hb2 e1 hu) X.prog X.w _ _ ⟨.bl false, H, I, rfl, by simpa using q⟩
theorem op_neNil (hu : X.A.units < cLine) : OpR X (compareOp .NotEq) (rNeNil X.K) := by
  intro pins s σ H x y v u Q I rx ry ⟨a, b, xs, ex, ey, ha, hb, q⟩
  subst ex ey
  obtain rfl : v = Value.ref a := rx
  obtain rfl : u = Value.ref b := ry
  obtain ⟨its, rv, p1, _⟩ := I.list ha
  obtain ⟨its2, rv2, p2, _⟩ := I.list hb
  have e2 : its2 = [] := by cases rv2; rfl
  subst e2
  obtain ⟨⟨cls, dd, data, sl⟩, n, ho, hc, hdn, hd⟩ := p1
  obtain ⟨⟨cls2, dd2, data2, sl2⟩, n2, ho2, hc2, hdn2, hd2⟩ := p2
  simp only at hc hd hc2 hd2
  subst hc hd hc2 hd2
  have hl : s.heap.IsList a its.toArray := ⟨_, ho, rfl, n, rfl⟩
  have hb2 : s.heap.IsList b ([] : List Value).toArray := ⟨_, ho2, rfl, n2, rfl⟩
  show wpAny _ _ (richCompare .NotEq (.ref a) (.ref b)) _ _ _
  cases xs with
  | nil =>
    have e1 : its = [] := by cases rv; rfl
    subst e1
    exact (SeqAt.RcNeAt.lists (e := fun _ => true) hl hb2 rfl hu fun j h1 h2 => by simp at h1) X.prog X.w _ _ ⟨.bl false, H, I, rfl, q⟩
  | cons x r =>
    have e1 : (its.toArray.size != ([] : List Value).toArray.size) = true := by
      cases rv; simp
    exact (SeqAt.RcNeAt.lists_lengths hl hb2 e1 hu) X.prog X.w _ _ ⟨.bl true, H, I, rfl, by simpa using q⟩
end
end L2
namespace DL
open PySem PySem.Spec PyProof.Rows L2
section
variable {X : Cx} {a : Expr} {δ : DEnv} {I : Iv X.K} {x : D} {ds : List D} {pos p : Pos}
theorem reps_nil {K : PySem.W.Frag} {G : Hp} {ds : List D} {vs : List V} (h : Reps K G ds vs) : decide (vs = []) = decide (ds = []) := by
  cases ds with
  | nil => rw [show vs = [] from h]; rfl
  | cons d r =>
    obtain ⟨v, q, e, _⟩ := h
    rw [e]; rfl
theorem pt_eqNil (hu : X.A.units < cLine) (ha : PV X I a δ x) (li : LsI I x ds) (hm : behindInMarks .Eq (.List [] p) = false := by first | exact nomark _ | rfl) : PVT X I (.Compare a [.Eq] [.List [] p] pos) δ (decide (ds = [])) :=
  DL.pt_cmp (op_eqNil hu) ha (pv_lst va_nil) (fun P pp G H v w Q s hI r1 r2 q => by
    obtain ⟨c, vs, e1, e2, e3⟩ := li.h G H v s hI r1
    obtain ⟨b, us, f1, f2, f3⟩ := r2
    rw [show us = [] from f3] at f2
    refine ⟨c, b, vs, e1, f1, SqL.of e2, SqL.of (s _ _ f2), ?_⟩
    rw [reps_nil e3]
    exact q _ (.bl _) G H I (Same.refl G) s hI rfl pp) hm
theorem pt_neNil (hu : X.A.units < cLine) (ha : PV X I a δ x) (li : LsI I x ds) (hm : behindInMarks .NotEq (.List [] p) = false := by first | exact nomark _ | rfl) : PVT X I (.Compare a [.NotEq] [.List [] p] pos) δ (!decide (ds = [])) :=
  DL.pt_cmp (op_neNil hu) ha (pv_lst va_nil) (fun P pp G H v w Q s hI r1 r2 q => by
    obtain ⟨c, vs, e1, e2, e3⟩ := li.h G H v s hI r1
    obtain ⟨b, us, f1, f2, f3⟩ := r2
    rw [show us = [] from f3] at f2
    refine ⟨c, b, vs, e1, f1, SqL.of e2, SqL.of (s _ _ f2), ?_⟩
    rw [reps_nil e3]
    exact q _ (.bl _) G H I (Same.refl G) s hI rfl pp) hm
theorem pv_neNil (hu : X.A.units < cLine) (ha : PV X I a δ x) (li : LsI I x ds) (hm : behindInMarks .NotEq (.List [] p) = false := by first | exact nomark _ | rfl) : PV X I (.Compare a [.NotEq] [.List [] p] pos) δ (.bl (!decide (ds = []))) :=
  DL.pv_cmp (op_neNil hu) ha (pv_lst va_nil) (fun P pp G H v w Q s hI r1 r2 q => by
    obtain ⟨c, vs, e1, e2, e3⟩ := li.h G H v s hI r1
    obtain ⟨b, us, f1, f2, f3⟩ := r2
    rw [show us = [] from f3] at f2
    refine ⟨c, b, vs, e1, f1, SqL.of e2, SqL.of (s _ _ f2), ?_⟩
    rw [reps_nil e3]
    exact q _ (.bl _) G H I (Same.refl G) s hI rfl pp) hm
end
end DL
set_option Elab.async false
set_option linter.all false
set_option maxRecDepth 100000
set_option maxHeartbeats 1000000
namespace LK
open PySem PySem.Spec PyProof.Rows L2 DL
structure Scr (α : Type) where
  up : List (List α)
  cur : List α
  jo : List Bool
  co : Nat
section
variable {α : Type} {w : Nat} {e x : α} {s : Scr α} {b : Bool} {wd : Str} {xs : List α}
def Scr.rows (s : Scr α) : List (List α) := s.up ++ [s.cur]
def sNew (w : Nat) (e : α) : Scr α := ⟨[], List.replicate w e, [false], 0⟩
def sDown (w : Nat) (e : α) (b : Bool) (s : Scr α) : Scr α := ⟨s.up ++ [s.cur], List.replicate w e, s.jo ++ [b], 0⟩
def sErase (e : α) (s : Scr α) : Scr α := { s with cur := s.cur.take s.co ++ List.replicate (s.cur.length - s.co) e }
def sWord1 (wd : Str) (s : Scr α) : Scr α := if wd = "return" ∨ wd = "wipe" then { s with co := 0 } else s
def sWord2 (e : α) (wd : Str) (s : Scr α) : Scr α := if wd = "wipe" ∨ wd = "erase" then sErase e s else s
def sWord3 (w : Nat) (e : α) (wd : Str) (s : Scr α) : Scr α := if wd = "newline" ∨ (wd = "fresh" ∧ 0 < s.co) then sDown w e false s else s
def sWord (w : Nat) (e : α) (wd : Str) (s : Scr α) : Scr α := sWord3 w e wd (sWord2 e wd (sWord1 wd s))
def sWrap (w : Nat) (e : α) (s : Scr α) : Scr α := if s.co = w then sDown w e true s else s
def sPut1 (x : α) (s : Scr α) : Scr α := { s with cur := s.cur.set s.co x, co := s.co + 1 }
def sPut (w : Nat) (e : α) (s : Scr α) (x : α) : Scr α := sPut1 x (sWrap w e s)
def sType (w : Nat) (e : α) (s : Scr α) (xs : List α) : Scr α := xs.foldl (sPut w e) s
def lineAt (jo : List Bool) : Nat := jo.length - 1 - (jo.reverse.takeWhile id).length
def sAbove (w : Nat) (e : α) (s : Scr α) (xs : List α) : Scr α :=
  { s with up := s.up.take (lineAt s.jo) ++ (sType w e (sNew w e) xs).rows ++ s.up.drop (lineAt s.jo), jo := s.jo.take (lineAt s.jo) ++ (sType w e (sNew w e) xs).jo ++ s.jo.drop (lineAt s.jo) }
structure SOk (w : Nat) (s : Scr α) : Prop where
  w1 : 1 ≤ w
  w99 : w ≤ 99
  cl : s.cur.length = w
  ul : ∀ r ∈ s.up, r.length = w
  jl : s.jo.length = s.up.length + 1
  j0 : s.jo[0]? = some false
  cw : s.co ≤ w
theorem SOk.new (h1 : 1 ≤ w) (h2 : w ≤ 99) : SOk w (sNew w e) := ⟨h1, h2, by simp [sNew], (fun r hr => nomatch hr), rfl, rfl, Nat.zero_le _⟩
theorem SOk.down (h : SOk w s) : SOk w (sDown w e b s) := ⟨h.w1, h.w99, by simp [sDown], fun r hr => by
  rcases List.mem_append.mp hr with hr | hr
  · exact h.ul r hr
  · rw [List.mem_singleton.mp hr]; exact h.cl, by simp [sDown, h.jl], by
  show (s.jo ++ [b])[0]? = _
  rw [List.getElem?_append_left (by rw [h.jl]; omega)]; exact h.j0, Nat.zero_le _⟩
theorem SOk.erase (h : SOk w s) : SOk w (sErase e s) := ⟨h.w1, h.w99, by
  show (s.cur.take s.co ++ List.replicate (s.cur.length - s.co) e).length = w
  rw [List.length_append, List.length_take, List.length_replicate]
  have := h.cl
  have := h.cw
  omega, h.ul, h.jl, h.j0, h.cw⟩
theorem SOk.word1 (h : SOk w s) : SOk w (sWord1 wd s) := by
  unfold sWord1
  split
  · exact ⟨h.w1, h.w99, h.cl, h.ul, h.jl, h.j0, Nat.zero_le _⟩
  · exact h
theorem SOk.word2 (h : SOk w s) : SOk w (sWord2 e wd s) := by
  unfold sWord2
  split
  · exact h.erase
  · exact h
theorem SOk.word (h : SOk w s) : SOk w (sWord w e wd s) := by
  unfold sWord sWord3
  split
  · exact h.word1.word2.down
  · exact h.word1.word2
theorem SOk.wrap (h : SOk w s) : SOk w (sWrap w e s) ∧ (sWrap w e s).co < w := by
  unfold sWrap
  have := h.cw
  have := h.w1
  split
  · exact ⟨h.down, by show 0 < w; omega⟩
  · exact ⟨h, by omega⟩
theorem SOk.put1 (h : SOk w s) (hc : s.co < w) : SOk w (sPut1 x s) := ⟨h.w1, h.w99, by show (s.cur.set s.co x).length = w; rw [List.length_set]; exact h.cl, h.ul, h.jl, h.j0, hc⟩
theorem SOk.put (h : SOk w s) : SOk w (sPut w e s x) := h.wrap.1.put1 h.wrap.2
theorem SOk.type : ∀ {xs : List α} {s : Scr α}, SOk w s → SOk w (sType w e s xs)
  | [], _, h => h
  | x :: xs, s, h => SOk.type (xs := xs) (s := sPut w e s x) h.put
theorem lineAt_lt (h : SOk w s) : lineAt s.jo ≤ s.up.length := by unfold lineAt; have := h.jl; omega
theorem SOk.above (h : SOk w s) : SOk w (sAbove w e s xs) := by
  have ho : SOk w (sType w e (sNew w e) xs) := SOk.type (SOk.new h.w1 h.w99)
  have hl := lineAt_lt h
  refine ⟨h.w1, h.w99, h.cl, fun r hr => ?_, ?_, ?_, h.cw⟩
  · rcases List.mem_append.mp hr with hr | hr
    · rcases List.mem_append.mp hr with hr | hr
      · exact h.ul r (List.mem_of_mem_take hr)
      · rcases List.mem_append.mp hr with hr | hr
        · exact ho.ul r hr
        · rw [List.mem_singleton.mp hr]; exact ho.cl
    · exact h.ul r (List.mem_of_mem_drop hr)
  · show (s.jo.take _ ++ _ ++ s.jo.drop _).length = (s.up.take _ ++ _ ++ s.up.drop _).length + 1
    have h1 := ho.jl
    have h2 := h.jl
    unfold Scr.rows
    simp only [List.length_append, List.length_take, List.length_drop, List.length_cons, List.length_nil]
    omega
  · show (s.jo.take (lineAt s.jo) ++ _ ++ s.jo.drop _)[0]? = _
    rw [List.append_assoc]
    by_cases h0 : lineAt s.jo = 0
    · rw [h0, List.take_zero, List.nil_append, List.getElem?_append_left (by rw [ho.jl]; omega)]
      exact ho.j0
    · rw [List.getElem?_append_left (by rw [List.length_take, h.jl]; omega), List.getElem?_take_of_lt (by omega)]
      exact h.j0
end
section
variable {α : Type} (K : PySem.W.Frag) (bl bj : Addr) (qs : List Addr) (q : Addr) (g : α → D) (s : Scr α)
end
section
variable {α : Type} {K : PySem.W.Frag} {bl bj a q : Addr} {qs : List Addr} {g : α → D} {s : Scr α} {e : α} {c : Rc K} {I : Iv K}
end
end LK
set_option Elab.async false
set_option linter.all false
set_option maxRecDepth 100000
set_option maxHeartbeats 1000000
namespace LK
open PySem PySem.Spec PyProof.Rows L2 DL
section
variable {P : Program} {w : World} {K : PySem.W.Frag} {mg : Str → Option Value} {base : Heap}
end
end LK
set_option Elab.async false
set_option linter.all false
set_option maxRecDepth 100000
set_option maxHeartbeats 1000000
namespace LK
open PySem PySem.Spec PyProof.Rows L2 DL
theorem er_step {α : Type} {l : List α} {c k : Nat} {e : α} (h : c + k < l.length) : (l.take c ++ List.replicate k e ++ l.drop (c + k)).set (c + k) e = l.take c ++ List.replicate (k + 1) e ++ l.drop (c + (k + 1)) := by
  rw [List.drop_eq_getElem_cons h]
  have hl : (l.take c ++ List.replicate k e).length = c + k := by rw [List.length_append, List.length_take, List.length_replicate]; omega
  rw [List.set_append_right _ _ (by omega), hl, Nat.sub_self, List.replicate_succ']
  simp [Nat.add_assoc]
section
variable {P : Program} {w : World} {K : PySem.W.Frag} {mg : Str → Option Value} {base : Heap}
end
end LK
set_option Elab.async false
set_option linter.all false
set_option maxRecDepth 100000
set_option maxHeartbeats 1000000
namespace LK
open PySem PySem.Spec PyProof.Rows L2 DL
section
variable {P : Program} {w : World} {K : PySem.W.Frag} {mg : Str → Option Value} {base : Heap}
end
end LK
set_option Elab.async false
set_option linter.all false
set_option maxRecDepth 100000
set_option maxHeartbeats 1000000
namespace LK
open PySem PySem.Spec PyProof.Rows L2 DL
section
variable {α : Type} {K : PySem.W.Frag} {bl bj x dx q : Addr} {qs : List Addr} {g : α → D} {s : Scr α} {e : α} {c : Rc K} {I : Iv K} {w : Nat}
end
section
variable {X : Cx} {W : WX} {e : Expr} {δ : DEnv} {I : Iv X.K} {pos : Pos} {κ : Ko X.K} {x' : Str} {n m : Int}
end
section
variable {P : Program} {w : World} {K : PySem.W.Frag} {mg : Str → Option Value} {base : Heap}
end
end LK
set_option Elab.async false
set_option linter.all false
set_option maxRecDepth 100000
set_option maxHeartbeats 1000000
namespace LK
open PySem PySem.Spec PyProof.Rows L2 DL
abbrev cO (K : PySem.W.Frag) : Addr := He.ga K "Course"
abbrev nmT (t : Tb) : List Str := t.map (·.1)
abbrev coF (K : PySem.W.Frag) (t : Tb) (hs : List (Str × Nat)) (q : Addr) : List (Str × D) := [("troupe", cD K t), ("titles", .tub ((nmT t).map D.str)), ("holds", .tup (hs.map pairD)), ("many", .adr q)]
def cAt (cs : List Nat) (i : Nat) : Nat := (cs[i]?).getD 0
def readyS (t : Tb) (cs : List Nat) (b : Str) : List Str := (((nmT t).zipIdx.filter fun p => decide (cAt cs p.2 < ((rowOf t p.1).getD []).length)).map (·.1)).filter fun n => decide (b = "") || decide (b = n)
def afterC (t : Tb) (cs : List Nat) (n : Str) : List Nat := cs.set ((nmT t).idxOf n) (cAt cs ((nmT t).idxOf n) + 1)
def afterB (t : Tb) (hs : List (Str × Nat)) (cs : List Nat) (n : Str) : Str := if (n, cAt cs ((nmT t).idxOf n)) ∈ hs then n else ""
structure CoI {K : PySem.W.Frag} (I : Iv K) (x : Addr) (t : Tb) (hs : List (Str × Nat)) : Prop where
  ex : ∃ (c : Rc K) (dx q : Addr), I = c.fill (iIns K x (cO K) dx (coF K t hs q))
theorem TbOk.tot {t : Tb} (o : TbOk t) : total t ≤ 48 := by
  have h : ∀ {s : Tb}, (∀ p ∈ s, p ∈ t) → total s ≤ 8 * s.length := by
    intro s
    induction s with
    | nil => intro _; simp [total]
    | cons p s ih =>
      intro h
      have h1 := (o.row p (h p (by simp))).m
      have h2 := ih fun q hq => h q (by simp [hq])
      show p.2.length + total s ≤ 8 * (s.length + 1)
      omega
  have := h (s := t) fun p hp => hp
  have := o.m
  omega
section
variable {P : Program} {w : World} {K : PySem.W.Frag} {mg : Str → Option Value} {base : Heap}
end
end LK
set_option Elab.async false
set_option linter.all false
set_option maxRecDepth 100000
set_option maxHeartbeats 1000000
namespace LK
open PySem PySem.Spec PyProof.Rows L2 DL
def st0 (t : Tb) : List Nat × Str := (List.replicate t.length 0, "")
structure Whole (t : Tb) (ns : List Str) : Prop where
  sub : ∀ n ∈ ns, n ∈ nmT t
  cnt : ∀ p ∈ t, ns.count p.1 = p.2.length
def posOf (ns : List Str) (n : Str) : List Nat := (ns.zipIdx.filter fun p => decide (p.1 = n)).map (·.2)
def brk (ns : List Str) (q : Str × Nat) : Bool := decide ((posOf ns q.1).getD q.2 0 + 1 < (posOf ns q.1).getD (q.2 + 1) 0)
end LK
set_option Elab.async false
set_option linter.all false
set_option maxRecDepth 100000
set_option maxHeartbeats 1000000
namespace LK
open PySem PySem.Spec PyProof.Rows L2 DL
section
variable {X : Cx} {W : WX} {R : Rx X.K} {I : Iv X.K} {o a b e : Expr} {δ : DEnv} {P : D → Iv X.K → Prop} {pos apos p : Pos} {t : Tb} {hs : List (Str × Nat)} {x : Addr} {cs : List Nat} {n : Str}
theorem CoI.ins {m : Str} (h : CoI I x t hs) (hm : ∀ q : Addr, (coF X.K t hs q).lookup m = none := by intro _; rfl) : InsD (cO X.K) m (.adr x) I := by
  obtain ⟨c, dx, q, rfl⟩ := h.ex
  exact insD_ins c (hm q)
end
theorem ready_nm {t : Tb} {cs : List Nat} {b n : Str} (h : n ∈ readyS t cs b) : n ∈ nmT t := by
  unfold readyS at h
  obtain ⟨h, _⟩ := List.mem_filter.mp h
  obtain ⟨p, hp, rfl⟩ := List.mem_map.mp h
  exact List.mem_of_getElem? (mem_zipIdx (x := p.1) (i := p.2) (List.mem_filter.mp hp).1)
section
variable {P : Program} {w : World} {K : PySem.W.Frag} {mg : Str → Option Value} {base : Heap}
end
end LK
set_option Elab.async false
set_option linter.all false
set_option maxRecDepth 100000
set_option maxHeartbeats 1000000
namespace LK
open PySem PySem.Spec PyProof.Rows L2 DL
def cntS (t : Tb) (hs : List (Str × Nat)) : Nat → List Nat → Str → Nat
  | 0, cs, _ => if cs.sum = total t then 1 else 0
  | n + 1, cs, b => if cs.sum = total t then 1 else ((readyS t cs b).map fun m => cntS t hs n (afterC t cs m) (afterB t hs cs m)).sum
def cnt (t : Tb) (hs : List (Str × Nat)) (cs : List Nat) (b : Str) : Nat := cntS t hs (total t - cs.sum) cs b
structure VS (t : Tb) (cs : List Nat) (b : Str) : Prop where
  len : cs.length = t.length
  le : ∀ i p, t[i]? = some p → cAt cs i ≤ p.2.length
  bd : b = "" ∨ b ∈ nmT t
def keyOf (cs : List Nat) (b : Str) : NestedKey := .tup [.tup (cs.map fun n : Nat => .num n), .text b]
theorem keyOf_inj {cs ds : List Nat} {b e : Str} (h : keyOf cs b = keyOf ds e) : cs = ds ∧ b = e := by
  unfold keyOf at h
  injection h with h
  injection h with h1 h2
  injection h1 with h1
  injection h2 with h2
  injection h2 with h2
  refine ⟨?_, h2⟩
  clear h2
  induction cs generalizing ds with
  | nil => cases ds with
    | nil => rfl
    | cons _ _ => cases h1
  | cons c cs ih => cases ds with
    | nil => cases h1
    | cons d ds =>
      injection h1 with h3 h4
      injection h3 with h3
      rw [ih h4]
      congr 1; omega
structure MemoOk (t : Tb) (hs : List (Str × Nat)) (kds : List (NestedKey × D)) : Prop where
  nd : (kds.map (·.1)).Nodup
  at_ : ∀ p ∈ kds, ∃ cs b, VS t cs b ∧ p = (keyOf cs b, .int (cnt t hs cs b))
def Grow (kds kds' : List (NestedKey × D)) (m : Nat) : Prop := ∀ p ∈ kds', p ∈ kds ∨ ∃ cs b, p.1 = keyOf cs b ∧ m ≤ cs.sum
theorem sum_le_rows : ∀ (cs rs : List Nat), cs.length = rs.length → (∀ (i : Nat) (c r : Nat), cs[i]? = some c → rs[i]? = some r → c ≤ r) → cs.sum ≤ rs.sum
  | [], [], _, _ => Nat.le_refl _
  | c :: cs, r :: rs, hl, h => by
    rw [List.sum_cons, List.sum_cons]
    have h1 := h 0 c r rfl rfl
    have h2 := sum_le_rows cs rs (by simpa using hl) fun i c r hc hr => h (i + 1) c r (by simpa using hc) (by simpa using hr)
    omega
  | [], _ :: _, hl, _ => by simp at hl
  | _ :: _, [], hl, _ => by simp at hl
theorem sum_set1 : ∀ (cs : List Nat) (i : Nat), i < cs.length → (cs.set i (cAt cs i + 1)).sum = cs.sum + 1
  | c :: cs, 0, _ => by
    show (c + 1) + cs.sum = c + cs.sum + 1
    omega
  | c :: cs, i + 1, h => by
    have ih := sum_set1 cs i (by simpa using h)
    have e : cAt (c :: cs) (i + 1) = cAt cs i := by unfold cAt; simp
    rw [e]
    show c + (cs.set i (cAt cs i + 1)).sum = c + cs.sum + 1
    omega
theorem VS.sum {t : Tb} {cs : List Nat} {b : Str} (v : VS t cs b) : cs.sum ≤ total t := by
  unfold total
  refine sum_le_rows cs _ (by rw [List.length_map]; exact v.len) fun i c r hc hr => ?_
  rw [List.getElem?_map] at hr
  cases e : t[i]? with
  | none => rw [e] at hr; cases hr
  | some p =>
    rw [e] at hr
    have := v.le i p e
    unfold cAt at this
    rw [hc] at this
    cases hr
    exact this
theorem VS.start (t : Tb) : VS t (st0 t).1 (st0 t).2 := by
  refine ⟨by unfold st0; simp, fun i p hp => ?_, .inl rfl⟩
  unfold st0 cAt
  show ((List.replicate t.length 0)[i]?).getD 0 ≤ _
  rw [List.getElem?_replicate]
  split <;> simp
theorem ready_at {t : Tb} (o : TbOk t) {cs : List Nat} {b m : Str} (hm : m ∈ readyS t cs b) : ∃ i p, t[i]? = some p ∧ p.1 = m ∧ (nmT t).idxOf m = i ∧ cAt cs i < p.2.length := by
  unfold readyS at hm
  obtain ⟨h, _⟩ := List.mem_filter.mp hm
  obtain ⟨⟨n, i⟩, hp, rfl⟩ := List.mem_map.mp h
  obtain ⟨hz, hc⟩ := List.mem_filter.mp hp
  have hg := mem_zipIdx hz
  have hg2 := hg
  rw [List.getElem?_map] at hg
  cases e : t[i]? with
  | none => rw [e] at hg; cases hg
  | some p =>
    rw [e] at hg
    have en : p.1 = n := Option.some.inj hg
    refine ⟨i, p, e, en, ?_, ?_⟩
    · have hl := (List.getElem?_eq_some_iff.mp hg2).1
      have hv := (List.getElem?_eq_some_iff.mp hg2).2
      have nd : (nmT t).Nodup := o.nd
      have hi := List.idxOf_lt_length_of_mem (List.mem_of_getElem? hg2)
      have e2 : (nmT t)[(nmT t).idxOf n] = n := List.getElem_idxOf hi
      exact (List.getElem_inj nd).mp (e2.trans hv.symm)
    · have hw : rowOf t n = some p.2 := by rw [← en]; exact rowOf_some o.nd (List.mem_of_getElem? e)
      have hc : decide (cAt cs i < ((rowOf t n).getD []).length) = true := hc
      rw [hw] at hc
      exact of_decide_eq_true hc
theorem VS.after {t : Tb} (o : TbOk t) {hs : List (Str × Nat)} {cs : List Nat} {b m : Str} (v : VS t cs b) (hm : m ∈ readyS t cs b) : VS t (afterC t cs m) (afterB t hs cs m) ∧ (afterC t cs m).sum = cs.sum + 1 := by
  obtain ⟨i, p, hp, e1, e2, hlt⟩ := ready_at o hm
  have hi : i < cs.length := by rw [v.len]; exact (List.getElem?_eq_some_iff.mp hp).1
  unfold afterC
  rw [e2]
  refine ⟨⟨by rw [List.length_set]; exact v.len, fun j r hr => ?_, ?_⟩, sum_set1 cs i hi⟩
  · unfold cAt
    rw [List.getElem?_set]
    by_cases hj : i = j
    · subst hj
      rw [if_pos rfl, if_pos hi]
      rw [hp] at hr
      cases hr
      exact hlt
    · rw [if_neg hj]
      exact v.le j r hr
  · unfold afterB
    split
    · exact .inr (ready_nm hm)
    · exact .inl rfl
theorem nodup_len {α : Type} : ∀ {l m : List α}, l.Nodup → (∀ x ∈ l, x ∈ m) → l.length ≤ m.length
  | [], _, _, _ => Nat.zero_le _
  | x :: l, m, nd, h => by
    classical
    obtain ⟨h1, h2⟩ := List.nodup_cons.mp nd
    have hx := h x (by simp)
    have h3 := nodup_len (l := l) (m := m.erase x) h2 fun y hy => (List.mem_erase_of_ne (fun e => h1 (by rw [← e]; exact hy))).mpr (h y (by simp [hy]))
    have h4 := List.length_erase_of_mem hx
    have h5 := List.length_pos_of_mem hx
    rw [List.length_cons]; omega
def allCs : List Nat → List (List Nat)
  | [] => [[]]
  | r :: rs => (List.range (r + 1)).flatMap fun k => (allCs rs).map (k :: ·)
theorem allCs_mem : ∀ (cs rs : List Nat), cs.length = rs.length → (∀ (i : Nat) (c r : Nat), cs[i]? = some c → rs[i]? = some r → c ≤ r) → cs ∈ allCs rs
  | [], [], _, _ => by simp [allCs]
  | c :: cs, r :: rs, hl, h => by
    have h1 := h 0 c r rfl rfl
    have h2 := allCs_mem cs rs (by simpa using hl) fun i c r hc hr => h (i + 1) c r (by simpa using hc) (by simpa using hr)
    exact List.mem_flatMap.mpr ⟨c, List.mem_range.mpr (by omega), List.mem_map.mpr ⟨cs, h2, rfl⟩⟩
  | [], _ :: _, hl, _ => by simp at hl
  | _ :: _, [], hl, _ => by simp at hl
theorem sum_const {α : Type} (n : Nat) : ∀ l : List α, (l.map fun _ => n).sum = l.length * n
  | [] => by simp
  | _ :: l => by rw [List.map_cons, List.sum_cons, sum_const n l, List.length_cons, Nat.succ_mul]; omega
theorem allCs_len : ∀ (rs : List Nat), (∀ r ∈ rs, r ≤ 3) → (allCs rs).length ≤ 4 ^ rs.length
  | [], _ => Nat.le_refl _
  | r :: rs, h => by
    have h1 := h r (by simp)
    have h2 := allCs_len rs fun r hr => h r (by simp [hr])
    show ((List.range (r + 1)).flatMap fun k => (allCs rs).map (k :: ·)).length ≤ 4 ^ (rs.length + 1)
    have e : ((List.range (r + 1)).flatMap fun k => (allCs rs).map (k :: ·)).length = (r + 1) * (allCs rs).length := by
      rw [List.length_flatMap]
      simp only [List.length_map]
      rw [sum_const, List.length_range]
    rw [e, Nat.pow_succ, Nat.mul_comm (4 ^ rs.length)]
    exact Nat.mul_le_mul (by omega) h2
structure Small (t : Tb) : Prop where
  s : ∀ p ∈ t, p.2.length ≤ 3
theorem MemoOk.len {t : Tb} (o : TbOk t) (sm : Small t) {hs : List (Str × Nat)} {kds : List (NestedKey × D)} (h : MemoOk t hs kds) : kds.length < 100000 := by
  have h1 : kds.length ≤ ((allCs (t.map fun p => p.2.length)).flatMap fun cs => ((("" : Str)) :: nmT t).map (keyOf cs)).length := by
    have := nodup_len (l := kds.map (·.1)) (m := (allCs (t.map fun p => p.2.length)).flatMap fun cs => ((("" : Str)) :: nmT t).map (keyOf cs)) h.nd fun k hk => by
      obtain ⟨p, hp, rfl⟩ := List.mem_map.mp hk
      obtain ⟨cs, b, v, e⟩ := h.at_ p hp
      rw [e]
      refine List.mem_flatMap.mpr ⟨cs, allCs_mem cs _ (by rw [List.length_map]; exact v.len) fun i c r hc hr => ?_, List.mem_map.mpr ⟨b, ?_, rfl⟩⟩
      · rw [List.getElem?_map] at hr
        cases e2 : t[i]? with
        | none => rw [e2] at hr; cases hr
        | some p =>
          rw [e2] at hr
          have := v.le i p e2
          unfold cAt at this
          rw [hc] at this
          cases hr
          exact this
      · rcases v.bd with hb | hb
        · rw [hb]; simp
        · exact List.mem_cons_of_mem _ hb
    rwa [List.length_map] at this
  have h2 : ((allCs (t.map fun p => p.2.length)).flatMap fun cs => ((("" : Str)) :: nmT t).map (keyOf cs)).length = (allCs (t.map fun p => p.2.length)).length * (t.length + 1) := by
    rw [List.length_flatMap]
    simp only [List.length_map, List.length_cons]
    rw [sum_const]
  have h3 := allCs_len (t.map fun p => p.2.length) fun r hr => by
    obtain ⟨p, hp, rfl⟩ := List.mem_map.mp hr
    exact sm.s p hp
  rw [List.length_map] at h3
  have h4 : 4 ^ t.length ≤ 4 ^ 6 := Nat.pow_le_pow_right (by decide) o.m
  have h5 := o.m
  have h6 : (allCs (t.map fun p => p.2.length)).length * (t.length + 1) ≤ 4096 * 7 := Nat.mul_le_mul (Nat.le_trans h3 (Nat.le_trans h4 (by decide))) (by omega)
  rw [h2] at h1
  omega
end LK
set_option Elab.async false
set_option linter.all false
set_option maxRecDepth 100000
set_option maxHeartbeats 1000000
namespace LK
open PySem PySem.Spec PyProof.Rows L2 DL
section
variable {P : Program} {w : World} {K : PySem.W.Frag} {c : Rc K} {x dx q : Addr} {t : Tb} {hs : List (Str × Nat)} {kds : List (NestedKey × D)}
end
theorem getN_mem {kds : List (NestedKey × D)} {k : NestedKey} {d : D} (h : getN kds k = some d) : (k, d) ∈ kds := by
  unfold getN at h
  cases e : kds.find? fun p => decide (p.1 = k) with
  | none => rw [e] at h; cases h
  | some p =>
    rw [e] at h
    have h1 := List.mem_of_find?_eq_some e
    have h2 : p.1 = k := by simpa using List.find?_some e
    cases h
    rw [← h2]; exact h1
theorem getN_none {kds : List (NestedKey × D)} {k : NestedKey} (h : ∀ p ∈ kds, p.1 ≠ k) : getN kds k = none := by
  unfold getN
  rw [Option.map_eq_none_iff, List.find?_eq_none]
  intro p hp
  simpa using h p hp
theorem getN_not {kds : List (NestedKey × D)} {k : NestedKey} (h : getN kds k = none) : ∀ p ∈ kds, p.1 ≠ k := by
  unfold getN at h
  rw [Option.map_eq_none_iff, List.find?_eq_none] at h
  intro p hp e
  exact h p hp (by simpa using e)
theorem Grow.refl (kds : List (NestedKey × D)) (m : Nat) : Grow kds kds m := fun _ h => .inl h
theorem Grow.trans {a b c : List (NestedKey × D)} {m n : Nat} (h1 : Grow a b m) (h2 : Grow b c n) (hn : m ≤ n) : Grow a c m := fun p hp => by
  rcases h2 p hp with h | ⟨cs, b, e, hl⟩
  · exact h1 p h
  · exact .inr ⟨cs, b, e, by omega⟩
theorem Grow.weak {a b : List (NestedKey × D)} {m n : Nat} (h : Grow a b n) (hn : m ≤ n) : Grow a b m := fun p hp => (h p hp).imp id fun ⟨cs, b, e, hl⟩ => ⟨cs, b, e, by omega⟩
theorem MemoOk.val {t : Tb} {hs : List (Str × Nat)} {kds : List (NestedKey × D)} (h : MemoOk t hs kds) {cs : List Nat} {b : Str} {d : D} (hd : getN kds (keyOf cs b) = some d) : d = .int (cnt t hs cs b) := by
  obtain ⟨cs', b', _, e⟩ := h.at_ _ (getN_mem hd)
  obtain ⟨e1, e2⟩ := keyOf_inj (Prod.mk.inj e).1
  rw [(Prod.mk.inj e).2, e1, e2]
theorem MemoOk.add {t : Tb} {hs : List (Str × Nat)} {kds : List (NestedKey × D)} (h : MemoOk t hs kds) {cs : List Nat} {b : Str} (v : VS t cs b) (hn : getN kds (keyOf cs b) = none) : MemoOk t hs (kds ++ [(keyOf cs b, .int (cnt t hs cs b))]) := by
  refine ⟨?_, fun p hp => ?_⟩
  · rw [List.map_append, List.nodup_append]
    refine ⟨h.nd, by simp, ?_⟩
    intro k hk k' hk' e
    obtain ⟨p, hp, rfl⟩ := List.mem_map.mp hk
    simp only [List.map_cons, List.map_nil, List.mem_singleton] at hk'
    exact getN_not hn p hp (e.trans hk')
  · rcases List.mem_append.mp hp with hp | hp
    · exact h.at_ p hp
    · exact ⟨cs, b, v, List.mem_singleton.mp hp⟩
section
variable {P : Program} {w : World} {K : PySem.W.Frag} {mg : Str → Option Value} {base : Heap}
end
end LK
set_option Elab.async false
set_option linter.all false
set_option maxRecDepth 100000
set_option maxHeartbeats 1000000
namespace LK
open PySem PySem.Spec PyProof.Rows L2 DL
def sIsInt {K : PySem.W.Frag} : Spec K := fun I ds P _ => ∃ n : Int, ds = [.int n] ∧ P (.bl true) I
section
variable {P : Program} {w : World} {K : PySem.W.Frag} {mg : Str → Option Value} {base : Heap}
theorem D_is_integer (E : Env P w K mg base) : Def P w K mg base "is_integer" 1 ["value"] [] sIsInt := mk_f_is_integer E fun fd F => by
  refine fn_d F sc_f_is_integer (fun I ds P R h => by obtain ⟨n, rfl, _⟩ := h; rfl) fun cdv A outer s H EE hr tk po I ds Q R h => ?_
  obtain ⟨n, rfl, q⟩ := h
  exact s_one (s_retP (pv_andT (pv_cb call_isi E.b_isinstance (va_cons (pv_v 0) (va_cons (pv_gty (n := "int") E.b_int) va_nil)) (pn_isiT (t := "int") rfl)) (pv_one (pv_not (k := false) (pv_cb call_isi E.b_isinstance (va_cons (pv_v 0) (va_cons (pv_gty (n := "bool") E.b_bool) va_nil)) (pn_isiF (t := "int") rfl (by decide +kernel)))))) q)
end
end LK
set_option Elab.async false
set_option linter.all false
set_option maxRecDepth 100000
set_option maxHeartbeats 1000000
namespace LK
open PySem PySem.Spec PyProof.Rows L2 DL
theorem Small.tot {t : Tb} (o : TbOk t) (sm : Small t) : total t ≤ 18 := by
  have h : ∀ {s : Tb}, (∀ p ∈ s, p ∈ t) → total s ≤ 3 * s.length := by
    intro s
    induction s with
    | nil => intro _; simp [total]
    | cons p s ih =>
      intro h
      have h1 := sm.s p (h p (by simp))
      have h2 := ih fun q hq => h q (by simp [hq])
      show p.2.length + total s ≤ 3 * (s.length + 1)
      omega
  have := h (s := t) fun p hp => hp
  have := o.m
  omega
theorem MemoOk.nil {t : Tb} {hs : List (Str × Nat)} : MemoOk t hs [] := ⟨List.nodup_nil, fun p hp => nomatch hp⟩
section
variable {X : Cx} {W : WX} {R : Rx X.K} {I : Iv X.K} {o a b : Expr} {δ : DEnv} {PP : D → Iv X.K → Prop} {pos apos : Pos} {c : Rc X.K} {x dx q : Addr} {t : Tb} {hs : List (Str × Nat)} {kds : List (NestedKey × D)} {cs : List Nat} {n : Str}
end
section
variable {P : Program} {w : World} {K : PySem.W.Frag} {mg : Str → Option Value} {base : Heap}
end
end LK
set_option Elab.async false
set_option linter.all false
set_option maxRecDepth 100000
set_option maxHeartbeats 1000000
namespace LK
open PySem PySem.Spec PyProof.Rows L2 DL
def allO (t : Tb) (hs : List (Str × Nat)) : Nat → List Nat → Str → List (List Str)
  | 0, cs, _ => if cs.sum = total t then [[]] else []
  | n + 1, cs, b => if cs.sum = total t then [[]] else (readyS t cs b).flatMap fun m => (allO t hs n (afterC t cs m) (afterB t hs cs m)).map (m :: ·)
def allF (t : Tb) (hs : List (Str × Nat)) (s : List Nat × Str) : List (List Str) := allO t hs (total t - s.1.sum) s.1 s.2
def stO (t : Tb) (hs : List (Str × Nat)) (ns : List Str) : List Nat × Str := ns.foldl (fun s n => (afterC t s.1 n, afterB t hs s.1 n)) (st0 t)
theorem stO_snoc {t : Tb} {hs : List (Str × Nat)} (ns : List Str) (m : Str) : stO t hs (ns ++ [m]) = (afterC t (stO t hs ns).1 m, afterB t hs (stO t hs ns).1 m) := by
  unfold stO; rw [List.foldl_append]; rfl
def prefO (t : Tb) (hs : List (Str × Nat)) : Nat → List (List Str)
  | 0 => [[]]
  | k + 1 => (prefO t hs k).flatMap fun ns => (readyS t (stO t hs ns).1 (stO t hs ns).2).map fun m => ns ++ [m]
theorem st0_sum (t : Tb) : (st0 t).1.sum = 0 := by
  unfold st0
  show (List.replicate t.length 0).sum = 0
  simp
theorem prefO_ok {t : Tb} (o : TbOk t) {hs : List (Str × Nat)} : ∀ (k : Nat) (ns : List Str), ns ∈ prefO t hs k → VS t (stO t hs ns).1 (stO t hs ns).2 ∧ (stO t hs ns).1.sum = k ∧ ns.length = k
  | 0, ns, h => by
    have e : ns = [] := by simpa [prefO] using h
    subst e
    exact ⟨VS.start t, st0_sum t, rfl⟩
  | k + 1, ns, h => by
    obtain ⟨p, hp, hn⟩ := List.mem_flatMap.mp h
    obtain ⟨m, hm, rfl⟩ := List.mem_map.mp hn
    obtain ⟨v, hsum, hl⟩ := prefO_ok o k p hp
    rw [stO_snoc]
    obtain ⟨v2, s2⟩ := v.after o (hs := hs) hm
    exact ⟨v2, by rw [s2, hsum], by simp [hl]⟩
end LK
set_option Elab.async false
set_option linter.all false
set_option maxRecDepth 100000
set_option maxHeartbeats 400000
namespace LK
open PySem PySem.Spec PyProof.Rows L2 DL
def ahead (t : Tb) (hs : List (Str × Nat)) (s : List Nat × Str) (pre : List Str) : Nat := (pre.map fun m => cnt t hs (afterC t s.1 m) (afterB t hs s.1 m)).sum
end LK
set_option Elab.async false
set_option linter.all false
set_option maxRecDepth 100000
set_option maxHeartbeats 400000
namespace LK
open PySem PySem.Spec PyProof.Rows L2 DL
end LK
set_option Elab.async false
set_option linter.all false
set_option maxRecDepth 100000
set_option maxHeartbeats 400000
namespace LK
open PySem PySem.Spec PyProof.Rows L2 DL
end LK
set_option Elab.async false
set_option linter.all false
set_option maxRecDepth 100000
set_option maxHeartbeats 400000
namespace LK
open PySem PySem.Spec PyProof.Rows L2 DL
theorem snoc_ind {α : Type} {Q : List α → Prop} (h0 : Q []) (h1 : ∀ l a, Q l → Q (l ++ [a])) (l : List α) : Q l := by
  have h : ∀ r : List α, Q r.reverse := fun r => by
    induction r with
    | nil => exact h0
    | cons a r ih => rw [List.reverse_cons]; exact h1 _ _ ih
  have := h l.reverse
  rwa [List.reverse_reverse] at this
end LK
set_option Elab.async false
set_option linter.all false
set_option maxRecDepth 100000
set_option maxHeartbeats 1000000
namespace LK
open PySem PySem.Spec PyProof.Rows L2 DL
theorem atI_last {α : Type} {xs : List α} {x : α} (h : xs.getLast? = some x) : atI xs (-1) = some x := by
  have hne : xs ≠ [] := fun e => by rw [e] at h; cases h
  have hl := List.length_pos_iff.mpr hne
  unfold atI ixN
  rw [if_neg (by omega), if_pos (by omega)]
  show xs[(-1 + (xs.length : Int)).toNat]? = some x
  rw [show (-1 + (xs.length : Int)).toNat = xs.length - 1 by omega, ← List.getLast?_eq_getElem?]
  exact h
end LK
set_option Elab.async false
set_option linter.all false
set_option maxRecDepth 100000
set_option maxHeartbeats 1000000
namespace LK
open PySem PySem.Spec PyProof.Rows L2 DL
abbrev Cell := Option (Str × Nat × Nat)
def noWr : Wr := ⟨"", "", "", ""⟩
def wrAt (t : Tb) (n : Str) (k : Nat) : Wr := ((rowOf t n).getD []).getD k noWr
structure Pg where
  s : Scr Cell
  ap : List (Str × Nat)
def thingsO (t : Tb) (n : Str) (k : Nat) : List Cell := (List.range (wrAt t n k).t.length).map fun j => some (n, k, j)
def apartB (t : Tb) (p : Pg) (n : Str) (k : Nat) : Bool := decide ((wrAt t n k).k = "reply") && (decide (p.s.co = 0) || !decide (p.s.cur[p.s.co - 1]? = some (some (n, k - 1, (wrAt t n (k - 1)).t.length - 1))))
def scrStep (t : Tb) (few : List (Str × Nat)) (w : Nat) (s : Scr Cell) (n : Str) (k : Nat) : Scr Cell := if (n, k) ∈ few then sAbove w none s (thingsO t n k) else sWord w none (wrAt t n k).e (sType w none (sWord w none (wrAt t n k).l s) (thingsO t n k))
def pgStep (t : Tb) (few : List (Str × Nat)) (w : Nat) (p : Pg) (n : Str) (k : Nat) : Pg := ⟨scrStep t few w p.s n k, if apartB t p n k = true then p.ap ++ [(n, k)] else p.ap⟩
def pg0 (w : Nat) : Pg := ⟨sNew w none, []⟩
section
variable {t : Tb} {few : List (Str × Nat)} {w : Nat} {ns : List Str} {n : Str}
def Fits (t : Tb) (ns : List Str) : Prop := ∀ (p r : List Str) (n : Str), ns = p ++ n :: r → p.count n < lenT' t n
where lenT' (t : Tb) (n : Str) : Nat := ((rowOf t n).getD []).length
theorem Fits.pre {p r : List Str} (h : Fits t (p ++ r)) : Fits t p := fun a b n e => h a (b ++ r) n (by rw [e]; simp)
theorem wr_at (o : TbOk t) {k : Nat} (h : k < Fits.lenT' t n) : ∃ ws, rowOf t n = some ws ∧ ws[k]? = some (wrAt t n k) ∧ GoodR (wrAt t n k) ∧ (n, ws) ∈ t := by
  unfold Fits.lenT' at h
  cases e : rowOf t n with
  | none => rw [e] at h; exact absurd h (Nat.not_lt_zero _)
  | some ws =>
    rw [e] at h
    have h : k < ws.length := h
    have hw : wrAt t n k = ws[k] := by
      unfold wrAt
      rw [e]
      show ws.getD k noWr = _
      rw [List.getD_eq_getElem?_getD, List.getElem?_eq_getElem h]; rfl
    have hm := rowOf_mem e
    exact ⟨ws, rfl, by rw [hw, List.getElem?_eq_getElem h], by rw [hw]; exact (o.row _ hm).g _ (List.getElem_mem h), hm⟩
theorem SOk.step {s : Scr Cell} {k : Nat} (h : SOk w s) : SOk w (scrStep t few w s n k) := by
  unfold scrStep
  split
  · exact h.above
  · exact h.word.type.word
end
end LK
set_option Elab.async false
set_option linter.all false
set_option maxRecDepth 100000
set_option maxHeartbeats 400000
namespace LK
open PySem PySem.Spec PyProof.Rows L2 DL
def ScrAll {α : Type} (Q : α → Prop) (s : Scr α) : Prop := (∀ r ∈ s.up, ∀ c ∈ r, Q c) ∧ ∀ c ∈ s.cur, Q c
section
variable {α : Type} {Q : α → Prop} {s : Scr α} {w : Nat} {e x : α} {b : Bool} {wd : Str}
theorem mem_rep {n : Nat} (he : Q e) : ∀ c ∈ List.replicate n e, Q c := fun c hc => by rw [List.eq_of_mem_replicate hc]; exact he
theorem ScrAll.new (he : Q e) : ScrAll Q (sNew w e) := ⟨(fun r hr => nomatch hr), mem_rep he⟩
theorem ScrAll.down (h : ScrAll Q s) (he : Q e) : ScrAll Q (sDown w e b s) := ⟨fun r hr => by
  rcases List.mem_append.mp hr with hr | hr
  · exact h.1 r hr
  · rw [List.mem_singleton.mp hr]; exact h.2, mem_rep he⟩
theorem ScrAll.word1 (h : ScrAll Q s) : ScrAll Q (sWord1 wd s) := by unfold sWord1; split <;> exact h
theorem ScrAll.word2 (h : ScrAll Q s) (he : Q e) : ScrAll Q (sWord2 e wd s) := by
  unfold sWord2
  split
  · refine ⟨h.1, fun c hc => ?_⟩
    rcases List.mem_append.mp hc with hc | hc
    · exact h.2 c (List.mem_of_mem_take hc)
    · exact mem_rep he c hc
  · exact h
theorem ScrAll.word (h : ScrAll Q s) (he : Q e) : ScrAll Q (sWord w e wd s) := by
  unfold sWord sWord3
  split
  · exact (h.word1.word2 he).down he
  · exact h.word1.word2 he
theorem ScrAll.put (h : ScrAll Q s) (he : Q e) (hx : Q x) : ScrAll Q (sPut w e s x) := by
  have h1 : ScrAll Q (sWrap w e s) := by
    unfold sWrap
    split
    · exact h.down he
    · exact h
  refine ⟨h1.1, fun c hc => ?_⟩
  rcases List.mem_or_eq_of_mem_set hc with hc | hc
  · exact h1.2 c hc
  · rw [hc]; exact hx
theorem ScrAll.type (he : Q e) : ∀ {xs : List α} {s : Scr α}, ScrAll Q s → (∀ x ∈ xs, Q x) → ScrAll Q (sType w e s xs)
  | [], _, h, _ => h
  | x :: xs, s, h, hx => ScrAll.type he (xs := xs) (s := sPut w e s x) (h.put he (hx x (by simp))) fun y hy => hx y (by simp [hy])
theorem ScrAll.above {xs : List α} (h : ScrAll Q s) (he : Q e) (hx : ∀ x ∈ xs, Q x) : ScrAll Q (sAbove w e s xs) := by
  have ho : ScrAll Q (sType w e (sNew w e) xs) := ScrAll.type he (ScrAll.new he) hx
  refine ⟨fun r hr => ?_, h.2⟩
  rcases List.mem_append.mp hr with hr | hr
  · rcases List.mem_append.mp hr with hr | hr
    · exact h.1 r (List.mem_of_mem_take hr)
    · rcases List.mem_append.mp hr with hr | hr
      · exact ho.1 r hr
      · rw [List.mem_singleton.mp hr]; exact ho.2
  · exact h.1 r (List.mem_of_mem_drop hr)
end
section
variable {t : Tb} {few : List (Str × Nat)} {w : Nat} {Q : Cell → Prop}
def CellIn (t : Tb) (c : Cell) : Prop := ∀ x, c = some x → x.1 ∈ nmT t ∧ x.2.1 < Fits.lenT' t x.1 ∧ x.2.2 < (wrAt t x.1 x.2.1).t.length
end
end LK
set_option Elab.async false
set_option linter.all false
set_option maxRecDepth 100000
set_option maxHeartbeats 1000000
namespace LK
open PySem PySem.Spec PyProof.Rows L2 DL
section
variable {P : Program} {w : World} {K : PySem.W.Frag} {mg : Str → Option Value} {base : Heap}
end
end LK
set_option Elab.async false
set_option linter.all false
set_option maxRecDepth 100000
set_option maxHeartbeats 1000000
namespace LK
open PySem PySem.Spec PyProof.Rows L2 DL
structure PgA where
  y : Addr
  dy : Addr
  gx : Addr
  dg : Addr
  ad : Addr
  ax : Addr
section
variable {K : PySem.W.Frag} {t : Tb} {w : Nat} {A : PgA} {bl bj q : Addr} {qs : List Addr} {done : List (Str × Nat)} {pg : Pg} {c : Rc K}
end
def sLookW {K : PySem.W.Frag} : Spec K := fun I ds P _ => ∃ w : Nat, ds = [.int w] ∧ 1 ≤ w ∧ w ≤ 99 ∧ P .non I
section
variable {P : Program} {w : World} {K : PySem.W.Frag} {mg : Str → Option Value} {base : Heap}
theorem D_lookW (E : Env P w K mg base) : Def P w K mg base "look_at_width" 2 ["value"] [] sLookW := mk_f_look_at_width E fun fd F => by
  refine fn_d F sc_f_look_at_width (fun I ds P R h => by obtain ⟨n, rfl, _⟩ := h; rfl) fun cdv A outer s H EE hr tk po I ds Q R h => ?_
  obtain ⟨n, rfl, h1, h2, q⟩ := h
  have hr1 : Room 1 _ := hr
  refine s_one (s_ifF (PVT.is (c := false) (ptw (ww_orF (ptn (k := true) (pt_v (pv_def (D_is_integer E) hr1 (va_cons (pv_v (d := .int n) 0) va_nil) fun P pp => ⟨_, rfl, pp⟩))) (ww_or1 (ptn (pt_chn op_le op_le pv_int (pv_v (d := .int n) 0) p2_le (pv_gint E.c_MOST_WIDTH) p2_le))))) ?_) (s_nil q))
  have e1 : (1 : Int) ≤ n := by omega
  have e2 : (n : Int) ≤ 99 := by omega
  simp [e1, e2]
end
end LK
set_option Elab.async false
set_option linter.all false
set_option maxRecDepth 100000
set_option maxHeartbeats 1000000
set_option pp.maxSteps 300
namespace LK
open PySem PySem.Spec PyProof.Rows L2 DL
abbrev cDk (K : PySem.W.Frag) : Addr := He.ga K "Desk"
structure DkS where
  t : Tb
  past : List Tb
  later : List Tb
structure DkA where
  x : Addr
  dx : Addr
  C : Addr
  w : Nat
  ex : Option (D × D)
def exL : Option (D × D) → List (Str × D)
  | none => []
  | some p => [("home", p.1), ("goal", p.2)]
theorem exL_len (e : Option (D × D)) : (exL e).length ≤ 2 := by cases e <;> simp [exL]
abbrev dkFg (K : PySem.W.Frag) (w : Nat) (t : Tb) (dq dl : D) (ex : Option (D × D)) : List (Str × D) := ("present", cD K t) :: ("span", .int w) :: ("past", dq) :: ("later", dl) :: ("watchers", dicD []) :: ("told", dicD []) :: ("begun_many", .int 0) :: exL ex
abbrev dkF (K : PySem.W.Frag) (w : Nat) (S : DkS) (ex : Option (D × D)) : List (Str × D) := dkFg K w S.t (.lst (S.past.map (cD K))) (.lst (S.later.map (cD K))) ex
def iDk (K : PySem.W.Frag) (A : DkA) (S : DkS) : Iv K := iIns K A.x A.C A.dx (dkF K A.w S A.ex)
def iHm (K : PySem.W.Frag) (A : DkA) (S : DkS) (p q : Addr) : Iv K := (iIns K A.x A.C A.dx (dkFg K A.w S.t (.adr p) (.adr q) A.ex)).and ((iLst K p (S.past.map (cD K))).and (iLst K q (S.later.map (cD K))))
structure DkC (K : PySem.W.Frag) (C : Addr) : Prop where
  l : Cls K C
  aP : NoAttr K C "present"
  aS : NoAttr K C "span"
  aQ : NoAttr K C "past"
  aL : NoAttr K C "later"
  aW : NoAttr K C "watchers"
  aT : NoAttr K C "told"
  aB : NoAttr K C "begun_many"
  m : ∀ x ∈ (["change_to", "with_writes", "tell"] : List Str), TMeth K C x ∧ He.ma K C x = He.ma K (cDk K) x
section
variable {P : Program} {w : World} {K : PySem.W.Frag} {mg : Str → Option Value} {base : Heap}
theorem dkc_desk (E : Env P w K mg base) : DkC K (cDk K) := ⟨E.l_Desk, E.a_Desk_present, E.a_Desk_span, E.a_Desk_past, E.a_Desk_later, E.a_Desk_watchers, E.a_Desk_told, E.a_Desk_begun_many, fun x hx => by
  simp only [List.mem_cons, List.not_mem_nil, or_false] at hx
  rcases hx with rfl | rfl | rfl
  · exact ⟨E.h_Desk_change_to, rfl⟩
  · exact ⟨E.h_Desk_with_writes, rfl⟩
  · exact ⟨E.h_Desk_tell, rfl⟩⟩
end
def erP (K : PySem.W.Frag) (er : Er) (R : Addr → List (Str × D) → Iv K → Prop) (I : Iv K) : Prop := match er with
  | .clash n => R (He.ga K "Clash") [("name", .str n)] I
  | .unk n => R (He.ga K "UnknownWork") [("name", .str n)] I
  | .num k => R (He.ga K "NoWrite") [("number", .int k)] I
  | .inv n o => R (He.ga K "InvalidCast") (xCast K n o) I
def edP (K : PySem.W.Frag) (A : DkA) (S : DkS) (c : Rc K) (e : Ed) (P : D → Iv K → Prop) (R : Addr → List (Str × D) → Iv K → Prop) : Prop := match editR S.t e with
  | .inl er => erP K er R (c.fill (iDk K A S))
  | .inr u => P .non (c.fill (iDk K A ⟨sortW (tbOf u), S.past ++ [S.t], []⟩))
def sDkTell {K : PySem.W.Frag} : Spec K := fun I ds P _ => ∃ (A : DkA) (S : DkS) (c : Rc K), ds = [.adr A.x] ∧ I = c.fill (iDk K A S) ∧ DkC K A.C ∧ P .non I
def sDkCh {K : PySem.W.Frag} : Spec K := fun I ds P _ => ∃ (A : DkA) (S : DkS) (c : Rc K) (u : Tb), ds = [.adr A.x, cD K u] ∧ I = c.fill (iDk K A S) ∧ DkC K A.C ∧ S.past.length ≤ 500 ∧ P .non (c.fill (iDk K A ⟨u, S.past ++ [S.t], []⟩))
def sDkWith {K : PySem.W.Frag} : Spec K := fun I ds P R => ∃ (A : DkA) (S : DkS) (c : Rc K) (n : Str) (r : ORow) (v : Wv), ds = [.adr A.x, .str n, v.d K] ∧ I = c.fill (iDk K A S) ∧ DkC K A.C ∧ TbOk S.t ∧ n.length ≤ 100000 ∧ (v = .ls (frO r) ∨ v = .tp (frO r)) ∧ (∀ w, some w ∈ r → GoodR w) ∧ r.length ≤ 1000 ∧
  match badO (putR (oT S.t) n r) with
  | some no => R (He.ga K "InvalidCast") (xCast K no.1 no.2) I
  | none => P (cD K (sortW (tbOf (putR (oT S.t) n r)))) I
def sDkSet {K : PySem.W.Frag} : Spec K := fun I ds P R => ∃ (A : DkA) (S : DkS) (c : Rc K) (n : Str) (k : Int) (o : Option Wr), ds = [.adr A.x, .tup [.str n, .int k], (thO o).d K] ∧ I = c.fill (iDk K A S) ∧ DkC K A.C ∧ TbOk S.t ∧ S.past.length ≤ 500 ∧ (∀ w, o = some w → GoodR w) ∧ edP K A S c (.set n k o) P R
def sDkIns {K : PySem.W.Frag} : Spec K := fun I ds P R => ∃ (A : DkA) (S : DkS) (c : Rc K) (n : Str) (k : Int) (ws : List Wr), ds = [.adr A.x, .str n, .int k, .lst (ws.map (wrD K))] ∧ I = c.fill (iDk K A S) ∧ DkC K A.C ∧ TbOk S.t ∧ S.past.length ≤ 500 ∧ (∀ w ∈ ws, GoodR w) ∧ ws.length ≤ 100 ∧ edP K A S c (.ins n k ws) P R
def sDkRem {K : PySem.W.Frag} : Spec K := fun I ds P R => ∃ (A : DkA) (S : DkS) (c : Rc K) (n : Str) (k : Int) (m : Nat), ds = [.adr A.x, .str n, .int k, .int m] ∧ I = c.fill (iDk K A S) ∧ DkC K A.C ∧ TbOk S.t ∧ S.past.length ≤ 500 ∧ -1000 ≤ k ∧ k ≤ 1000 ∧ 1 ≤ m ∧ m ≤ 100 ∧ edP K A S c (.rem n k m) P R
def sDkAdd {K : PySem.W.Frag} : Spec K := fun I ds P R => ∃ (A : DkA) (S : DkS) (c : Rc K) (n : Str) (ws : List Wr), ds = [.adr A.x, .str n, .lst (ws.map (wrD K))] ∧ I = c.fill (iDk K A S) ∧ DkC K A.C ∧ TbOk S.t ∧ S.past.length ≤ 500 ∧ n.length ≤ 100000 ∧ (∀ w ∈ ws, GoodR w) ∧ ws.length ≤ 100 ∧ edP K A S c (.add n ws) P R
def sDkDrop {K : PySem.W.Frag} : Spec K := fun I ds P R => ∃ (A : DkA) (S : DkS) (c : Rc K) (n : Str), ds = [.adr A.x, .str n] ∧ I = c.fill (iDk K A S) ∧ DkC K A.C ∧ TbOk S.t ∧ S.past.length ≤ 500 ∧ edP K A S c (.drop n) P R
def getW (ws : List Wr) (k : Int) : Option Wr := if 0 ≤ k then ws[k.toNat]? else none
def sDkGet {K : PySem.W.Frag} : Spec K := fun I ds P R => ∃ (A : DkA) (S : DkS) (c : Rc K) (n : Str) (k : Int), ds = [.adr A.x, .tup [.str n, .int k]] ∧ I = c.fill (iDk K A S) ∧ DkC K A.C ∧ TbOk S.t ∧ match rowOf S.t n with
  | none => R (He.ga K "UnknownWork") [("name", .str n)] I
  | some ws => match getW ws k with
    | some x => P (wrD K x) I
    | none => R (He.ga K "NoWrite") [("number", .int k)] I
def sDkUndo {K : PySem.W.Frag} : Spec K := fun I ds P _ => ∃ (A : DkA) (S : DkS) (dq dl : D) (c : Rc K), ds = [.adr A.x] ∧ I = c.fill (iIns K A.x A.C A.dx (dkFg K A.w S.t dq dl A.ex)) ∧ DkC K A.C ∧ (∀ fs, LsI (c.fill (iIns K A.x A.C A.dx fs)) dq (S.past.map (cD K))) ∧ (∀ fs, LsI (c.fill (iIns K A.x A.C A.dx fs)) dl (S.later.map (cD K))) ∧ S.later.length ≤ 500 ∧ ((S.past = [] ∧ P (.bl false) I) ∨ ∃ p u, S.past = p ++ [u] ∧ P (.bl true) (c.fill (iDk K A ⟨u, p, S.later ++ [S.t]⟩)))
def sDkRedo {K : PySem.W.Frag} : Spec K := fun I ds P _ => ∃ (A : DkA) (S : DkS) (c : Rc K), ds = [.adr A.x] ∧ I = c.fill (iDk K A S) ∧ DkC K A.C ∧ S.past.length ≤ 500 ∧ ((S.later = [] ∧ P (.bl false) I) ∨ ∃ p u, S.later = p ++ [u] ∧ P (.bl true) (c.fill (iDk K A ⟨u, S.past ++ [S.t], p⟩)))
def sDkInit {K : PySem.W.Frag} : Spec K := fun I ds P _ => ∃ (x dx C : Addr) (J : Iv K) (t : Tb) (n : Nat), ds = [.adr x, cD K t, .int n] ∧ I = J.and (iIns K x C dx []) ∧ DkC K C ∧ 1 ≤ n ∧ n ≤ 99 ∧ ∀ p q, P .non (J.and (iHm K ⟨x, dx, C, n, none⟩ ⟨t, [], []⟩ p q))
section
variable {P : Program} {w : World} {K : PySem.W.Frag} {mg : Str → Option Value} {base : Heap}
theorem dk_ins {A : DkA} {S : DkS} {c : Rc K} : c.fill (iDk K A S) = c.fill (iIns K A.x A.C A.dx (dkF K A.w S A.ex)) := rfl
theorem dk_none {A : DkA} {S : DkS} {m : Str} (h : m ∈ (["change_to", "with_writes", "tell", "is_safe", "undo", "redo", "insert", "remove", "add", "drop", ""] : List Str)) : (dkF K A.w S A.ex).lookup m = none := by
  simp only [List.mem_cons, List.not_mem_nil, or_false] at h
  cases A.ex <;> rcases h with rfl | rfl | rfl | rfl | rfl | rfl | rfl | rfl | rfl | rfl | rfl <;> rfl
theorem dk_l {A : DkA} {S : DkS} : decide ((dkF K A.w S A.ex).length < 1000) = true := by
  have := exL_len A.ex
  refine decide_eq_true ?_
  show (exL A.ex).length + 7 < 1000
  omega
theorem M_dkTell (E : Env P w K mg base) : FnR P w K mg base (L2.CX P w) 2 (He.ma K (cDk K) "tell") (spD K sDkTell) := mk_m_Desk_tell E fun fd F => by
  refine fn_d F sc_m_Desk_tell (fun I ds P R h => by obtain ⟨A, S, c, rfl, _⟩ := h; rfl) fun cdv Ac outer s H EE hr tk po I ds Q R h => ?_
  obtain ⟨A, S, c, rfl, rfl, dc, q⟩ := h
  have nd := sc_m_Desk_tell.nd
  have hr1 : Room 1 _ := hr
  exact s_one (s_ifP (b := false) (PVT.is (pt_neE (kds := []) hr1 (pv_fld _ dc.l dc.aW (pv_v (d := .adr A.x) 0) rfl (eI := dk_ins))) rfl) (fun h => nomatch h) fun _ => s_nil q)
theorem M_dkCh (E : Env P w K mg base) : FnR P w K mg base (L2.CX P w) 3 (He.ma K (cDk K) "change_to") (spD K sDkCh) := mk_m_Desk_change_to E fun fd F => by
  refine fn_d F sc_m_Desk_change_to (fun I ds P R h => by obtain ⟨A, S, c, u, rfl, _⟩ := h; rfl) fun cdv Ac outer s H EE hr tk po I ds Q R h => ?_
  obtain ⟨A, S, c, u, rfl, rfl, dc, hz, q⟩ := h
  have nd := sc_m_Desk_change_to.nd
  have hr2 : Room 2 _ := hr
  have hT := dc.m "tell" (by simp)
  refine s_cons (s_fldP c dc.l dc.aQ (pv_v (d := .adr A.x) 0) (PV.is (pv_lst (va_starL (pv_fld (d := .lst (S.past.map (cD K))) _ dc.l dc.aQ (pv_v (d := .adr A.x) 0) rfl (eI := dk_ins)) (va_cons (pv_fld (d := cD K S.t) _ dc.l dc.aP (pv_v (d := .adr A.x) 0) rfl (eI := dk_ins)) va_nil)) (by rw [List.length_append, List.length_map]; show _ + 1 ≤ _; omega)) (z := .lst ((S.past ++ [S.t]).map (cD K))) (by rw [List.map_append]; rfl)) ?_ (eI := dk_ins) (hl := dk_l))
  refine SX.eq (I' := c.fill (iDk K A ⟨S.t, S.past ++ [S.t], S.later⟩)) rfl ?_
  refine s_cons (s_fldP c dc.l dc.aL (pv_v (d := .adr A.x) 0) (pv_lst va_nil) ?_ (eI := dk_ins) (hl := dk_l))
  refine SX.eq (I' := c.fill (iDk K A ⟨S.t, S.past ++ [S.t], []⟩)) rfl ?_
  refine s_cons (s_fldP c dc.l dc.aP (pv_v (d := .adr A.x) 0) (pv_v (d := cD K u) 1) ?_ (eI := dk_ins) (hl := dk_l))
  refine SX.eq (I' := c.fill (iDk K A ⟨u, S.past ++ [S.t], []⟩)) rfl ?_
  refine s_one (s_expr (ev_meth0 tk ⟨fun f => dc.l.get f⟩ hT.1.f hT.1.i hT.1.k (hT.2 ▸ M_dkTell E) hr2 ((pv_v (d := .adr A.x) 0).ev ⟨insD_ins c (dk_none (by simp)) dk_ins, A, _, c, rfl, rfl, dc, q⟩)))
end
end LK
set_option Elab.async false
set_option linter.all false
set_option maxRecDepth 100000
set_option maxHeartbeats 1000000
set_option pp.maxSteps 300
namespace LK
open PySem PySem.Spec PyProof.Rows L2 DL
def putF (n : Str) (v : Wv) (p : Str × ORow) : Wv := if p.1 = n then v else .tp (frO p.2)
theorem put_dict {K : PySem.W.Frag} {t : Tb} (nd : (t.map (·.1)).Nodup) (n : Str) (r : ORow) (v : Wv) : dicD (putG (mergeG [] (t.map fun x => ((.inr x.1 : Key), rowD K x.2))) (.inr n) (v.d K)) = wksD K (wsO (putR (oT t) n r) (putF n v)) := by
  have nk : ((t.map fun x => ((.inr x.1 : Key), rowD K x.2)).map (·.1)).Nodup := by
    rw [List.map_map]
    have := nd_keys nd
    rwa [List.map_map] at this
  rw [mergeG_new _ [] (by simpa using nk), List.nil_append]
  have e0 : wksD K (wsO (putR (oT t) n r) (putF n v)) = dicD ((putR (oT t) n r).map fun p => ((.inr p.1 : Key), (putF n v p).d K)) := by
    unfold wsO
    show dicD (List.map _ (List.map _ _)) = _
    rw [List.map_map]; rfl
  rw [e0]
  refine congrArg dicD ?_
  have er : ∀ p : Str × List Wr, p.1 ≠ n → ((Sum.inr p.1 : Key), rowD K p.2) = ((.inr p.1 : Key), (putF n v (p.1, p.2.map some)).d K) := fun p hp => by
    unfold putF
    rw [if_neg hp]
    show _ = (Sum.inr p.1, D.tup (List.map (Th.d K) (List.map thO (List.map some p.2))))
    rw [List.map_map, List.map_map]; rfl
  unfold putG putR
  have ea : ((t.map fun x => ((.inr x.1 : Key), rowD K x.2)).any fun kv => decide (kv.1 = (.inr n : Key))) = decide (n ∈ (oT t).map (·.1)) := by
    rw [oT_names, List.any_map, Bool.eq_iff_iff, List.any_eq_true, decide_eq_true_eq, List.mem_map]
    constructor
    · rintro ⟨x, hx, e⟩
      exact ⟨x, hx, Sum.inr.inj (of_decide_eq_true e)⟩
    · rintro ⟨x, hx, e⟩
      exact ⟨x, hx, decide_eq_true (congrArg Sum.inr e)⟩
  rw [ea]
  by_cases hn : n ∈ (oT t).map (·.1)
  · rw [if_pos (decide_eq_true hn), if_pos hn]
    unfold oT
    rw [List.map_map, List.map_map, List.map_map]
    refine List.map_congr_left fun p hp => ?_
    show (if (Sum.inr p.1 : Key) = .inr n then ((Sum.inr p.1 : Key), v.d K) else (Sum.inr p.1, rowD K p.2)) = ((.inr (if p.1 = n then (p.1, r) else (p.1, p.2.map some)).1 : Key), (putF n v (if p.1 = n then (p.1, r) else (p.1, p.2.map some))).d K)
    by_cases hp1 : p.1 = n
    · rw [if_pos (congrArg Sum.inr hp1), if_pos hp1]
      unfold putF
      rw [if_pos hp1]
    · rw [if_neg fun e => hp1 (Sum.inr.inj e), if_neg hp1]
      exact er p hp1
  · rw [if_neg (fun h => hn (of_decide_eq_true h)), if_neg hn, List.map_append]
    congr 1
    · unfold oT
      rw [List.map_map]
      refine List.map_congr_left fun p hp => ?_
      refine er p fun e => hn ?_
      rw [oT_names]
      exact List.mem_map.mpr ⟨p, hp, e⟩
    · show [((Sum.inr n : Key), Wv.d K v)] = [((Sum.inr n : Key), (putF n v (n, r)).d K)]
      unfold putF
      rw [if_pos (rfl : (n, r).1 = n)]
theorem put_pass {u : OTb} {n : Str} {r : ORow} {v : Wv} (hv : v = .ls (frO r) ∨ v = .tp (frO r)) : PassO (putR u n r) (putF n v) := ⟨fun p hp => by
  unfold putF
  by_cases e : p.1 = n
  · rw [if_pos e, put_at hp e]; exact hv
  · rw [if_neg e]; exact .inr rfl⟩
theorem oT_bd {t : Tb} (o : TbOk t) {p : Str × ORow} (hp : p ∈ oT t) : (∀ w, some w ∈ p.2 → GoodR w) ∧ p.2.length ≤ 8 ∧ p.1.length ≤ 8 := by
  obtain ⟨q, hq, rfl⟩ := List.mem_map.mp hp
  have r := o.row q hq
  refine ⟨fun w hw => ?_, by show (q.2.map some).length ≤ 8; rw [List.length_map]; exact r.m, (isName_len (o.nm q hq)).2⟩
  obtain ⟨x, hx, e⟩ := List.mem_map.mp (show some w ∈ q.2.map some from hw)
  cases e
  exact r.g w hx
theorem put_bd {t : Tb} (o : TbOk t) {n : Str} {r : ORow} (hg : ∀ w, some w ∈ r → GoodR w) (hr : r.length ≤ 1000) (hn : n.length ≤ 100000) {p : Str × ORow} (hp : p ∈ putR (oT t) n r) : (∀ w, some w ∈ p.2 → GoodR w) ∧ p.2.length ≤ 1000 ∧ p.1.length ≤ 100000 := by
  rcases put_mem hp with h | rfl
  · obtain ⟨a, b, c⟩ := oT_bd o h
    exact ⟨a, by omega, by omega⟩
  · exact ⟨hg, hr, hn⟩
theorem good_put {t : Tb} (o : TbOk t) {n : Str} {r : ORow} (hg : ∀ w, some w ∈ r → GoodR w) (h : badO (putR (oT t) n r) = Option.none) : oT (tbOf (putR (oT t) n r)) = putR (oT t) n r ∧ TbOk (tbOf (putR (oT t) n r)) := by
  refine good_of (put_nd (by rw [oT_names]; exact o.nd) n r) (fun p hp w hw => ?_) h
  rcases put_mem hp with h | rfl
  · exact (oT_bd o h).1 w hw
  · exact hg w hw
theorem cutT_take (ds : List D) {k : Int} (h : 0 ≤ k) : cutD ds none (some k) = ds.take k.toNat := by
  obtain ⟨n, rfl⟩ := Int.eq_ofNat_of_zero_le h
  exact cut_take ds n
theorem cutT_drop (ds : List D) {k : Int} (h : 0 ≤ k) : cutD ds (some k) none = ds.drop k.toNat := by
  obtain ⟨n, rfl⟩ := Int.eq_ofNat_of_zero_le h
  exact cut_drop ds n
theorem fr_some {K : PySem.W.Frag} (ws : List Wr) : (frO (ws.map some)).map (Th.d K) = ws.map (wrD K) := by
  unfold frO
  rw [List.map_map, List.map_map]; rfl
theorem fr_app {K : PySem.W.Frag} (a b : ORow) : (frO (a ++ b)).map (Th.d K) = (frO a).map (Th.d K) ++ (frO b).map (Th.d K) := by
  unfold frO
  rw [List.map_append, List.map_append]
section
variable {P : Program} {w : World} {K : PySem.W.Frag} {mg : Str → Option Value} {base : Heap}
theorem M_dkWith (E : Env P w K mg base) : FnR P w K mg base (L2.CX P w) 6 (He.ma K (cDk K) "with_writes") (spD K sDkWith) := mk_m_Desk_with_writes E fun fd F => by
  refine fn_d F sc_m_Desk_with_writes (fun I ds P R h => by obtain ⟨A, S, c, n, r, v, rfl, _⟩ := h; rfl) fun cdv Ac outer s H EE hr tk po I ds Q R h => ?_
  obtain ⟨A, S, c, n, r, v, rfl, rfl, dc, o, hn, hv, hg, hz, q⟩ := h
  have nd := sc_m_Desk_with_writes.nd
  have hr5 : Room 5 _ := hr
  have ndu : ((putR (oT S.t) n r).map (·.1)).Nodup := put_nd (by rw [oT_names]; exact o.nd) n r
  have hm := o.m
  have hp := put_pass (u := oT S.t) (n := n) hv
  have eI : ∀ J : Iv K, ∃ k : Rc K, (c.fill (iDk K A S)).and J = k.fill (iIns K A.x A.C A.dx (dkF K A.w S A.ex)) := fun J => ⟨.l c J, rfl⟩
  refine s_one (s_ret (ev_cast E tk hr5 (ev_dstar1k (k1 := S.t.map fun x => ((.inr x.1 : Key), rowD K x.2)) (z0 := v.d K) (kk := n) (fun J => ?_) (fun J => pv_w (d := .str n) 1 rfl) (fun J => pv_w (d := v.d K) 2 rfl) (by rw [List.length_map]; omega) ⟨wsO (putR (oT S.t) n r) (putF n v), put_dict o.nd n r v, ?_, ?_⟩)))
  · exact pv_sl E.k_Cast.sc E.s_Cast_table (pv_fld (d := cD K S.t) (.l c J) dc.l dc.aP (pv_v (d := .adr A.x) 0) rfl (eI := rfl)) rfl
  · refine wks_of ndu hp (fun p hp w hw => (put_bd o hg hz hn hp).1 w hw) (fun p hp => (put_bd o hg hz hn hp).2.1) (fun p hp => (put_bd o hg hz hn hp).2.2) ?_
    have := put_len (oT S.t) n r
    have e : (oT S.t).length = S.t.length := by unfold oT; rw [List.length_map]
    omega
  · rw [fault_of ndu hp]
    cases hb : badO (putR (oT S.t) n r) with
    | some no => rw [hb] at q; exact q
    | none =>
      rw [hb] at q
      have hgd := good_put o hg hb
      show Q (.slo _ [ctbD K _]) _
      rw [ctb_of ndu hp hgd.1]
      exact q
end
section
variable {X : Cx} {W : WX} {R : Rx X.K} {I : Iv X.K} {a b o1 o2 : Expr} {δ : DEnv} {P : D → Iv X.K → Prop} {pos p1 p2 : Pos}
theorem ev_chW {ap1 ap2 pos2 : Pos} {pl pl2 : Sem Bool} {A : DkA} {S : DkS} {c : Rc X.K} {n : Str} {r : ORow} {v : Wv} (E : Env X.prog X.w X.K X.mg X.base) (tk : Takes X W) (hr : Room 6 X.A) (dc : DkC X.K A.C) (o : TbOk S.t) (hq : S.past.length ≤ 500)
    (h1 : PV X (c.fill (iDk X.K A S)) o1 δ (.adr A.x)) (h2 : PV X (c.fill (iDk X.K A S)) o2 δ (.adr A.x)) (ha : PV X (c.fill (iDk X.K A S)) a δ (.str n)) (hb : PV X (c.fill (iDk X.K A S)) b δ (v.d X.K))
    (hn : n.length ≤ 100000) (hv : v = .ls (frO r) ∨ v = .tp (frO r)) (hg : ∀ w, some w ∈ r → GoodR w) (hz : r.length ≤ 1000)
    (q : match badO (putR (oT S.t) n r) with
      | some no => R (He.ga X.K "InvalidCast") (xCast X.K no.1 no.2) (c.fill (iDk X.K A S))
      | none => P .non (c.fill (iDk X.K A ⟨sortW (tbOf (putR (oT S.t) n r)), S.past ++ [S.t], []⟩)))
    (hst : starEach [Expr.Call (.Attribute o2 "with_writes" ap2) [a, b] [] pos2] X.env = (false, eval (.Call (.Attribute o2 "with_writes" ap2) [a, b] [] pos2) X.env) :: starEach [] X.env := by rfl)
    (hpl : (backTo pos (starEach [] X.env)).any (·.1) = false := by rfl)
    (ht : eval (.Call (.Attribute o1 "change_to" ap1) [.Call (.Attribute o2 "with_writes" ap2) [a, b] [] pos2] [] pos) X.env = (do
      let ov ← eval o1 X.env
      standAt ap1.atName
      let (f, first) ← holding [ov] (getMethod ov "change_to" pl)
      callWith pos f first (backTo pos (starEach [.Call (.Attribute o2 "with_writes" ap2) [a, b] [] pos2] X.env)) (backToKw pos (keywordEach [] X.env))) := by rfl)
    (hst2 : starEach [a, b] X.env = (false, eval a X.env) :: starEach [b] X.env := by rfl) (hst3 : starEach [b] X.env = (false, eval b X.env) :: starEach [] X.env := by rfl)
    (hpl2 : (backTo pos2 (starEach [b] X.env)).any (·.1) = false := by rfl)
    (ht2 : eval (.Call (.Attribute o2 "with_writes" ap2) [a, b] [] pos2) X.env = (do
      let ov ← eval o2 X.env
      standAt ap2.atName
      let (f, first) ← holding [ov] (getMethod ov "with_writes" pl2)
      callWith pos2 f first (backTo pos2 (starEach [a, b] X.env)) (backToKw pos2 (keywordEach [] X.env))) := by rfl) :
    EvX X W R (.Call (.Attribute o1 "change_to" ap1) [.Call (.Attribute o2 "with_writes" ap2) [a, b] [] pos2] [] pos) δ (c.fill (iDk X.K A S)) P := by
  have hr3 : Room 3 X.A := hr.mono (by decide)
  have hC := dc.m "change_to" (by simp)
  have hW := dc.m "with_writes" (by simp)
  refine ev_methA tk ⟨fun f => dc.l.get f⟩ hC.1.f hC.1.i hC.1.k (hC.2 ▸ M_dkCh E) hr3 (h1.ev ⟨insD_ins c (dk_none (by simp)) dk_ins, ?_⟩) hst hpl ht
  refine ea_cons ?_ hst
  refine ev_methA tk ⟨fun f => dc.l.get f⟩ hW.1.f hW.1.i hW.1.k (hW.2 ▸ M_dkWith E) hr (h2.ev ⟨insD_ins c (dk_none (by simp)) dk_ins, ?_⟩) hst2 hpl2 ht2
  refine ea_cons (ha.ev (ea_cons (hb.ev (ea_nil ?_)) hst3)) hst2
  refine ⟨A, S, c, n, r, v, rfl, rfl, dc, o, hn, hv, hg, hz, ?_⟩
  cases hbad : badO (putR (oT S.t) n r) with
  | some no => rw [hbad] at q; exact q
  | none =>
    rw [hbad] at q
    exact ea_nil ⟨A, S, c, _, rfl, rfl, dc, hq, q⟩
end
end LK
set_option Elab.async false
set_option linter.all false
set_option maxRecDepth 100000
set_option maxHeartbeats 1000000
namespace LK
open PySem PySem.Spec PyProof.Rows L2 DL
abbrev Pc := Str × Nat
def pcO (c : Cell) : Option Pc := c.map fun x => (x.1, x.2.1)
structure Rw where
  cells : List Cell
  co : Nat
  sp : Bool
def staysB (t : Tb) (p : Pc) : Bool := !decide ((wrAt t p.1 p.2).k = "show")
def lenP (t : Tb) (p : Pc) : Nat := (wrAt t p.1 p.2).t.length
def hardC (t : Tb) (c : Cell) (col : Nat) : Bool := match c with
  | none => false
  | some x => staysB t (x.1, x.2.1) || decide (col < x.2.2)
def celAt (l : List Cell) (i : Nat) : Cell := (l[i]?).getD none
def rTake (t : Tb) (col : Nat) (r : Rw) : Rw := { r with cells := r.cells.set col none, sp := r.sp || hardC t (celAt r.cells col) col }
def colsP (l : List Cell) (p : Pc) : List Nat := (l.zipIdx.filter fun q => decide (pcO q.1 = some p)).map (·.2)
def idxC (c : Cell) : Nat := match c with
  | none => 0
  | some x => x.2.2
def begunP (l : List Cell) (p : Pc) : Nat := match colsP l p with
  | [] => 0
  | c :: _ => idxC (celAt l c) - c
def tornP (t : Tb) (l : List Cell) (p : Pc) : Bool := decide ((colsP l p).length < lenP t p - begunP l p)
def addP (ps : List Pc) (c : Cell) : List Pc := match pcO c with
  | none => ps
  | some p => if p ∈ ps then ps else ps ++ [p]
def pcsR (l : List Cell) : List Pc := l.foldl addP []
def mixedR (l : List Cell) : Bool := (pcsR l).any fun p => (pcsR l).any fun q => !decide (p.1 = q.1)
def badLeave (t : Tb) (me : Pc) (wr : Bool) (l : List Cell) : Bool := mixedR l || (pcsR l).any fun p => !(wr && decide (p = me)) && (!staysB t p && tornP t l p)
def rLeave (t : Tb) (me : Pc) (wr : Bool) (r : Rw) : Rw := ⟨List.replicate r.cells.length none, 0, r.sp || badLeave t me wr r.cells⟩
def rErase (t : Tb) (r : Rw) : Rw := (List.range' r.co (r.cells.length - r.co)).foldl (fun r c => rTake t c r) r
def rWord1 (wd : Str) (r : Rw) : Rw := if wd = "return" ∨ wd = "wipe" then { r with co := 0 } else r
def rWord2 (t : Tb) (wd : Str) (r : Rw) : Rw := if wd = "wipe" ∨ wd = "erase" then rErase t r else r
def rWord3 (t : Tb) (me : Pc) (wd : Str) (r : Rw) : Rw := if wd = "newline" ∨ (wd = "fresh" ∧ 0 < r.co) then rLeave t me false r else r
def rWord (t : Tb) (me : Pc) (wd : Str) (r : Rw) : Rw := rWord3 t me wd (rWord2 t wd (rWord1 wd r))
def notAsk (t : Tb) (me : Pc) (r : Rw) : Bool := decide (r.co = 0) || !decide (r.cells[r.co - 1]? = some (some (me.1, me.2 - 1, (wrAt t me.1 (me.2 - 1)).t.length - 1)))
def rReply (t : Tb) (me : Pc) (r : Rw) : Rw := if (wrAt t me.1 me.2).k = "reply" then { r with sp := r.sp || notAsk t me r } else r
def rWrap (t : Tb) (me : Pc) (r : Rw) : Rw := if r.co = r.cells.length then rLeave t me true r else r
def rPut1 (t : Tb) (x : Cell) (r : Rw) : Rw := { cells := (rTake t r.co r).cells.set r.co x, co := r.co + 1, sp := (rTake t r.co r).sp }
def rPut (t : Tb) (me : Pc) (r : Rw) (j : Nat) : Rw := rPut1 t (some (me.1, me.2, j)) (rWrap t me r)
def rType (t : Tb) (me : Pc) (r : Rw) : Rw := (List.range (lenP t me)).foldl (rPut t me) r
def rPerf (t : Tb) (me : Pc) (r : Rw) : Rw := rWord t me (wrAt t me.1 me.2).e (rType t me (rReply t me (rWord t me (wrAt t me.1 me.2).l r)))

def isP (p : Pc) (c : Cell) : Bool := decide (pcO c = some p)
def upN (p : Pc) (s : Scr Cell) : Nat := s.up.flatten.countP (isP p)
def curN (p : Pc) (s : Scr Cell) : Nat := s.cur.countP (isP p)
theorem colsP_len (l : List Cell) (p : Pc) : (colsP l p).length = l.countP (isP p) := by
  unfold colsP
  rw [List.length_map, ← List.countP_eq_length_filter]
  have h : ∀ (l : List Cell) (k : Nat), (l.zipIdx k).countP (fun q => decide (pcO q.1 = some p)) = l.countP (isP p) := by
    intro l
    induction l with
    | nil => intro k; rfl
    | cons a l ih => intro k; rw [List.zipIdx_cons, List.countP_cons, List.countP_cons, ih]; rfl
  exact h l 0
theorem addP_mem {c : Cell} {ps : List Pc} {p : Pc} : p ∈ addP ps c ↔ p ∈ ps ∨ pcO c = some p := by
  unfold addP
  cases e : pcO c with
  | none => simp
  | some q =>
    show p ∈ (if q ∈ ps then ps else ps ++ [q]) ↔ _
    by_cases h : q ∈ ps
    · rw [if_pos h]
      constructor
      · exact .inl
      · rintro (h' | h')
        · exact h'
        · cases h'; exact h
    · rw [if_neg h, List.mem_append, List.mem_singleton]
      constructor
      · rintro (h' | h')
        · exact .inl h'
        · subst h'; exact .inr rfl
      · rintro (h' | h')
        · exact .inl h'
        · cases h'; exact .inr rfl
theorem pcs_fold : ∀ (l : List Cell) (ps : List Pc) (p : Pc), p ∈ l.foldl addP ps ↔ p ∈ ps ∨ ∃ c ∈ l, pcO c = some p
  | [], ps, p => by simp
  | c :: l, ps, p => by
    rw [List.foldl_cons, pcs_fold l, addP_mem]
    simp only [List.mem_cons, exists_eq_or_imp, or_assoc]
theorem pcs_mem {l : List Cell} {p : Pc} : p ∈ pcsR l ↔ ∃ c ∈ l, pcO c = some p := by
  unfold pcsR
  rw [pcs_fold]
  simp
theorem pcs_cnt {l : List Cell} {p : Pc} : p ∈ pcsR l ↔ 0 < l.countP (isP p) := by
  rw [pcs_mem, List.countP_pos_iff]
  exact ⟨fun ⟨c, h, e⟩ => ⟨c, h, decide_eq_true e⟩, fun ⟨c, h, e⟩ => ⟨c, h, of_decide_eq_true e⟩⟩
theorem mixed_iff {l : List Cell} : mixedR l = true ↔ ∃ c ∈ l, ∃ d ∈ l, ∃ p q, pcO c = some p ∧ pcO d = some q ∧ p.1 ≠ q.1 := by
  unfold mixedR
  simp only [List.any_eq_true, Bool.not_eq_true', decide_eq_false_iff_not, pcs_mem]
  constructor
  · rintro ⟨p, ⟨c, hc, ec⟩, q, ⟨d, hd, ed⟩, n⟩
    exact ⟨c, hc, d, hd, p, q, ec, ed, n⟩
  · rintro ⟨c, hc, d, hd, p, q, ec, ed, n⟩
    exact ⟨p, ⟨c, hc, ec⟩, q, ⟨d, hd, ed⟩, n⟩
theorem cols_hd {l : List Cell} {p : Pc} {c : Nat} {r : List Nat} (h : colsP l p = c :: r) : c < l.length ∧ pcO (celAt l c) = some p := by
  have hm : c ∈ colsP l p := by rw [h]; exact List.mem_cons_self
  unfold colsP at hm
  obtain ⟨q, hq, e⟩ := List.mem_map.mp hm
  obtain ⟨h1, h2⟩ := List.mem_filter.mp hq
  have h3 := mem_zipIdx (x := q.1) (i := q.2) h1
  rw [e] at h3
  refine ⟨(List.getElem?_eq_some_iff.mp h3).1, ?_⟩
  unfold celAt
  rw [h3]
  exact of_decide_eq_true h2

structure Good (t : Tb) (put : Pc → Nat) (s : Scr Cell) : Prop where
  le : ∀ p, put p ≤ lenP t p
  tot : ∀ p, upN p s + curN p s ≤ put p
  st : ∀ p, staysB t p = true → upN p s + curN p s = put p
  sh : ∀ p, staysB t p = false → upN p s = 0 ∨ upN p s + curN p s = put p
  at_ : ∀ (c : Nat) (x : Str × Nat × Nat), s.cur[c]? = some (some x) → x.2.2 - c = upN (x.1, x.2.1) s
  mx : ∀ r ∈ s.up, mixedR r = false
def Doom (t : Tb) (D : Pc → Prop) (s : Scr Cell) : Prop := (∃ r ∈ s.up, mixedR r = true) ∨ (∃ p, D p ∧ staysB t p = true ∧ upN p s + curN p s < lenP t p) ∨ ∃ p, D p ∧ staysB t p = false ∧ 0 < upN p s ∧ upN p s + curN p s < lenP t p
section
variable {t : Tb} {s : Scr Cell} {D : Pc → Prop} {w : Nat} {me : Pc} {put : Pc → Nat}
theorem up_flat {l : List (List Cell)} {r : List Cell} {p : Pc} : (l ++ [r]).flatten.countP (isP p) = l.flatten.countP (isP p) + r.countP (isP p) := by
  rw [List.flatten_append, List.countP_append]; simp
theorem rep_cnt {n : Nat} {p : Pc} : (List.replicate n (none : Cell)).countP (isP p) = 0 := by
  rw [List.countP_eq_zero]
  intro c hc
  rw [(List.mem_replicate.mp hc).2]
  exact Bool.false_ne_true
theorem down_up {b : Bool} {p : Pc} : upN p (sDown w none b s) = upN p s + curN p s := up_flat
theorem down_cur {b : Bool} {p : Pc} : curN p (sDown w none b s) = 0 := rep_cnt
theorem set_cnt (l : List Cell) (c : Nat) (x : Cell) (p : Pc) (h : c < l.length) : (l.set c x).countP (isP p) + (if isP p (celAt l c) = true then 1 else 0) = l.countP (isP p) + (if isP p x = true then 1 else 0) := by
  induction l generalizing c with
  | nil => exact absurd h (Nat.not_lt_zero _)
  | cons a l ih =>
    cases c with
    | zero =>
      show (x :: l).countP _ + _ = _
      rw [List.countP_cons, List.countP_cons]
      have e : celAt (a :: l) 0 = a := rfl
      rw [e]; omega
    | succ c =>
      show (a :: l.set c x).countP _ + _ = _
      rw [List.countP_cons, List.countP_cons]
      have e : celAt (a :: l) (c + 1) = celAt l c := by unfold celAt; rw [List.getElem?_cons_succ]
      rw [e]
      have := ih c (Nat.lt_of_succ_lt_succ h)
      omega
theorem Doom.down {b : Bool} (h : Doom t D s) : Doom t D (sDown w none b s) := by
  rcases h with ⟨r, hr, e⟩ | ⟨p, d, e, h⟩ | ⟨p, d, e, h1, h2⟩
  · exact .inl ⟨r, List.mem_append_left _ hr, e⟩
  · exact .inr (.inl ⟨p, d, e, by rw [down_up, down_cur]; omega⟩)
  · exact .inr (.inr ⟨p, d, e, by rw [down_up]; omega, by rw [down_up, down_cur]; omega⟩)
theorem Doom.cur {s' : Scr Cell} (h : Doom t D s) (hu : s'.up = s.up) (hc : ∀ p, D p → curN p s' ≤ curN p s) : Doom t D s' := by
  have e0 : ∀ p, upN p s' = upN p s := fun p => by unfold upN; rw [hu]
  rcases h with ⟨r, hr, e⟩ | ⟨p, d, e, h⟩ | ⟨p, d, e, h1, h2⟩
  · exact .inl ⟨r, by rw [hu]; exact hr, e⟩
  · exact .inr (.inl ⟨p, d, e, by rw [e0]; have := hc p d; omega⟩)
  · exact .inr (.inr ⟨p, d, e, by rw [e0]; exact h1, by rw [e0]; have := hc p d; omega⟩)
end
end LK
set_option Elab.async false
set_option linter.all false
set_option maxRecDepth 100000
set_option maxHeartbeats 1000000
namespace LK
open PySem PySem.Spec PyProof.Rows L2 DL
structure GoodM (t : Tb) (me : Pc) (put : Pc → Nat) (s : Scr Cell) : Prop where
  g : Good t put s
  mt : upN me s + curN me s = put me
  nx : put me - s.co = upN me s
structure RelS (t : Tb) (w : Nat) (D : Pc → Prop) (A : Prop) (me : Pc) (put : Pc → Nat) (s : Scr Cell) (r : Rw) : Prop where
  ok : SOk w s
  cl : r.cells = s.cur
  co : r.co = s.co
  gd : r.sp = false → GoodM t me put s
  dm : r.sp = true → A ∨ Doom t D s
  fr : ∀ (c : Nat) (x : Str × Nat × Nat), s.co ≤ c → s.cur[c]? = some (some x) → D (x.1, x.2.1)
  al : ∀ x : Str × Nat × Nat, some x ∈ s.cur → D (x.1, x.2.1) ∨ (x.1, x.2.1) = me
section
variable {t : Tb} {w : Nat} {D : Pc → Prop} {A : Prop} {me : Pc} {put : Pc → Nat} {s : Scr Cell} {r : Rw}
theorem isP_some {p : Pc} {x : Str × Nat × Nat} : isP p (some x) = decide ((x.1, x.2.1) = p) := by
  unfold isP pcO
  simp
theorem isP_none {p : Pc} : isP p none = false := rfl
theorem mem_at {l : List Cell} {c : Nat} {x : Cell} (h : l[c]? = some x) : x ∈ l := List.mem_of_getElem? h
theorem begun_up (g : Good t put s) {p : Pc} (h : 0 < curN p s) : begunP s.cur p = upN p s := by
  unfold begunP
  cases e : colsP s.cur p with
  | nil =>
    have h2 := colsP_len s.cur p
    rw [e] at h2
    exact absurd h (by unfold curN; rw [← h2]; exact Nat.lt_irrefl 0)
  | cons c r =>
    obtain ⟨h1, h2⟩ := cols_hd e
    show idxC (celAt s.cur c) - c = _
    have h3 : s.cur[c]? = some (celAt s.cur c) := by unfold celAt; rw [List.getElem?_eq_getElem h1]; rfl
    cases ec : celAt s.cur c with
    | none => rw [ec] at h2; cases h2
    | some x =>
      rw [ec] at h2 h3
      have e2 : (x.1, x.2.1) = p := by simpa [pcO] using h2
      rw [← e2]
      exact g.at_ c x h3
theorem torn_iff (g : Good t put s) {p : Pc} (h : 0 < curN p s) : tornP t s.cur p = true ↔ upN p s + curN p s < lenP t p := by
  unfold tornP
  rw [begun_up g h, colsP_len, decide_eq_true_iff]
  show curN p s < lenP t p - upN p s ↔ _
  omega
theorem pc_cur {p : Pc} (h : p ∈ pcsR s.cur) : 0 < curN p s ∧ ∃ x : Str × Nat × Nat, some x ∈ s.cur ∧ (x.1, x.2.1) = p := by
  refine ⟨pcs_cnt.mp h, ?_⟩
  obtain ⟨c, hc, e⟩ := pcs_mem.mp h
  cases c with
  | none => cases e
  | some x => exact ⟨x, hc, by simpa [pcO] using e⟩
theorem RelS.leave (h : RelS t w D A me put s r) {wr b : Bool} (hm : wr = false → put me = lenP t me ∨ put me = 0) : RelS t w D A me put (sDown w none b s) (rLeave t me wr r) := by
  have hl := h.cl
  have ns : ∀ x : Str × Nat × Nat, some x ∉ (sDown w none b s).cur := fun x hx => by
    have := (List.mem_replicate.mp (show some x ∈ List.replicate w none from hx)).2
    cases this
  refine ⟨h.ok.down, ?_, rfl, ?_, ?_, fun c x _ hc => absurd (mem_at hc) (ns x), fun x hx => absurd hx (ns x)⟩
  · show List.replicate r.cells.length none = List.replicate w none
    rw [hl, h.ok.cl]
  · intro hs
    have hs : (r.sp || badLeave t me wr r.cells) = false := hs
    obtain ⟨h1, h2⟩ := Bool.or_eq_false_iff.mp hs
    have gm := h.gd h1
    have g := gm.g
    rw [hl] at h2
    unfold badLeave at h2
    obtain ⟨h3, h4⟩ := Bool.or_eq_false_iff.mp h2
    have ht : ∀ p, upN p (sDown w none b s) + curN p (sDown w none b s) = upN p s + curN p s := fun p => by rw [down_up, down_cur]; rfl
    refine ⟨⟨g.le, fun p => by rw [ht]; exact g.tot p, fun p e => by rw [ht]; exact g.st p e, fun p e => ?_, fun c x hc => absurd (mem_at hc) (ns x), ?_⟩, ?_, ?_⟩
    · rw [ht, down_up]
      by_cases hc : curN p s = 0
      · rw [hc]
        have := g.sh p e
        rw [hc] at this
        exact this
      · by_cases ep : p = me
        · exact .inr (by rw [ep]; exact gm.mt)
        · have hp : p ∈ pcsR s.cur := pcs_cnt.mpr (Nat.pos_of_ne_zero hc)
          have h5 := List.any_eq_false.mp h4 p hp
          rw [decide_eq_false ep, Bool.and_false, Bool.not_false, Bool.true_and, e, Bool.not_false, Bool.true_and] at h5
          have h6 := mt (torn_iff g (Nat.pos_of_ne_zero hc)).mpr h5
          have h7 := g.tot p
          have h8 := g.le p
          exact .inr (by omega)
    · intro q hq
      rcases List.mem_append.mp hq with hq | hq
      · exact g.mx q hq
      · rw [List.mem_singleton.mp hq]; exact h3
    · rw [ht]; exact gm.mt
    · rw [down_up]
      show put me - 0 = _
      rw [gm.mt]; omega
  · intro hs
    have hs : (r.sp || badLeave t me wr r.cells) = true := hs
    by_cases h1 : r.sp = true
    · exact (h.dm h1).imp id Doom.down
    · have h1 : r.sp = false := by simpa using h1
      rw [h1, Bool.false_or, hl] at hs
      have gm := h.gd h1
      have g := gm.g
      unfold badLeave at hs
      rcases Bool.or_eq_true_iff.mp hs with h3 | h4
      · exact .inr (.inl ⟨s.cur, List.mem_append_right _ List.mem_cons_self, h3⟩)
      · obtain ⟨p, hp, hb⟩ := List.any_eq_true.mp h4
        simp only [Bool.and_eq_true, Bool.not_eq_true'] at hb
        obtain ⟨hb1, hb2, hb3⟩ := hb
        obtain ⟨hc, x, hx, ex⟩ := pc_cur hp
        have ht := (torn_iff g hc).mp hb3
        have hD : D p := by
          rcases h.al x hx with d | d
          · rw [← ex]; exact d
          · rw [ex] at d
            exfalso
            subst d
            cases wr with
            | true => simp at hb1
            | false =>
              have := gm.mt
              rcases hm rfl with e | e <;> omega
        exact .inr (.inr (.inr ⟨p, hD, hb2, by rw [down_up]; omega, by rw [down_up, down_cur]; omega⟩))
theorem take_cnt (h : SOk w s) {c : Nat} (hc : c < w) {x : Cell} (p : Pc) : (s.cur.set c x).countP (isP p) + (if isP p (celAt s.cur c) = true then 1 else 0) = curN p s + (if isP p x = true then 1 else 0) := set_cnt _ _ _ _ (by rw [h.cl]; exact hc)
theorem RelS.take (h : RelS t w D A me put s r) (dn : ¬ D me) (dl : ∀ p, D p → put p = lenP t p) {c : Nat} (h1 : s.co ≤ c) (hc : c < w) : RelS t w D A me put { s with cur := s.cur.set c none } (rTake t c r) := by
  have hl := h.cl
  have hlen : c < s.cur.length := by rw [h.ok.cl]; exact hc
  have ex : s.cur[c]? = some (celAt s.cur c) := by unfold celAt; rw [List.getElem?_eq_getElem hlen]; rfl
  have eu : ∀ p, upN p ({ s with cur := s.cur.set c none } : Scr Cell) = upN p s := fun p => rfl
  have ec : ∀ p, curN p ({ s with cur := s.cur.set c none } : Scr Cell) + (if isP p (celAt s.cur c) = true then 1 else 0) = curN p s := fun p => by
    have := take_cnt h.ok hc (x := none) p
    rw [isP_none] at this
    exact this
  have oth : ∀ (k : Nat) (x : Str × Nat × Nat), (s.cur.set c none)[k]? = some (some x) → s.cur[k]? = some (some x) := fun k x hk => by
    by_cases e : c = k
    · subst e
      rw [List.getElem?_set_self hlen] at hk
      cases hk
    · rw [List.getElem?_set_ne e] at hk
      exact hk
  have omem : ∀ x : Str × Nat × Nat, some x ∈ s.cur.set c none → some x ∈ s.cur := fun x hx => by
    obtain ⟨k, hk⟩ := List.mem_iff_getElem?.mp hx
    exact mem_at (oth k x hk)
  refine ⟨⟨h.ok.w1, h.ok.w99, by rw [List.length_set]; exact h.ok.cl, h.ok.ul, h.ok.jl, h.ok.j0, h.ok.cw⟩, by show r.cells.set c none = _; rw [hl], h.co, ?_, ?_, fun k x hk hx => h.fr k x hk (oth k x hx), fun x hx => h.al x (omem x hx)⟩
  · intro hs
    have hs : (r.sp || hardC t (celAt r.cells c) c) = false := hs
    obtain ⟨h2, h3⟩ := Bool.or_eq_false_iff.mp hs
    rw [hl] at h3
    have gm := h.gd h2
    have g := gm.g
    cases ev : celAt s.cur c with
    | none =>
      rw [ev] at ec
      have ec' : ∀ p, curN p ({ s with cur := s.cur.set c none } : Scr Cell) = curN p s := fun p => by have := ec p; rw [isP_none] at this; simpa using this
      exact ⟨⟨g.le, fun p => by rw [eu, ec']; exact g.tot p, fun p e => by rw [eu, ec']; exact g.st p e, fun p e => by rw [eu, ec']; exact g.sh p e, fun k x hk => g.at_ k x (oth k x hk), g.mx⟩, by rw [eu, ec']; exact gm.mt, gm.nx⟩
    | some x =>
      rw [ev] at ec ex h3
      have hD := h.fr c x h1 ex
      have h3 : (staysB t (x.1, x.2.1) || decide (c < x.2.2)) = false := h3
      obtain ⟨h4, h5⟩ := Bool.or_eq_false_iff.mp h3
      have h6 : upN (x.1, x.2.1) s = 0 := by
        rw [← g.at_ c x ex]
        have := of_decide_eq_false h5
        omega
      have ne : ∀ p, p ≠ (x.1, x.2.1) → curN p ({ s with cur := s.cur.set c none } : Scr Cell) = curN p s := fun p hp => by
        have := ec p
        rw [isP_some, decide_eq_false (fun z => hp z.symm)] at this
        simpa using this
      refine ⟨⟨g.le, fun p => ?_, fun p e => ?_, fun p e => ?_, fun k x hk => g.at_ k x (oth k x hk), g.mx⟩, ?_, gm.nx⟩
      · rw [eu]; have := ec p; have := g.tot p; omega
      · rw [eu, ne p (fun z => by rw [z, h4] at e; cases e)]; exact g.st p e
      · by_cases ep : p = (x.1, x.2.1)
        · exact .inl (by rw [eu, ep]; exact h6)
        · rw [eu, ne p ep]; exact g.sh p e
      · rw [eu, ne me (fun z => dn (by rw [z]; exact hD))]; exact gm.mt
  · intro hs
    have hs : (r.sp || hardC t (celAt r.cells c) c) = true := hs
    by_cases h2 : r.sp = true
    · exact (h.dm h2).imp id fun d => d.cur rfl fun p _ => by have := ec p; omega
    · have h2 : r.sp = false := by simpa using h2
      rw [h2, Bool.false_or, hl] at hs
      have gm := h.gd h2
      have g := gm.g
      cases ev : celAt s.cur c with
      | none => rw [ev] at hs; cases hs
      | some x =>
        rw [ev] at hs ec ex
        have hD := h.fr c x h1 ex
        have e1 := ec (x.1, x.2.1)
        rw [isP_some, decide_eq_true rfl, if_pos rfl] at e1
        have e2 := g.tot (x.1, x.2.1)
        have e3 := dl _ hD
        have hs : (staysB t (x.1, x.2.1) || decide (c < x.2.2)) = true := hs
        right
        cases est : staysB t (x.1, x.2.1) with
        | true => exact .inr (.inl ⟨_, hD, est, by rw [eu]; omega⟩)
        | false =>
          rw [est, Bool.false_or] at hs
          have e4 := of_decide_eq_true hs
          have e5 := g.at_ c x ex
          exact .inr (.inr ⟨_, hD, est, by rw [eu]; omega, by rw [eu]; omega⟩)
theorem RelS.eraseK (h : RelS t w D A me put s r) (dn : ¬ D me) (dl : ∀ p, D p → put p = lenP t p) : ∀ k, s.co + k ≤ w → RelS t w D A me put { s with cur := s.cur.take s.co ++ List.replicate k none ++ s.cur.drop (s.co + k) } ((List.range' s.co k).foldl (fun r c => rTake t c r) r)
  | 0, _ => by
    have e : s.cur.take s.co ++ List.replicate 0 none ++ s.cur.drop (s.co + 0) = s.cur := by simp
    rw [e]; exact h
  | k + 1, hk => by
    have ih := RelS.eraseK h dn dl k (by omega)
    have e : List.range' s.co (k + 1) = List.range' s.co k ++ [s.co + k] := by rw [List.range'_concat]; simp
    rw [e, List.foldl_append]
    have h2 := ih.take dn dl (c := s.co + k) (Nat.le_add_right _ _) (by omega)
    have e2 := er_step (l := s.cur) (c := s.co) (k := k) (e := (none : Cell)) (by rw [h.ok.cl]; omega)
    have h3 : RelS t w D A me put { s with cur := (s.cur.take s.co ++ List.replicate k none ++ s.cur.drop (s.co + k)).set (s.co + k) none } _ := h2
    rw [e2] at h3
    exact h3
theorem RelS.erase (h : RelS t w D A me put s r) (dn : ¬ D me) (dl : ∀ p, D p → put p = lenP t p) : RelS t w D A me put (sErase none s) (rErase t r) := by
  have h1 := h.ok.cl
  have h2 := h.ok.cw
  have h3 := h.eraseK dn dl (w - s.co) (by omega)
  have e : s.cur.drop (s.co + (w - s.co)) = [] := List.drop_of_length_le (by omega)
  rw [e, List.append_nil] at h3
  unfold rErase sErase
  rw [h.co, h.cl, h1]
  exact h3
theorem RelS.put1 {j : Nat} (h : RelS t w D A me put s r) (dn : ¬ D me) (dl : ∀ p, D p → put p = lenP t p) (hc : s.co < w) (hj : put me = j) (hl : j < lenP t me) : RelS t w D A me (fun p => if p = me then j + 1 else put p) (sPut1 (some (me.1, me.2, j)) s) (rPut1 t (some (me.1, me.2, j)) r) := by
  have k := h.take dn dl (Nat.le_refl _) hc
  have hlen : s.co < s.cur.length := by rw [h.ok.cl]; exact hc
  have e0 : (s.cur.set s.co none).set s.co (some (me.1, me.2, j)) = s.cur.set s.co (some (me.1, me.2, j)) := List.set_set ..
  have ok' : SOk w (sPut1 (some (me.1, me.2, j)) s) := h.ok.put1 hc
  -- counts behind the sign, from those behind the taking
  have eu : ∀ p, upN p (sPut1 (some (me.1, me.2, j)) s) = upN p s := fun p => rfl
  have ec : ∀ p, curN p (sPut1 (some (me.1, me.2, j)) s) = curN p ({ s with cur := s.cur.set s.co none } : Scr Cell) + (if p = me then 1 else 0) := fun p => by
    have h1 := take_cnt h.ok hc (x := none) p
    have h2 := take_cnt h.ok hc (x := some (me.1, me.2, j)) p
    rw [isP_none] at h1
    rw [isP_some] at h2
    show (s.cur.set s.co (some (me.1, me.2, j))).countP (isP p) = (s.cur.set s.co none).countP (isP p) + _
    by_cases e : p = me
    · subst e
      rw [if_pos rfl]
      rw [decide_eq_true rfl, if_pos rfl] at h2
      simp only [Bool.false_eq_true, if_false] at h1
      omega
    · rw [if_neg e]
      rw [decide_eq_false (fun z => e z.symm)] at h2
      simp only [Bool.false_eq_true, if_false] at h1 h2
      omega
  have oth : ∀ (c : Nat) (x : Str × Nat × Nat), (s.cur.set s.co (some (me.1, me.2, j)))[c]? = some (some x) → (c = s.co ∧ x = (me.1, me.2, j)) ∨ (c ≠ s.co ∧ s.cur[c]? = some (some x)) := fun c x hx => by
    by_cases e : s.co = c
    · subst e
      rw [List.getElem?_set_self hlen] at hx
      exact .inl ⟨rfl, (Option.some.inj (Option.some.inj hx)).symm⟩
    · rw [List.getElem?_set_ne e] at hx
      exact .inr ⟨fun z => e z.symm, hx⟩
  refine ⟨ok', ?_, by show r.co + 1 = s.co + 1; rw [h.co], ?_, ?_, ?_, ?_⟩
  · show ((rTake t r.co r).cells.set r.co _) = s.cur.set s.co _
    show (r.cells.set r.co none).set r.co _ = _
    rw [h.co, h.cl, e0]
  · intro hs
    have hs2 : (rTake t s.co r).sp = false := by rw [← h.co]; exact hs
    have gm := k.gd hs2
    have g := gm.g
    refine ⟨⟨fun p => ?_, fun p => ?_, fun p e => ?_, fun p e => ?_, fun c x hx => ?_, g.mx⟩, ?_, ?_⟩
    · show (if p = me then j + 1 else put p) ≤ _
      split
      · rename_i e; rw [e]; exact hl
      · exact g.le p
    · show _ ≤ (if p = me then j + 1 else put p)
      rw [eu, ec]
      have h1 := g.tot p
      have h1 : upN p s + curN p ({ s with cur := s.cur.set s.co none } : Scr Cell) ≤ put p := h1
      split
      · rename_i e; rw [e] at h1 ⊢; omega
      · omega
    · show _ = (if p = me then j + 1 else put p)
      rw [eu, ec]
      have h1 : upN p s + curN p ({ s with cur := s.cur.set s.co none } : Scr Cell) = put p := g.st p e
      split
      · rename_i e; rw [e] at h1 ⊢; omega
      · omega
    · show _ ∨ _ = (if p = me then j + 1 else put p)
      rw [eu, ec]
      have h1 : upN p s = 0 ∨ upN p s + curN p ({ s with cur := s.cur.set s.co none } : Scr Cell) = put p := g.sh p e
      split
      · rename_i e
        rw [e]
        have h2 : upN me s + curN me ({ s with cur := s.cur.set s.co none } : Scr Cell) = put me := gm.mt
        exact .inr (by omega)
      · exact h1.imp id fun z => by omega
    · rcases oth c x hx with ⟨e1, e2⟩ | ⟨e1, e2⟩
      · rw [e1, e2, eu]
        have h2 : put me - s.co = upN me s := gm.nx
        show j - s.co = upN me s
        rw [← h2, hj]
      · rw [eu]
        have := g.at_ c x (by show (s.cur.set s.co none)[c]? = _; rw [List.getElem?_set_ne (fun z => e1 z.symm)]; exact e2)
        exact this
    · show _ = (if me = me then j + 1 else put me)
      rw [if_pos rfl, eu, ec, if_pos rfl]
      have h2 : upN me s + curN me ({ s with cur := s.cur.set s.co none } : Scr Cell) = put me := gm.mt
      omega
    · show (if me = me then j + 1 else put me) - (s.co + 1) = _
      rw [if_pos rfl, eu]
      have h2 : put me - s.co = upN me s := gm.nx
      omega
  · intro hs
    have hs2 : (rTake t s.co r).sp = true := by
      rw [← h.co]; exact hs
    refine (k.dm hs2).imp id fun d => ?_
    exact d.cur rfl fun p hp => by
      rw [ec, if_neg (fun z => dn (by rw [← z]; exact hp))]
      exact Nat.le_refl _
  · intro c x hc' hx
    have hc' : s.co + 1 ≤ c := hc'
    rcases oth c x hx with ⟨e1, e2⟩ | ⟨e1, e2⟩
    · omega
    · exact h.fr c x (by omega) e2
  · intro x hx
    obtain ⟨c, hc'⟩ := List.mem_iff_getElem?.mp hx
    rcases oth c x hc' with ⟨e1, e2⟩ | ⟨e1, e2⟩
    · rw [e2]; exact .inr rfl
    · exact h.al x (mem_at e2)
end
end LK
set_option Elab.async false
set_option linter.all false
set_option maxRecDepth 100000
set_option maxHeartbeats 1000000
namespace LK
open PySem PySem.Spec PyProof.Rows L2 DL
section
variable {t : Tb} {w : Nat} {D : Pc → Prop} {A : Prop} {me : Pc} {put : Pc → Nat} {s : Scr Cell} {r : Rw}
theorem RelS.putS {j : Nat} (h : RelS t w D A me put s r) (dn : ¬ D me) (dl : ∀ p, D p → put p = lenP t p) (hj : put me = j) (hl : j < lenP t me) : RelS t w D A me (fun p => if p = me then j + 1 else put p) (sPut w none s (some (me.1, me.2, j))) (rPut t me r j) := by
  unfold sPut rPut sWrap rWrap
  have e : (r.co = r.cells.length) = (s.co = w) := by rw [h.co, h.cl, h.ok.cl]
  simp only [e]
  by_cases hw : s.co = w
  · rw [if_pos hw, if_pos hw]
    exact (h.leave (wr := true) (b := true) (fun z => nomatch z)).put1 dn dl (by show 0 < w; have := h.ok.w1; omega) hj hl
  · rw [if_neg hw, if_neg hw]
    exact h.put1 dn dl (by have := h.ok.cw; omega) hj hl
theorem upd_put (j : Nat) : (fun p => if p = me then j + 1 else (fun p => if p = me then j else put p) p) = fun p => if p = me then j + 1 else put p := by
  funext p
  show (if p = me then j + 1 else if p = me then j else put p) = _
  split <;> rfl
theorem RelS.typeK (h : RelS t w D A me put s r) (dn : ¬ D me) (dl : ∀ p, D p → put p = lenP t p) (h0 : put me = 0) : ∀ k, k ≤ lenP t me → RelS t w D A me (fun p => if p = me then k else put p) (((List.range k).map fun j => (some (me.1, me.2, j) : Cell)).foldl (sPut w none) s) ((List.range k).foldl (rPut t me) r)
  | 0, _ => by
    have e : (fun p => if p = me then 0 else put p) = put := by
      funext p
      split
      · rename_i z; rw [z, h0]
      · rfl
    rw [e]; exact h
  | k + 1, hk => by
    have ih := RelS.typeK h dn dl h0 k (by omega)
    rw [List.range_succ, List.map_append, List.foldl_append, List.foldl_append]
    have h2 := ih.putS dn (fun p hp => by
      show (if p = me then k else put p) = _
      rw [if_neg (fun z => dn (by rw [← z]; exact hp))]; exact dl p hp) (j := k) (by show (if me = me then k else put me) = k; rw [if_pos rfl]) (by omega)
    rw [upd_put] at h2
    exact h2
theorem things_eq : thingsO t me.1 me.2 = (List.range (lenP t me)).map fun j => (some (me.1, me.2, j) : Cell) := rfl
theorem RelS.type (h : RelS t w D A me put s r) (dn : ¬ D me) (dl : ∀ p, D p → put p = lenP t p) (h0 : put me = 0) : RelS t w D A me (fun p => if p = me then lenP t me else put p) (sType w none s (thingsO t me.1 me.2)) (rType t me r) := by
  unfold sType rType
  rw [things_eq]
  exact h.typeK dn dl h0 _ (Nat.le_refl _)
theorem RelS.word3 (h : RelS t w D A me put s r) (hm : put me = lenP t me ∨ put me = 0) {wd : Str} : RelS t w D A me put (sWord3 w none wd s) (rWord3 t me wd r) := by
  unfold sWord3 rWord3
  rw [h.co]
  split
  · exact h.leave (wr := false) fun _ => hm
  · exact h
theorem RelS.word2 (h : RelS t w D A me put s r) (dn : ¬ D me) (dl : ∀ p, D p → put p = lenP t p) {wd : Str} : RelS t w D A me put (sWord2 none wd s) (rWord2 t wd r) := by
  unfold sWord2 rWord2
  split
  · exact h.erase dn dl
  · exact h
theorem RelS.tail (h : RelS t w D A me put s r) (dn : ¬ D me) (dl : ∀ p, D p → put p = lenP t p) (hm : put me = lenP t me) {wd : Str} (hw : wd ∈ tails) : RelS t w D A me put (sWord w none wd s) (rWord t me wd r) := by
  have e1 : sWord1 wd s = s := by
    unfold sWord1
    rw [if_neg]
    rintro (e | e) <;> subst e <;> exact absurd hw (by decide)
  have e2 : rWord1 wd r = r := by
    unfold rWord1
    rw [if_neg]
    rintro (e | e) <;> subst e <;> exact absurd hw (by decide)
  unfold sWord rWord
  rw [e1, e2]
  exact (h.word2 dn dl).word3 (.inl hm)
theorem RelS.lead (h : RelS t w D A me put s r) (dn : ¬ D me) (dl : ∀ p, D p → put p = lenP t p) (h0 : put me = 0) (ha : ∀ x : Str × Nat × Nat, some x ∈ s.cur → D (x.1, x.2.1)) {wd : Str} : RelS t w D A me put (sWord w none wd s) (rWord t me wd r) := by
  have h1 : RelS t w D A me put (sWord1 wd s) (rWord1 wd r) := by
    unfold sWord1 rWord1
    split
    · refine ⟨⟨h.ok.w1, h.ok.w99, h.ok.cl, h.ok.ul, h.ok.jl, h.ok.j0, Nat.zero_le _⟩, h.cl, rfl, fun hs => ?_, h.dm, fun c x _ hc => ha x (mem_at hc), h.al⟩
      have gm := h.gd hs
      refine ⟨⟨gm.g.le, gm.g.tot, gm.g.st, gm.g.sh, gm.g.at_, gm.g.mx⟩, gm.mt, ?_⟩
      have := gm.nx
      have h2 := gm.g.tot me
      show put me - 0 = upN me s
      omega
    · exact h
  unfold sWord rWord
  exact (h1.word2 dn dl).word3 (.inr h0)
theorem RelS.reply (h : RelS t w D A me put s r) (ha : (wrAt t me.1 me.2).k = "reply" → notAsk t me r = true → A) : RelS t w D A me put s (rReply t me r) := by
  unfold rReply
  split
  · rename_i e
    refine ⟨h.ok, h.cl, h.co, fun hs => h.gd (Bool.or_eq_false_iff.mp hs).1, fun hs => ?_, h.fr, h.al⟩
    rcases Bool.or_eq_true_iff.mp hs with z | z
    · exact h.dm z
    · exact .inl (ha e z)
  · exact h
theorem RelS.perf (o : TbOk t) (h : RelS t w D A me put s r) (dn : ¬ D me) (dl : ∀ p, D p → put p = lenP t p) (h0 : put me = 0) (ha : ∀ x : Str × Nat × Nat, some x ∈ s.cur → D (x.1, x.2.1)) (hk : me.2 < Fits.lenT' t me.1) (hA : (wrAt t me.1 me.2).k = "reply" → notAsk t me r = true → A) :
    RelS t w D A me (fun p => if p = me then lenP t me else put p) (sWord w none (wrAt t me.1 me.2).e (sType w none (sWord w none (wrAt t me.1 me.2).l s) (thingsO t me.1 me.2))) (rPerf t me r) := by
  obtain ⟨ws, _, _, gw, _⟩ := wr_at o hk
  unfold rPerf
  refine RelS.tail (RelS.type (RelS.reply (h.lead dn dl h0 ha) fun e hn => ?_) dn dl h0) dn (fun p hp => ?_) (by show (if me = me then _ else _) = _; rw [if_pos rfl]) gw.g.ge
  · have el : (wrAt t me.1 me.2).l = "" := gw.g.gr e
    rw [el] at hn
    have e2 : rWord t me "" r = r := by
      unfold rWord rWord1 rWord2 rWord3
      have h1 : ¬ ((("" : Str) = "return") ∨ (("" : Str) = "wipe")) := by decide
      have h2 : ¬ ((("" : Str) = "wipe") ∨ (("" : Str) = "erase")) := by decide
      have h3 : ¬ (("" : Str) = "newline") := by decide
      have h4 : ¬ (("" : Str) = "fresh") := by decide
      rw [if_neg h1, if_neg h2, if_neg (fun z => z.elim h3 fun z => h4 z.1)]
    rw [e2] at hn
    exact hA e hn
  · show (if p = me then _ else put p) = _
    rw [if_neg (fun z => dn (by rw [← z]; exact hp))]
    exact dl p hp
theorem RelS.next (h : RelS t w D A me (fun p => if p = me then lenP t me else put p) s r) (dl : ∀ p, D p → put p = lenP t p) : (∀ x : Str × Nat × Nat, some x ∈ s.cur → (fun p => D p ∨ p = me) (x.1, x.2.1)) ∧ (r.sp = true → A ∨ Doom t (fun p => D p ∨ p = me) s) := by
  refine ⟨h.al, fun hs => (h.dm hs).imp id fun d => ?_⟩
  rcases d with d | ⟨p, h1, h2⟩ | ⟨p, h1, h2⟩
  · exact .inl d
  · exact .inr (.inl ⟨p, .inl h1, h2⟩)
  · exact .inr (.inr ⟨p, .inl h1, h2⟩)
end
end LK
set_option Elab.async false
set_option linter.all false
set_option maxRecDepth 100000
set_option maxHeartbeats 1000000
namespace LK
open PySem PySem.Spec PyProof.Rows L2 DL
section
variable {t : Tb} {w : Nat} {me : Pc} {r : Rw}
theorem sp_leave {wr : Bool} (h : r.sp = true) : (rLeave t me wr r).sp = true := by
  show (r.sp || _) = true
  rw [h]; rfl
theorem sp_take {c : Nat} (h : r.sp = true) : (rTake t c r).sp = true := by
  show (r.sp || _) = true
  rw [h]; rfl
theorem sp_fold {α : Type} {f : Rw → α → Rw} (hf : ∀ r a, r.sp = true → (f r a).sp = true) : ∀ (l : List α) (r : Rw), r.sp = true → (l.foldl f r).sp = true
  | [], _, h => h
  | a :: l, r, h => sp_fold hf l (f r a) (hf r a h)
theorem sp_word {wd : Str} (h : r.sp = true) : (rWord t me wd r).sp = true := by
  have h1 : (rWord1 wd r).sp = true := by unfold rWord1; split <;> exact h
  have h2 : (rWord2 t wd (rWord1 wd r)).sp = true := by
    unfold rWord2
    split
    · exact sp_fold (fun r a h => sp_take h) _ _ h1
    · exact h1
  unfold rWord rWord3
  split
  · exact sp_leave h2
  · exact h2
theorem sp_put {j : Nat} (h : r.sp = true) : (rPut t me r j).sp = true := by
  have h1 : (rWrap t me r).sp = true := by
    unfold rWrap
    split
    · exact sp_leave h
    · exact h
  exact sp_take h1
theorem sp_reply (h : r.sp = true) : (rReply t me r).sp = true := by
  unfold rReply
  split
  · show (r.sp || _) = true
    rw [h]; rfl
  · exact h
theorem sp_perf' (h : (rReply t me (rWord t me (wrAt t me.1 me.2).l r)).sp = true) : (rPerf t me r).sp = true := sp_word (sp_fold (fun r a h => sp_put h) _ _ h)
theorem sp_perf (h : r.sp = true) : (rPerf t me r).sp = true := sp_perf' (sp_reply (sp_word h))
end
structure Sit where
  cs : List Nat
  b : Str
  co : Nat
  cl : List Cell
def sit0 (t : Tb) (w : Nat) : Sit := ⟨List.replicate t.length 0, "", 0, List.replicate w none⟩
def rwN (t : Tb) (s : Sit) (me : Pc) : Rw := rPerf t me ⟨s.cl, s.co, false⟩
def sitC (t : Tb) (few : List Pc) (me : Pc) (s : Sit) : Nat × List Cell := if s.cl = [] ∨ me ∈ few then (s.co, s.cl) else if (rwN t s me).sp = true then (0, []) else ((rwN t s me).co, (rwN t s me).cells)
def nextN (t : Tb) (cs : List Nat) (n : Str) : Nat := cAt cs ((nmT t).idxOf n)
def sitN (t : Tb) (hs few : List Pc) (s : Sit) (n : Str) : Sit := ⟨afterC t s.cs n, afterB t hs s.cs n, (sitC t few (n, nextN t s.cs n) s).1, (sitC t few (n, nextN t s.cs n) s).2⟩
def sitO (t : Tb) (hs few : List Pc) (w : Nat) (ns : List Str) : Sit := ns.foldl (sitN t hs few) (sit0 t w)
def endGood (t : Tb) (s : Sit) : Bool := !decide (s.cl = []) && !badLeave t ("", 0) false s.cl
theorem sitO_snoc {t : Tb} {hs few : List Pc} {w : Nat} {ns : List Str} {n : Str} : sitO t hs few w (ns ++ [n]) = sitN t hs few (sitO t hs few w ns) n := by
  unfold sitO
  rw [List.foldl_append]; rfl
theorem sitO_st {t : Tb} {hs few : List Pc} {w : Nat} (ns : List Str) : ((sitO t hs few w ns).cs, (sitO t hs few w ns).b) = stO t hs ns := by
  refine snoc_ind (Q := fun ns => ((sitO t hs few w ns).cs, (sitO t hs few w ns).b) = stO t hs ns) rfl (fun l a ih => ?_) ns
  rw [sitO_snoc, stO_snoc, ← ih]
  rfl
def doneB (ns : List Str) (p : Pc) : Prop := p.2 < ns.count p.1
def standN (p : Pc) (s : Scr Cell) : Nat := upN p s + curN p s
structure Faulty (t : Tb) (pg : Pg) (D : Pc → Prop) : Prop where
  f : pg.ap ≠ [] ∨ (∃ r ∈ pg.s.rows, mixedR r = true) ∨ ∃ p, D p ∧ ((staysB t p = true ∧ standN p pg.s < lenP t p) ∨ (staysB t p = false ∧ 0 < standN p pg.s ∧ standN p pg.s < lenP t p))
def putO (t : Tb) (ns : List Str) (p : Pc) : Nat := if p.2 < ns.count p.1 then lenP t p else 0
structure OutR (t : Tb) (w : Nat) (ns : List Str) (pg : Pg) (s : Sit) : Prop where
  ok : SOk w pg.s
  go : s.cl ≠ [] → s.cl = pg.s.cur ∧ s.co = pg.s.co ∧ pg.ap = [] ∧ Good t (putO t ns) pg.s
  no : s.cl = [] → pg.ap ≠ [] ∨ Doom t (doneB ns) pg.s
  fr : ∀ x : Str × Nat × Nat, some x ∈ pg.s.cur → doneB ns (x.1, x.2.1)
section
variable {t : Tb} {w : Nat} {ns : List Str} {pg : Pg} {s : Sit} {n : Str} {few : List Pc}
theorem done_snoc {p : Pc} : doneB (ns ++ [n]) p ↔ doneB ns p ∨ p = (n, ns.count n) := by
  unfold doneB
  rw [List.count_append, List.count_singleton]
  by_cases e : p.1 = n
  · have e2 : (n == p.1) = true := by rw [e]; exact beq_self_eq_true _
    rw [if_pos e2, e]
    constructor
    · intro h
      by_cases h2 : p.2 < ns.count n
      · exact .inl h2
      · exact .inr (Prod.ext e (by show p.2 = _; omega))
    · rintro (h | h)
      · omega
      · rw [h]; show List.count n ns < _; omega
  · have e2 : (n == p.1) = false := beq_eq_false_iff_ne.mpr fun z => e z.symm
    rw [e2]
    constructor
    · intro h
      exact .inl (by simpa using h)
    · rintro (h | h)
      · simpa using h
      · exact absurd (by rw [h]) e
theorem put_snoc : putO t (ns ++ [n]) = fun p => if p = (n, ns.count n) then lenP t (n, ns.count n) else putO t ns p := by
  funext p
  unfold putO
  by_cases h : p.2 < (ns ++ [n]).count p.1
  · rw [if_pos h]
    rcases (done_snoc (p := p)).mp h with h2 | h2
    · by_cases e : p = (n, ns.count n)
      · rw [if_pos e, e]
      · rw [if_neg e]
        exact (if_pos (show p.2 < ns.count p.1 from h2)).symm
    · rw [if_pos h2, h2]
  · rw [if_neg h]
    have h2 := mt (done_snoc (ns := ns) (n := n) (p := p)).mpr h
    rw [if_neg (fun z => h2 (.inr z))]
    exact (if_neg (show ¬ p.2 < ns.count p.1 from fun z => h2 (.inl z))).symm
theorem put_done {p : Pc} (h : doneB ns p) : putO t ns p = lenP t p := if_pos h
theorem me_not : ¬ doneB ns (n, ns.count n) := Nat.lt_irrefl _
theorem put_me : putO t ns (n, ns.count n) = 0 := if_neg me_not
theorem Good.m (g : Good t (putO t ns) pg.s) : GoodM t (n, ns.count n) (putO t ns) pg.s := by
  have h := g.tot (n, ns.count n)
  rw [put_me] at h
  exact ⟨g, by rw [put_me]; omega, by rw [put_me]; omega⟩
theorem notAsk_apart {r : Rw} (h1 : r.cells = pg.s.cur) (h2 : r.co = pg.s.co) {me : Pc} : apartB t pg me.1 me.2 = (decide ((wrAt t me.1 me.2).k = "reply") && notAsk t me r) := by
  unfold apartB notAsk
  rw [h1, h2]
theorem OutR.step (o : TbOk t) (h : OutR t w ns pg s) (hf : (n, ns.count n) ∉ few) (hk : ns.count n < Fits.lenT' t n) {c : Nat × List Cell} (hc : c = sitC t few (n, ns.count n) s) {cs : List Nat} {b : Str} : OutR t w (ns ++ [n]) (pgStep t few w pg n (ns.count n)) ⟨cs, b, c.1, c.2⟩ := by
  have es : (pgStep t few w pg n (ns.count n)).s = sWord w none (wrAt t n (ns.count n)).e (sType w none (sWord w none (wrAt t n (ns.count n)).l pg.s) (thingsO t n (ns.count n))) := by
    show scrStep t few w pg.s n (ns.count n) = _
    unfold scrStep
    rw [if_neg hf]
  have ea : (pgStep t few w pg n (ns.count n)).ap = if apartB t pg n (ns.count n) = true then pg.ap ++ [(n, ns.count n)] else pg.ap := rfl
  have okn : SOk w (pgStep t few w pg n (ns.count n)).s := h.ok.step
  by_cases hl : s.cl = []
  · -- it was lost already
    have R : RelS t w (doneB ns) (pg.ap ≠ [] ∨ apartB t pg n (ns.count n) = true) (n, ns.count n) (putO t ns) pg.s ⟨pg.s.cur, pg.s.co, true⟩ := ⟨h.ok, rfl, rfl, (fun z => nomatch z), fun _ => (h.no hl).imp .inl id, fun c x _ hx => h.fr x (mem_at hx), fun x hx => .inl (h.fr x hx)⟩
    have R2 := R.perf o me_not (fun p hp => put_done hp) put_me h.fr hk fun e hn => .inr (by
      rw [notAsk_apart (r := ⟨pg.s.cur, pg.s.co, true⟩) rfl rfl (me := (n, ns.count n)), hn, Bool.and_true]
      exact decide_eq_true e)
    have R3 := R2.next fun p hp => put_done hp
    have ec : c = (s.co, s.cl) := by rw [hc]; unfold sitC; rw [if_pos (.inl hl)]
    rw [← es] at R3
    refine ⟨okn, fun z => absurd (by rw [ec]; exact hl) z, fun _ => ?_, fun x hx => done_snoc.mpr (R3.1 x hx)⟩
    rcases R3.2 (sp_perf rfl) with (z | z) | z
    · left
      rw [ea]
      split
      · simp
      · exact z
    · left
      rw [ea, if_pos z]; simp
    · right
      rcases z with z | ⟨p, z1, z2⟩ | ⟨p, z1, z2⟩
      · exact .inl z
      · exact .inr (.inl ⟨p, done_snoc.mpr z1, z2⟩)
      · exact .inr (.inr ⟨p, done_snoc.mpr z1, z2⟩)
  · obtain ⟨g1, g2, g3, g4⟩ := h.go hl
    have R : RelS t w (doneB ns) (apartB t pg n (ns.count n) = true) (n, ns.count n) (putO t ns) pg.s ⟨s.cl, s.co, false⟩ := ⟨h.ok, g1, g2, fun _ => g4.m, (fun z => nomatch z), fun c x _ hx => h.fr x (mem_at hx), fun x hx => .inl (h.fr x hx)⟩
    have R2 := R.perf o me_not (fun p hp => put_done hp) put_me h.fr hk fun e hn => by
      rw [notAsk_apart (r := ⟨s.cl, s.co, false⟩) g1 g2 (me := (n, ns.count n)), hn, Bool.and_true]
      exact decide_eq_true e
    have R3 := R2.next fun p hp => put_done hp
    rw [← put_snoc] at R2
    rw [← es] at R2 R3
    have hrw : rPerf t (n, ns.count n) ⟨s.cl, s.co, false⟩ = rwN t s (n, ns.count n) := rfl
    rw [hrw] at R2 R3
    have hw := h.ok.w1
    have hlen : (rwN t s (n, ns.count n)).cells.length = w := by rw [R2.cl]; exact okn.cl
    have ec : c = if (rwN t s (n, ns.count n)).sp = true then (0, []) else ((rwN t s (n, ns.count n)).co, (rwN t s (n, ns.count n)).cells) := by
      rw [hc]; unfold sitC; rw [if_neg (fun z => z.elim hl hf)]
    cases hsp : (rwN t s (n, ns.count n)).sp with
    | true =>
      rw [hsp, if_pos rfl] at ec
      refine ⟨okn, fun z => absurd (by rw [ec]) z, fun _ => ?_, fun x hx => done_snoc.mpr (R3.1 x hx)⟩
      rcases R3.2 hsp with z | z
      · left
        rw [ea, if_pos z]; simp
      · right
        rcases z with z | ⟨p, z1, z2⟩ | ⟨p, z1, z2⟩
        · exact .inl z
        · exact .inr (.inl ⟨p, done_snoc.mpr z1, z2⟩)
        · exact .inr (.inr ⟨p, done_snoc.mpr z1, z2⟩)
    | false =>
      rw [hsp, if_neg Bool.false_ne_true] at ec
      have ne : (rwN t s (n, ns.count n)).cells ≠ [] := fun z => by rw [z] at hlen; simp at hlen; omega
      refine ⟨okn, fun _ => ?_, fun z => absurd (by rw [ec] at z; exact z) ne, fun x hx => done_snoc.mpr (R3.1 x hx)⟩
      rw [ec]
      refine ⟨R2.cl, R2.co, ?_, (R2.gd hsp).g⟩
      rw [ea]
      cases hap : apartB t pg n (ns.count n) with
      | false => rw [if_neg Bool.false_ne_true]; exact g3
      | true =>
        exfalso
        have ha := notAsk_apart (t := t) (pg := pg) (r := ⟨s.cl, s.co, false⟩) g1 g2 (me := (n, ns.count n))
        rw [hap] at ha
        obtain ⟨h1, h2⟩ := Bool.and_eq_true_iff.mp ha.symm
        have h1 := of_decide_eq_true h1
        obtain ⟨ws, _, _, gw, _⟩ := wr_at o hk
        have el : (wrAt t n (ns.count n)).l = "" := gw.g.gr h1
        have e2 : rWord t (n, ns.count n) (wrAt t n (ns.count n)).l ⟨s.cl, s.co, false⟩ = ⟨s.cl, s.co, false⟩ := by
          rw [el]
          unfold rWord rWord1 rWord2 rWord3
          have h1 : ¬ ((("" : Str) = "return") ∨ (("" : Str) = "wipe")) := by decide
          have h2 : ¬ ((("" : Str) = "wipe") ∨ (("" : Str) = "erase")) := by decide
          have h3 : ¬ (("" : Str) = "newline") := by decide
          have h4 : ¬ (("" : Str) = "fresh") := by decide
          rw [if_neg h1, if_neg h2, if_neg (fun z => z.elim h3 fun z => h4 z.1)]
        have h3 : (rwN t s (n, ns.count n)).sp = true := by
          refine sp_perf' ?_
          rw [e2]
          unfold rReply
          rw [if_pos h1]
          show (false || notAsk t _ _) = true
          rw [h2]; rfl
        rw [hsp] at h3
        cases h3
end
end LK
set_option Elab.async false
set_option linter.all false
set_option maxRecDepth 100000
set_option maxHeartbeats 1000000
namespace LK
open PySem PySem.Spec PyProof.Rows L2 DL
section
variable {t : Tb} {w : Nat} {ns : List Str} {pg : Pg} {s : Sit} {n : Str} {few : List Pc}
def OnlyC (me : Pc) (c : Cell) : Prop := c = none ∨ pcO c = some me
theorem only_mixed {me : Pc} {l : List Cell} (h : ∀ c ∈ l, OnlyC me c) : mixedR l = false := by
  cases e : mixedR l with
  | false => rfl
  | true =>
    obtain ⟨c, hc, d, hd, p, q, e1, e2, ne⟩ := mixed_iff.mp e
    rcases h c hc with z | z
    · rw [z] at e1; cases e1
    · rcases h d hd with y | y
      · rw [y] at e2; cases e2
      · rw [z] at e1; rw [y] at e2
        cases e1; cases e2
        exact absurd rfl ne
theorem alone_all {me : Pc} : ScrAll (OnlyC me) (sType w none (sNew w none) (thingsO t me.1 me.2)) := by
  refine ScrAll.type (Q := OnlyC me) (.inl rfl) (ScrAll.new (Q := OnlyC me) (.inl rfl)) fun x hx => ?_
  obtain ⟨j, _, rfl⟩ := List.mem_map.mp hx
  exact .inr rfl
theorem alone_cnt {me : Pc} (h1 : 1 ≤ w) (h2 : w ≤ 99) : upN me (sType w none (sNew w none) (thingsO t me.1 me.2)) + curN me (sType w none (sNew w none) (thingsO t me.1 me.2)) = lenP t me := by
  have hz : ∀ p : Pc, upN p (sNew w none) = 0 ∧ curN p (sNew w none) = 0 := fun p => ⟨rfl, rep_cnt⟩
  have R : RelS t w (fun _ => False) False me (fun _ => 0) (sNew w none) ⟨List.replicate w none, 0, false⟩ := ⟨SOk.new h1 h2, rfl, rfl, fun _ => ⟨⟨fun p => Nat.zero_le _, fun p => by rw [(hz p).1, (hz p).2]; exact Nat.le_refl _, fun p _ => by rw [(hz p).1, (hz p).2], fun p _ => .inl (hz p).1, fun c x hx => absurd (List.mem_replicate.mp (mem_at hx)).2 (fun z => nomatch z), fun r hr => nomatch hr⟩, by rw [(hz me).1, (hz me).2], by rw [(hz me).1]; exact Nat.zero_sub _⟩, (fun z => nomatch z), fun c x _ hx => absurd (List.mem_replicate.mp (mem_at hx)).2 (fun z => nomatch z), fun x hx => absurd (List.mem_replicate.mp hx).2 (fun z => nomatch z)⟩
  have R2 := R.type id (fun p hp => hp.elim) rfl
  cases hs : (rType t me ⟨List.replicate w none, 0, false⟩).sp with
  | false =>
    have := (R2.gd hs).mt
    rw [this]
    exact if_pos rfl
  | true =>
    rcases R2.dm hs with z | ⟨r, hr, e⟩ | ⟨p, hp, _⟩ | ⟨p, hp, _⟩
    · exact z.elim
    · have := only_mixed (l := r) fun c hc => (alone_all (t := t) (w := w) (me := me)).1 r hr c hc
      rw [this] at e; cases e
    · exact hp.elim
    · exact hp.elim
theorem only_cnt {me p : Pc} (h : p ≠ me) {l : List Cell} (hl : ∀ c ∈ l, OnlyC me c) : l.countP (isP p) = 0 := by
  rw [List.countP_eq_zero]
  intro c hc e
  have e2 : pcO c = some p := of_decide_eq_true e
  rcases hl c hc with z | z
  · rw [z] at e2; cases e2
  · rw [z] at e2; cases e2; exact h rfl
theorem above_up {xs : List Cell} {p : Pc} : upN p (sAbove w none pg.s xs) = upN p pg.s + (upN p (sType w none (sNew w none) xs) + curN p (sType w none (sNew w none) xs)) := by
  show (pg.s.up.take (lineAt pg.s.jo) ++ (sType w none (sNew w none) xs).rows ++ pg.s.up.drop (lineAt pg.s.jo)).flatten.countP (isP p) = _
  rw [List.flatten_append, List.flatten_append, List.countP_append, List.countP_append]
  have e1 : (pg.s.up.take (lineAt pg.s.jo)).flatten.countP (isP p) + (pg.s.up.drop (lineAt pg.s.jo)).flatten.countP (isP p) = upN p pg.s := by
    rw [← List.countP_append, ← List.flatten_append, List.take_append_drop]; rfl
  have e2 : (sType w none (sNew w none) xs).rows.flatten.countP (isP p) = upN p (sType w none (sNew w none) xs) + curN p (sType w none (sNew w none) xs) := up_flat
  omega
theorem above_mem {xs : List Cell} {r : List Cell} : r ∈ (sAbove w none pg.s xs).up ↔ r ∈ pg.s.up ∨ r ∈ (sType w none (sNew w none) xs).rows := by
  show r ∈ pg.s.up.take (lineAt pg.s.jo) ++ (sType w none (sNew w none) xs).rows ++ pg.s.up.drop (lineAt pg.s.jo) ↔ _
  rw [List.mem_append, List.mem_append]
  constructor
  · rintro ((h | h) | h)
    · exact .inl (List.mem_of_mem_take h)
    · exact .inr h
    · exact .inl (List.mem_of_mem_drop h)
  · rintro (h | h)
    · rw [← List.take_append_drop (lineAt pg.s.jo) pg.s.up] at h
      rcases List.mem_append.mp h with h | h
      · exact .inl (.inl h)
      · exact .inr h
    · exact .inl (.inr h)
theorem alone_rows {me : Pc} : ∀ r ∈ (sType w none (sNew w none) (thingsO t me.1 me.2)).rows, ∀ c ∈ r, OnlyC me c := fun r hr => by
  have h := alone_all (t := t) (w := w) (me := me)
  rcases List.mem_append.mp hr with hr | hr
  · exact h.1 r hr
  · rw [List.mem_singleton.mp hr]; exact h.2
theorem OutR.care (o : TbOk t) (h : OutR t w ns pg s) (hf : (n, ns.count n) ∈ few) (hp : isPlainW (wrAt t n (ns.count n)) = true) {c : Nat × List Cell} (hc : c = sitC t few (n, ns.count n) s) {cs : List Nat} {b : Str} : OutR t w (ns ++ [n]) (pgStep t few w pg n (ns.count n)) ⟨cs, b, c.1, c.2⟩ := by
  have es : (pgStep t few w pg n (ns.count n)).s = sAbove w none pg.s (thingsO t n (ns.count n)) := by
    show scrStep t few w pg.s n (ns.count n) = _
    unfold scrStep
    rw [if_pos hf]
  have hk : (wrAt t n (ns.count n)).k = "say" := by
    unfold isPlainW at hp
    exact of_decide_eq_true (Bool.and_eq_true_iff.mp hp).1
  have ea : (pgStep t few w pg n (ns.count n)).ap = pg.ap := by
    show (if apartB t pg n (ns.count n) = true then _ else pg.ap) = _
    rw [if_neg]
    unfold apartB
    rw [hk, show decide (("say" : Str) = "reply") = false by decide, Bool.false_and]
    exact Bool.false_ne_true
  have okn : SOk w (pgStep t few w pg n (ns.count n)).s := h.ok.step
  have ec : c = (s.co, s.cl) := by rw [hc]; unfold sitC; rw [if_pos (.inr hf)]
  have hst : staysB t (n, ns.count n) = true := by unfold staysB; rw [hk]; rfl
  have ecur : (sAbove w none pg.s (thingsO t n (ns.count n))).cur = pg.s.cur := rfl
  have eco : (sAbove w none pg.s (thingsO t n (ns.count n))).co = pg.s.co := rfl
  have ec' : ∀ p, curN p (sAbove w none pg.s (thingsO t n (ns.count n))) = curN p pg.s := fun p => rfl
  have eu : ∀ p, p ≠ (n, ns.count n) → upN p (sAbove w none pg.s (thingsO t n (ns.count n))) = upN p pg.s := fun p hp => by
    rw [above_up]
    have h1 : (sType w none (sNew w none) (thingsO t n (ns.count n))).rows.flatten.countP (isP p) = 0 := only_cnt hp fun c hc => by
      obtain ⟨r, hr, hc⟩ := List.mem_flatten.mp hc
      exact alone_rows (t := t) (me := (n, ns.count n)) r hr c hc
    have h2 : (sType w none (sNew w none) (thingsO t n (ns.count n))).rows.flatten.countP (isP p) = upN p (sType w none (sNew w none) (thingsO t n (ns.count n))) + curN p (sType w none (sNew w none) (thingsO t n (ns.count n))) := up_flat
    omega
  have em : upN (n, ns.count n) (sAbove w none pg.s (thingsO t n (ns.count n))) = upN (n, ns.count n) pg.s + lenP t (n, ns.count n) := by
    rw [above_up, alone_cnt (t := t) (me := (n, ns.count n)) h.ok.w1 h.ok.w99]
  have emx : ∀ r ∈ (sAbove w none pg.s (thingsO t n (ns.count n))).up, mixedR r = true → ∃ q ∈ pg.s.up, mixedR q = true := fun r hr e => by
    rcases above_mem.mp hr with z | z
    · exact ⟨r, z, e⟩
    · have := only_mixed (alone_rows (t := t) (me := (n, ns.count n)) r z)
      rw [this] at e; cases e
  refine ⟨okn, fun z => ?_, fun z => ?_, fun x hx => ?_⟩
  · rw [ec] at z ⊢
    obtain ⟨g1, g2, g3, g4⟩ := h.go z
    rw [es, ea]
    refine ⟨g1, g2, g3, ?_⟩
    have g0 := g4.tot (n, ns.count n)
    rw [put_me] at g0
    rw [put_snoc]
    refine ⟨fun p => ?_, fun p => ?_, fun p e => ?_, fun p e => ?_, fun k x hx => ?_, fun r hr => ?_⟩
    · show (if p = (n, ns.count n) then _ else _) ≤ _
      split
      · rename_i e; rw [e]; exact Nat.le_refl _
      · exact g4.le p
    · show _ ≤ (if p = (n, ns.count n) then _ else _)
      rw [ec']
      split
      · rename_i e; rw [e, em]; omega
      · rename_i e; rw [eu p e]; exact g4.tot p
    · show _ = (if p = (n, ns.count n) then _ else _)
      rw [ec']
      split
      · rename_i e; rw [e, em]; omega
      · rename_i e2; rw [eu p e2]; exact g4.st p e
    · show _ ∨ _ = (if p = (n, ns.count n) then _ else _)
      rw [ec']
      split
      · rename_i e2; rw [e2, hst] at e; cases e
      · rename_i e2; rw [eu p e2]; exact g4.sh p e
    · rw [eu _ (fun z => by
        have := h.fr x (mem_at hx)
        rw [z] at this
        exact me_not this)]
      exact g4.at_ k x hx
    · cases e : mixedR r with
      | false => rfl
      | true =>
        obtain ⟨q, hq, e2⟩ := emx r hr e
        rw [g4.mx q hq] at e2; cases e2
  · rw [ec] at z
    rw [es, ea]
    refine (h.no z).imp id fun d => ?_
    rcases d with ⟨r, hr, e⟩ | ⟨p, h1, h2, h3⟩ | ⟨p, h1, h2, h3, h4⟩
    · exact .inl ⟨r, above_mem.mpr (.inl hr), e⟩
    · exact .inr (.inl ⟨p, done_snoc.mpr (.inl h1), h2, by rw [ec', eu p (fun z => me_not (by rw [← z]; exact h1))]; exact h3⟩)
    · exact .inr (.inr ⟨p, done_snoc.mpr (.inl h1), h2, by rw [eu p (fun z => me_not (by rw [← z]; exact h1))]; exact h3, by rw [ec', eu p (fun z => me_not (by rw [← z]; exact h1))]; exact h4⟩)
  · rw [es] at hx
    exact done_snoc.mpr (.inl (h.fr x hx))
theorem OutR.start (h1 : 1 ≤ w) (h2 : w ≤ 99) : OutR t w [] (pg0 w) (sit0 t w) := by
  have hz : ∀ p : Pc, upN p (sNew w none) = 0 ∧ curN p (sNew w none) = 0 := fun p => ⟨rfl, rep_cnt⟩
  have hp : ∀ p : Pc, putO t [] p = 0 := fun p => if_neg (by show ¬ p.2 < 0; exact Nat.not_lt_zero _)
  refine ⟨SOk.new h1 h2, fun _ => ⟨rfl, rfl, rfl, ⟨fun p => by rw [hp]; exact Nat.zero_le _, fun p => by show upN p (sNew w none) + curN p (sNew w none) ≤ _; rw [(hz p).1, (hz p).2]; exact Nat.zero_le _, fun p _ => by show upN p (sNew w none) + curN p (sNew w none) = _; rw [(hz p).1, (hz p).2, hp], fun p _ => .inl (hz p).1, fun c x hx => absurd (List.mem_replicate.mp (mem_at hx)).2 (fun z => nomatch z), fun r hr => nomatch hr⟩⟩, fun z => ?_, fun x hx => absurd (List.mem_replicate.mp hx).2 (fun z => nomatch z)⟩
  have z : List.replicate w (none : Cell) = [] := z
  have := congrArg List.length z
  rw [List.length_replicate] at this
  simp at this
  omega
end
end LK
set_option Elab.async false
set_option linter.all false
set_option maxRecDepth 100000
set_option maxHeartbeats 1000000
namespace LK
open PySem PySem.Spec PyProof.Rows L2 DL
end LK
set_option Elab.async false
set_option linter.all false
set_option maxRecDepth 100000
set_option maxHeartbeats 1000000
namespace LK
open PySem PySem.Spec PyProof.Rows L2 DL
section
variable {P : Program} {w : World} {K : PySem.W.Frag} {mg : Str → Option Value} {base : Heap}
end
end LK
set_option Elab.async false
set_option linter.all false
set_option maxRecDepth 100000
set_option maxHeartbeats 1000000
namespace DL
open PySem PySem.Spec PyProof.Rows L2
section
variable {X : Cx} {W : WX} {e : Expr} {δ : DEnv} {I : Iv X.K} {pos : Pos} {κ : Ko X.K} {x' : Str} {n m : Int}
end
end DL
namespace LK
open PySem PySem.Spec PyProof.Rows L2 DL
section
variable {P : Program} {w : World} {K : PySem.W.Frag} {mg : Str → Option Value} {base : Heap}
end
end LK
set_option Elab.async false
set_option linter.all false
set_option maxRecDepth 100000
set_option maxHeartbeats 1000000
namespace LK
open PySem PySem.Spec PyProof.Rows L2 DL
section
variable {P : Program} {w : World} {K : PySem.W.Frag} {mg : Str → Option Value} {base : Heap}
end
end LK
set_option Elab.async false
set_option linter.all false
set_option maxRecDepth 100000
set_option maxHeartbeats 1000000
namespace LK
open PySem PySem.Spec PyProof.Rows L2 DL
section
variable {P : Program} {w : World} {K : PySem.W.Frag} {mg : Str → Option Value} {base : Heap}
end
end LK
set_option Elab.async false
set_option linter.all false
set_option maxRecDepth 100000
set_option maxHeartbeats 1000000
namespace LK
open PySem PySem.Spec PyProof.Rows L2 DL
section
variable {P : Program} {w : World} {K : PySem.W.Frag} {mg : Str → Option Value} {base : Heap}
end
end LK
set_option Elab.async false
set_option linter.all false
set_option maxRecDepth 100000
set_option maxHeartbeats 1000000
namespace DL
open PySem PySem.Spec PyProof.Rows L2
section
variable {X : Cx} {I : Iv X.K} {o e : Expr} {δ : DEnv} {pos apos : Pos} {z w : Str}
end
end DL
namespace LK
open PySem PySem.Spec PyProof.Rows L2 DL
section
variable {P : Program} {w : World} {K : PySem.W.Frag} {mg : Str → Option Value} {base : Heap}
end
end LK
set_option Elab.async false
set_option linter.all false
set_option maxRecDepth 100000
set_option maxHeartbeats 1000000
namespace LK
open PySem PySem.Spec PyProof.Rows L2 DL
section
variable {K : PySem.W.Frag} {t : Tb} {w : Nat} {A : PgA} {done : List (Str × Nat)} {pg : Pg} {k : Rc K}
end
section
variable {P : Program} {w : World} {K : PySem.W.Frag} {mg : Str → Option Value} {base : Heap}
end
end LK
set_option Elab.async false
set_option linter.all false
set_option maxRecDepth 100000
set_option maxHeartbeats 1000000
namespace DL
open PySem PySem.Spec PyProof.Rows L2
section
variable {X : Cx} {I : Iv X.K} {o e : Expr} {δ : DEnv} {pos apos : Pos} {ss : List Str} {k : Str} {d : D}
end
end DL
namespace LK
open PySem PySem.Spec PyProof.Rows L2 DL
section
variable {P : Program} {w : World} {K : PySem.W.Frag} {mg : Str → Option Value} {base : Heap}
end
end LK
set_option Elab.async false
set_option linter.all false
set_option maxRecDepth 100000
set_option maxHeartbeats 4000000
namespace DL
open PySem PySem.Spec PyProof.Rows L2
section
variable {X : Cx} {W : WX} {R : Rx X.K} {elt tg iter tg1 iter1 e a c1 : Expr} {scope : Scope} {δ : DEnv} {I : Iv X.K} {P : D → Iv X.K → Prop} {pos p : Pos} {κ : Ko X.K} {d z : D} {ds : List D}
end
end DL
set_option Elab.async false
set_option linter.all false
set_option maxRecDepth 100000
set_option maxHeartbeats 1000000
namespace DL
open PySem PySem.Spec PyProof.Rows L2
section
variable {X : Cx} {e : Expr} {δ : DEnv} {I : Iv X.K} {pos p : Pos} {ds : List D} {W : WX} {R : Rx X.K} {P : D → Iv X.K → Prop}
end
end DL
namespace LK
open PySem PySem.Spec PyProof.Rows L2 DL
section
variable {P : Program} {w : World} {K : PySem.W.Frag} {mg : Str → Option Value} {base : Heap}
end
end LK
set_option Elab.async false
set_option linter.all false
set_option maxRecDepth 100000
set_option maxHeartbeats 1000000
set_option pp.maxSteps 300
namespace LK
open PySem PySem.Spec PyProof.Rows L2 DL
section
variable {K : PySem.W.Frag} {A : DkA} {S : DkS} {c : Rc K} {e : Ed} {P : D → Iv K → Prop} {R : Addr → List (Str × D) → Iv K → Prop}
theorem edP_inl {er : Er} (h : editU S.t e = .inl er) (q : edP K A S c e P R) : erP K er R (c.fill (iDk K A S)) := by
  unfold edP editR at q
  rw [h] at q
  exact q
theorem edP_inr {u : OTb} (h : editU S.t e = .inr u) (q : edP K A S c e P R) : match badO u with
    | some no => R (He.ga K "InvalidCast") (xCast K no.1 no.2) (c.fill (iDk K A S))
    | none => P .non (c.fill (iDk K A ⟨sortW (tbOf u), S.past ++ [S.t], []⟩)) := by
  simp only [edP, editR, h] at q
  cases hb : badO u with
  | some no => simp only [hb] at q; exact q
  | none => simp only [hb] at q; exact q
end
theorem fr_one {K : PySem.W.Frag} (o : Option Wr) : (frO [o]).map (Th.d K) = [(thO o).d K] := rfl
theorem row_gd {t : Tb} (o : TbOk t) {n : Str} {ws : List Wr} (h : rowOf t n = some ws) : n.length ≤ 8 ∧ ws.length ≤ 8 ∧ ∀ w ∈ ws, GoodR w := by
  have hm := rowOf_mem h
  exact ⟨(isName_len (o.nm _ hm)).2, (o.row _ hm).m, (o.row _ hm).g⟩
theorem some_map {ws : List Wr} {w : Wr} (h : some w ∈ ws.map some) : w ∈ ws := by
  obtain ⟨x, hx, e⟩ := List.mem_map.mp h
  cases e; exact hx
section
variable {P : Program} {w : World} {K : PySem.W.Frag} {mg : Str → Option Value} {base : Heap}
theorem M_dkSet (E : Env P w K mg base) : FnR P w K mg base (L2.CX P w) 7 (He.ma K (cDk K) "__setitem__") (spD K sDkSet) := mk_m_Desk_setitem E fun fd F => by
  refine fn_d F sc_m_Desk_setitem (fun I ds P R h => by obtain ⟨A, S, c, n, k, o, rfl, _⟩ := h; rfl) fun cdv Ac outer s H EE hr tk po I ds Q R h => ?_
  obtain ⟨A, S, c, n, k, ow, rfl, rfl, dc, o, hz, hg, q⟩ := h
  have nd := sc_m_Desk_setitem.nd
  have hr2 : Room 2 _ := hr.mono (by decide)
  have hr4 : Room 4 _ := hr.mono (by decide)
  have hr6 : Room 6 _ := hr
  refine s_cons (s_asgP (d := .tup [.str n, .int k]) (pv_v 1) (bind_tup (ws := [3, 4]) (bs_cons (bind_name 3) (bs_cons (bind_name 4) bs_nil))) ?_)
  cases hw : rowOf S.t n with
  | none =>
    have q := edP_inl (er := .unk n) (by simp only [editU, hw]) q
    exact s_cons (s_set 5 (ev_subOwn tk E.h_Cast_getitem.f E.h_Cast_getitem.i E.fn_Cast_getitem (M_cget E) hr4 ((pv_fld (d := cD K S.t) _ dc.l dc.aP (pv_w (d := .adr A.x) 0 rfl) rfl (eI := dk_ins)).ev ((pv_w (d := .str n) 3 rfl).ev ⟨insD_slo, S.t, n, rfl, o.nd, by rw [hw]; exact q⟩))))
  | some ws =>
    obtain ⟨hnl, hwl, hgw⟩ := row_gd o hw
    refine s_cons (s_setP (d := .tup (ws.map (wrD K))) 5 (pv_cgetT E hr4 o.nd (pv_fld (d := cD K S.t) _ dc.l dc.aP (pv_w (d := .adr A.x) 0 rfl) rfl (eI := dk_ins)) (pv_w (d := .str n) 3 rfl) hw) ?_)
    refine s_cons (s_ifP (PVT.is (c := !(decide (0 ≤ k) && decide (k < (ws.length : Nat)))) (ptn (pt_chn op_le op_lt pv_int (pv_w (d := .int k) 4 rfl) p2_le (pv_len E.b_len (pv_w (d := .tup (ws.map (wrD K))) 5 rfl) trivial) p2_lt)) (by rw [List.length_map])) (fun hb => ?_) fun hb => s_nil ?_)
    · have hb' : ¬ (0 ≤ k ∧ k < (ws.length : Nat)) := fun h => by simp [h.1, h.2] at hb
      have q := edP_inl (er := .num k) (by simp only [editU, hw]; exact if_neg hb') q
      exact s_one (s_rz tk E.x_NoWrite E.ini_NoWrite hr2 (ea_cons ((pv_w (d := .int k) 4 rfl).ev (ea_nil ⟨rfl, Nat.le_of_ble_eq_true rfl, q⟩))))
    · have hb' : 0 ≤ k ∧ k < (ws.length : Nat) := by simpa using hb
      have q := edP_inr (u := putR (oT S.t) n ((ws.take k.toNat).map some ++ [ow] ++ (ws.drop (k.toNat + 1)).map some)) (by simp only [editU, hw]; exact if_pos hb') q
      have eC : (frO ((ws.take k.toNat).map some ++ [ow] ++ (ws.drop (k.toNat + 1)).map some)).map (Th.d K) = cutD (ws.map (wrD K)) none (some k) ++ ((thO ow).d K :: (cutD (ws.map (wrD K)) (some (k + 1)) none ++ [])) := by
        rw [fr_app, fr_app, fr_some, fr_one, fr_some, cutT_take _ hb'.1, cutT_drop _ (show (0:Int) ≤ k + 1 by omega), show (k + 1).toNat = k.toNat + 1 by omega, List.append_nil, ← List.map_take, ← List.map_drop, List.append_assoc]; rfl
      refine s_one (s_expr (ev_chW E tk hr6 dc o hz (pv_w (d := .adr A.x) 0 rfl) (pv_w (d := .adr A.x) 0 rfl) (pv_w (d := .str n) 3 rfl) (v := .tp (frO ((ws.take k.toNat).map some ++ [ow] ++ (ws.drop (k.toNat + 1)).map some))) (PV.is (pv_tup (va_star (pv_slT (pv_w (d := .tup (ws.map (wrD K))) 5 rfl) vo_none (vo_some (pv_w (d := .int k) 4 rfl))) (va_cons (pv_w (d := (thO ow).d K) 2 rfl) (va_star (pv_slT (pv_w (d := .tup (ws.map (wrD K))) 5 rfl) (vo_some (pv_op op_add (pv_w (d := .int k) 4 rfl) pv_int p2_add)) vo_none) va_nil))) ?_) (congrArg D.tup eC.symm)) (by omega) (.inr rfl) ?_ ?_ q))
      · rw [← eC, List.length_map]; unfold frO; rw [List.length_map, List.length_append, List.length_append, List.length_map, List.length_map, List.length_take, List.length_drop]; simp; omega
      · intro x hx
        rcases List.mem_append.mp hx with hx | hx
        · rcases List.mem_append.mp hx with hx | hx
          · exact hgw x (List.mem_of_mem_take (some_map hx))
          · exact hg x (List.mem_singleton.mp hx).symm
        · exact hgw x (List.mem_of_mem_drop (some_map hx))
      · rw [List.length_append, List.length_append, List.length_map, List.length_map, List.length_take, List.length_drop]; simp; omega
theorem M_dkIns (E : Env P w K mg base) : FnR P w K mg base (L2.CX P w) 7 (He.ma K (cDk K) "insert") (spD K sDkIns) := mk_m_Desk_insert E fun fd F => by
  refine fn_d F sc_m_Desk_insert (fun I ds P R h => by obtain ⟨A, S, c, n, k, ws, rfl, _⟩ := h; rfl) fun cdv Ac outer s H EE hr tk po I ds Q R h => ?_
  obtain ⟨A, S, c, n, k, new, rfl, rfl, dc, o, hz, hg, hnz, q⟩ := h
  have nd := sc_m_Desk_insert.nd
  have hr2 : Room 2 _ := hr.mono (by decide)
  have hr4 : Room 4 _ := hr.mono (by decide)
  have hr6 : Room 6 _ := hr
  cases hw : rowOf S.t n with
  | none =>
    have q := edP_inl (er := .unk n) (by simp only [editU, hw]) q
    exact s_cons (s_set 4 (ev_subOwn tk E.h_Cast_getitem.f E.h_Cast_getitem.i E.fn_Cast_getitem (M_cget E) hr4 ((pv_fld (d := cD K S.t) _ dc.l dc.aP (pv_v (d := .adr A.x) 0) rfl (eI := dk_ins)).ev ((pv_v (d := .str n) 1).ev ⟨insD_slo, S.t, n, rfl, o.nd, by rw [hw]; exact q⟩))))
  | some ws =>
    obtain ⟨hnl, hwl, hgw⟩ := row_gd o hw
    refine s_cons (s_setP (d := .tup (ws.map (wrD K))) 4 (pv_cgetT E hr4 o.nd (pv_fld (d := cD K S.t) _ dc.l dc.aP (pv_v (d := .adr A.x) 0) rfl (eI := dk_ins)) (pv_v (d := .str n) 1) hw) ?_)
    refine s_cons (s_ifP (PVT.is (c := !(decide (0 ≤ k) && decide (k ≤ (ws.length : Nat)))) (ptn (pt_chn op_le op_le pv_int (pv_w (d := .int k) 2 rfl) p2_le (pv_len E.b_len (pv_w (d := .tup (ws.map (wrD K))) 4 rfl) trivial) p2_le)) (by rw [List.length_map])) (fun hb => ?_) fun hb => s_nil ?_)
    · have hb' : ¬ (0 ≤ k ∧ k ≤ (ws.length : Nat)) := fun h => by simp [h.1, h.2] at hb
      have q := edP_inl (er := .num k) (by simp only [editU, hw]; exact if_neg hb') q
      exact s_one (s_rz tk E.x_NoWrite E.ini_NoWrite hr2 (ea_cons ((pv_w (d := .int k) 2 rfl).ev (ea_nil ⟨rfl, Nat.le_of_ble_eq_true rfl, q⟩))))
    · have hb' : 0 ≤ k ∧ k ≤ (ws.length : Nat) := by simpa using hb
      have q := edP_inr (u := putR (oT S.t) n ((ws.take k.toNat).map some ++ new.map some ++ (ws.drop k.toNat).map some)) (by simp only [editU, hw]; exact if_pos hb') q
      have eC : (frO ((ws.take k.toNat).map some ++ new.map some ++ (ws.drop k.toNat).map some)).map (Th.d K) = cutD (ws.map (wrD K)) none (some k) ++ (new.map (wrD K) ++ (cutD (ws.map (wrD K)) (some k) none ++ [])) := by
        rw [fr_app, fr_app, fr_some, fr_some, fr_some, cutT_take _ hb'.1, cutT_drop _ hb'.1, List.append_nil, ← List.map_take, ← List.map_drop, List.append_assoc]
      refine s_one (s_expr (ev_chW E tk hr6 dc o hz (pv_w (d := .adr A.x) 0 rfl) (pv_w (d := .adr A.x) 0 rfl) (pv_w (d := .str n) 1 rfl) (v := .tp (frO ((ws.take k.toNat).map some ++ new.map some ++ (ws.drop k.toNat).map some))) (PV.is (pv_tup (va_star (pv_slT (pv_w (d := .tup (ws.map (wrD K))) 4 rfl) vo_none (vo_some (pv_w (d := .int k) 2 rfl))) (va_starL (pv_w (d := .lst (new.map (wrD K))) 3 rfl) (va_star (pv_slT (pv_w (d := .tup (ws.map (wrD K))) 4 rfl) (vo_some (pv_w (d := .int k) 2 rfl)) vo_none) va_nil))) ?_) (congrArg D.tup eC.symm)) (by omega) (.inr rfl) ?_ ?_ q))
      · rw [← eC, List.length_map]; unfold frO; rw [List.length_map, List.length_append, List.length_append, List.length_map, List.length_map, List.length_map, List.length_take, List.length_drop]; omega
      · intro x hx
        rcases List.mem_append.mp hx with hx | hx
        · rcases List.mem_append.mp hx with hx | hx
          · exact hgw x (List.mem_of_mem_take (some_map hx))
          · exact hg x (some_map hx)
        · exact hgw x (List.mem_of_mem_drop (some_map hx))
      · rw [List.length_append, List.length_append, List.length_map, List.length_map, List.length_map, List.length_take, List.length_drop]; omega
theorem M_dkAdd (E : Env P w K mg base) : FnR P w K mg base (L2.CX P w) 7 (He.ma K (cDk K) "add") (spD K sDkAdd) := mk_m_Desk_add E fun fd F => by
  refine fn_d F sc_m_Desk_add (fun I ds P R h => by obtain ⟨A, S, c, n, ws, rfl, _⟩ := h; rfl) fun cdv Ac outer s H EE hr tk po I ds Q R h => ?_
  obtain ⟨A, S, c, n, ws, rfl, rfl, dc, o, hz, hnl, hg, hnz, q⟩ := h
  have nd := sc_m_Desk_add.nd
  have hr1 : Room 1 _ := hr.mono (by decide)
  have hr2 : Room 2 _ := hr.mono (by decide)
  have hr6 : Room 6 _ := hr
  refine s_cons (s_ifP (ptC_has E hr1 o.nd (pv_v (d := .str n) 1) (pv_fld (d := cD K S.t) _ dc.l dc.aP (pv_v (d := .adr A.x) 0) rfl (eI := dk_ins))) (fun hb => ?_) fun hb => s_nil ?_)
  · have q := edP_inl (er := .clash n) (by simp only [editU]; exact if_pos hb) q
    exact s_one (s_rz tk E.x_Clash E.ini_Clash hr2 (ea_cons ((pv_v (d := .str n) 1).ev (ea_nil ⟨rfl, Nat.le_of_ble_eq_true rfl, q⟩))))
  · have q := edP_inr (u := putR (oT S.t) n (ws.map some)) (by simp only [editU]; exact if_neg (by rw [hb]; exact Bool.false_ne_true)) q
    refine s_one (s_expr (ev_chW E tk hr6 dc o hz (pv_w (d := .adr A.x) 0 rfl) (pv_w (d := .adr A.x) 0 rfl) (pv_w (d := .str n) 1 rfl) (v := .ls (frO (ws.map some))) (PV.is (pv_w (d := .lst (ws.map (wrD K))) 2 rfl) (congrArg D.lst (fr_some ws).symm)) hnl (.inl rfl) (fun x hx => hg x (some_map hx)) (by rw [List.length_map]; omega) q))
end
end LK
set_option Elab.async false
set_option linter.all false
set_option maxRecDepth 100000
set_option maxHeartbeats 1000000
set_option pp.maxSteps 300
namespace LK
open PySem PySem.Spec PyProof.Rows L2 DL
theorem va_starI {X : Cx} {e : Expr} {es : List Expr} {δ : DEnv} {I : Iv X.K} {x : D} {ds : List D} {p : Pos} (he : PV X I e δ x) (li : LsI I x ds) {fs : List D} (h : PVA X I es δ fs) (hs : starEach (.Starred e p :: es) X.env = (true, eval e X.env) :: starEach es X.env := by rfl) : PVA X I (.Starred e p :: es) δ (ds ++ fs) := fun W R P pp σ G H Q hE s hI qx qq => PA.wp (StX.pa_star peC paC hs)
  (he W R (fun z J => z = x ∧ J = I) ⟨rfl, rfl⟩ σ G H _ hE s hI qx fun v d1 G1 H1 I1 s1 t1 h1 r1 ⟨ed, ei⟩ => by
    subst ed
    subst ei
    obtain ⟨c, vs, ev, e2, e3⟩ := li.h G1 H1 v t1 h1 r1
    refine ⟨c, vs, ev, .inr (SqL.of e2), ?_⟩
    refine h W R (fun zs J => zs = fs ∧ J = I1) ⟨rfl, rfl⟩ σ G1 H1 _ (hE.mono s1) t1 h1 (qx.mono s1) fun ws d2 G2 H2 I2 s2 t2 h2 r2 ⟨ed2, ei2⟩ => ?_
    subst ed2 ei2
    exact qq _ _ G2 H2 _ (s1.trans s2) t2 h2 ((e3.mono s2).append r2) pp)
theorem atI_lastU {α : Type} (p : List α) (u : α) : atI (p ++ [u]) (-1) = some u := by
  exact atI_last (by simp)
theorem find_at {α : Type} {f : α → Bool} {p r : List α} {x : α} (h : ∀ y ∈ p, f y = false) (hx : f x = true) : (p ++ x :: r).find? f = some x := by
  rw [List.find?_append, List.find?_eq_none.mpr (fun y hy => by rw [h y hy]; exact Bool.false_ne_true), List.find?_cons_of_pos hx]; rfl
section
variable {P : Program} {w : World} {K : PySem.W.Frag} {mg : Str → Option Value} {base : Heap}
theorem M_dkRem (E : Env P w K mg base) : FnR P w K mg base (L2.CX P w) 7 (He.ma K (cDk K) "remove") (spD K sDkRem) := by
  obtain ⟨fd, F⟩ := E.has _ in_m_Desk_remove
  have F : FunD K "remove" "Desk.remove" (defArgs m_Desk_remove) (defBody m_Desk_remove) (defScope m_Desk_remove) [.int 1] [] (He.ma K (cDk K) "remove") fd := F
  obtain ⟨us, hv, hb⟩ := F.binds1 (ps := ["self", "name", "number", "many"]) 4 1 (by simp) rfl fun T kV doc pm an cdv ct us its h1 h2 => match us, its, h1, h2 with | [_, _, _, _], [_], _, _ => ⟨_, rfl, rfl⟩
  have hus : us = [] := by cases hv; rfl
  subst hus
  refine raw0 ?_ hb
  refine fn_d F sc_m_Desk_remove (fun I ds P R h => by obtain ⟨A, S, c, n, k, m, rfl, _⟩ := h; rfl) fun cdv Ac outer s H EE hr tk po I ds Q R h => ?_
  obtain ⟨A, S, c, n, k, m, rfl, rfl, dc, o, hz, hk1, hk2, hm1, hm2, q⟩ := h
  have nd := sc_m_Desk_remove.nd
  have hr2 : Room 2 _ := hr.mono (by decide)
  have hr4 : Room 4 _ := hr.mono (by decide)
  have hr6 : Room 6 _ := hr
  cases hw : rowOf S.t n with
  | none =>
    have q := edP_inl (er := .unk n) (by simp only [editU, hw]) q
    exact s_cons (s_set 4 (ev_subOwn tk E.h_Cast_getitem.f E.h_Cast_getitem.i E.fn_Cast_getitem (M_cget E) hr4 ((pv_fld (d := cD K S.t) _ dc.l dc.aP (pv_v (d := .adr A.x) 0) rfl (eI := dk_ins)).ev ((pv_v (d := .str n) 1).ev ⟨insD_slo, S.t, n, rfl, o.nd, by rw [hw]; exact q⟩))))
  | some ws =>
    obtain ⟨hnl, hwl, hgw⟩ := row_gd o hw
    have eO : outK ws.length k m = ((List.range m).find? fun i : Nat => !(decide (0 ≤ k + (i : Int)) && decide (k + (i : Int) < (ws.length : Nat)))).map fun i : Nat => k + (i : Int) := by
      unfold outK
      rw [List.find?_map]; rfl
    refine s_cons (s_setP (d := .tup (ws.map (wrD K))) 4 (pv_cgetT E hr4 o.nd (pv_fld (d := cD K S.t) _ dc.l dc.aP (pv_v (d := .adr A.x) 0) rfl (eI := dk_ins)) (pv_v (d := .str n) 1) hw) ?_)
    refine s_cons (s_forT (xs := List.range m) (g := fun i : Nat => D.int (k + i)) po (PVI.is (vi_range2 E.b_range (pv_w (d := .int k) 2 rfl) (pv_op op_add (pv_w (d := .int k) 2 rfl) (pv_w (d := .int m) 3 rfl) p2_add) (by omega)) (by rw [show (k + (m : Int) - k).toNat = m by omega])) (fun p δ' I' => I' = c.fill (iDk K A S) ∧ (∀ i ∈ p, 0 ≤ k + (i : Int) ∧ k + (i : Int) < (ws.length : Nat)) ∧ ∃ o5, δ' = [some (.adr A.x), some (.str n), some (.int k), some (.int m), some (.tup (ws.map (wrD K))), o5]) ⟨rfl, (fun i hi => nomatch hi), none, rfl⟩ ?_ ?_)
    · rintro p x r δ' I' e ⟨rfl, hp, o5, rfl⟩
      refine ⟨_, [5], bind_name 5, ?_⟩
      refine s_one (s_ifP (PVT.is (c := !(decide (0 ≤ k + (x : Int)) && decide (k + (x : Int) < (ws.length : Nat)))) (ptn (pt_chn op_le op_lt pv_int (pv_w (d := .int (k + (x : Int))) 5 rfl) p2_le (pv_len E.b_len (pv_w (d := .tup (ws.map (wrD K))) 4 rfl) trivial) p2_lt)) (by rw [List.length_map])) (fun hb => ?_) fun hb => s_nil ?_)
      · have q := edP_inl (er := .num (k + (x : Int))) (by
          simp only [editU, hw]
          rw [eO, e, find_at (f := fun i : Nat => !(decide (0 ≤ k + (i : Int)) && decide (k + (i : Int) < (ws.length : Nat)))) (x := x) (fun y hy => by have := hp y hy; simp only [Bool.not_eq_false', Bool.and_eq_true, decide_eq_true_eq]; exact this) hb]; rfl) q
        exact s_one (s_rz tk E.x_NoWrite E.ini_NoWrite hr2 (ea_cons ((pv_w (d := .int (k + (x : Int))) 5 rfl).ev (ea_nil ⟨rfl, Nat.le_of_ble_eq_true rfl, q⟩))))
      · have hb' : 0 ≤ k + (x : Int) ∧ k + (x : Int) < (ws.length : Nat) := by simpa using hb
        refine ⟨rfl, fun i hi => ?_, _, rfl⟩
        rcases List.mem_append.mp hi with hi | hi
        · exact hp i hi
        · rw [List.mem_singleton.mp hi]; exact hb'
    · rintro δ' I' ⟨rfl, hp, o5, rfl⟩
      have h0 := hp 0 (List.mem_range.mpr hm1)
      have hk0 : 0 ≤ k := by simpa using h0.1
      have q := edP_inr (u := putR (oT S.t) n ((ws.take k.toNat).map some ++ (ws.drop (k.toNat + m)).map some)) (by
        simp only [editU, hw]
        rw [eO, List.find?_eq_none.mpr (fun y hy => by have := hp y hy; simpa using this)]; rfl) q
      have eC : (frO ((ws.take k.toNat).map some ++ (ws.drop (k.toNat + m)).map some)).map (Th.d K) = cutD (ws.map (wrD K)) none (some k) ++ (cutD (ws.map (wrD K)) (some (k + m)) none ++ []) := by
        rw [fr_app, fr_some, fr_some, cutT_take _ hk0, cutT_drop _ (show (0:Int) ≤ k + m by omega), show (k + (m : Int)).toNat = k.toNat + m by omega, List.append_nil, ← List.map_take, ← List.map_drop]
      refine s_one (s_expr (ev_chW E tk hr6 dc o hz (pv_w (d := .adr A.x) 0 rfl) (pv_w (d := .adr A.x) 0 rfl) (pv_w (d := .str n) 1 rfl) (v := .tp (frO ((ws.take k.toNat).map some ++ (ws.drop (k.toNat + m)).map some))) (PV.is (pv_tup (va_star (pv_slT (pv_w (d := .tup (ws.map (wrD K))) 4 rfl) vo_none (vo_some (pv_w (d := .int k) 2 rfl))) (va_star (pv_slT (pv_w (d := .tup (ws.map (wrD K))) 4 rfl) (vo_some (pv_op op_add (pv_w (d := .int k) 2 rfl) (pv_w (d := .int m) 3 rfl) p2_add)) vo_none) va_nil)) ?_) (congrArg D.tup eC.symm)) (by omega) (.inr rfl) ?_ ?_ q))
      · rw [← eC, List.length_map]; unfold frO; rw [List.length_map, List.length_append, List.length_map, List.length_map, List.length_take, List.length_drop]; omega
      · intro x hx
        rcases List.mem_append.mp hx with hx | hx
        · exact hgw x (List.mem_of_mem_take (some_map hx))
        · exact hgw x (List.mem_of_mem_drop (some_map hx))
      · rw [List.length_append, List.length_map, List.length_map, List.length_take, List.length_drop]; omega
theorem M_dkDrop (E : Env P w K mg base) : FnR P w K mg base (L2.CX P w) 7 (He.ma K (cDk K) "drop") (spD K sDkDrop) := mk_m_Desk_drop E fun fd F => by
  refine fn_d F sc_m_Desk_drop (fun I ds P R h => by obtain ⟨A, S, c, n, rfl, _⟩ := h; rfl) fun cdv Ac outer s H EE hr tk po I ds Q R h => ?_
  obtain ⟨A, S, c, n, rfl, rfl, dc, o, hz, q⟩ := h
  have nd := sc_m_Desk_drop.nd
  have hu := hr.units
  have hr1 : Room 1 _ := hr.mono (by decide)
  have hr2 : Room 2 _ := hr.mono (by decide)
  have hr3 : Room 3 _ := hr.mono (by decide)
  have hr5 : Room 5 _ := hr.mono (by decide)
  have hm := o.m
  have hC := dc.m "change_to" (by simp)
  refine s_cons (s_ifP (ptC_not E hr1 o.nd (pv_v (d := .str n) 1) (pv_fld (d := cD K S.t) _ dc.l dc.aP (pv_v (d := .adr A.x) 0) rfl (eI := dk_ins))) (fun hb => ?_) fun hb => s_nil ?_)
  · have hb : (rowOf S.t n).isSome = false := by simpa using hb
    have q := edP_inl (er := .unk n) (by simp only [editU]; exact if_neg (by rw [hb]; exact Bool.false_ne_true)) q
    exact s_one (s_rz tk E.x_UnknownWork E.ini_UnknownWork hr2 (ea_cons ((pv_v (d := .str n) 1).ev (ea_nil ⟨rfl, Nat.le_of_ble_eq_true rfl, q⟩))))
  · have hb : (rowOf S.t n).isSome = true := by simpa using hb
    have q := edP_inr (u := (oT S.t).filter fun p => decide (p.1 ≠ n)) (by simp only [editU]; exact if_pos hb) q
    have ndo : ((oT S.t).map (·.1)).Nodup := by rw [oT_names]; exact o.nd
    have hsb : (((oT S.t).filter fun p => decide (p.1 ≠ n)).map (·.1)).Sublist ((oT S.t).map (·.1)) := List.filter_sublist.map _
    have ndu := hsb.nodup ndo
    have hps : PassO ((oT S.t).filter fun p => decide (p.1 ≠ n)) (fun p => .tp (frO p.2)) := ⟨fun p _ => .inr rfl⟩
    have hmem : ∀ p ∈ (oT S.t).filter (fun p => decide (p.1 ≠ n)), p ∈ oT S.t := fun p hp => (List.mem_filter.mp hp).1
    have hwk : WksOk (wsO ((oT S.t).filter fun p => decide (p.1 ≠ n)) fun p => .tp (frO p.2)) := wks_of ndu hps (fun p hp => (oT_bd o (hmem p hp)).1) (fun p hp => by have := (oT_bd o (hmem p hp)).2.1; omega) (fun p hp => by have := (oT_bd o (hmem p hp)).2.2; omega) (by
      have := List.length_filter_le (fun p : Str × ORow => decide (p.1 ≠ n)) (oT S.t)
      have e : (oT S.t).length = S.t.length := by unfold oT; rw [List.length_map]
      omega)
    have eW : dicD ((S.t.filter fun p => decide (p.1 ≠ n)).map fun p => ((.inr p.1 : Key), rowD K p.2)) = wksD K (wsO ((oT S.t).filter fun p => decide (p.1 ≠ n)) fun p => .tp (frO p.2)) := by
      unfold wsO oT
      rw [List.filter_map, List.map_map]
      show dicD (List.map _ _) = dicD (List.map _ (List.map _ _))
      rw [List.map_map]
      refine congrArg dicD (List.map_congr_left fun p _ => ?_)
      show (_, _) = (Sum.inr p.1, D.tup (List.map (Th.d K) (frO (p.2.map some))))
      rw [fr_some]; rfl
    refine s_cons (s_setP (d := tbD K S.t) 2 (pv_sl E.k_Cast.sc E.s_Cast_table (pv_fld (d := cD K S.t) _ dc.l dc.aP (pv_v (d := .adr A.x) 0) rfl (eI := dk_ins)) rfl) ?_)
    refine s_one (s_expr (ev_methA tk ⟨fun f => dc.l.get f⟩ hC.1.f hC.1.i hC.1.k (hC.2 ▸ M_dkCh E) hr3 ((pv_w (d := .adr A.x) 0 rfl).ev ⟨insD_ins c (dk_none (by simp)) dk_ins, ?_⟩)))
    refine ea_cons (ev_cast E tk hr5 (PV.ev (d := wksD K (wsO ((oT S.t).filter fun p => decide (p.1 ≠ n)) fun p => .tp (frO p.2))) (PV.is (pv_dcTI (xs := S.t) (g := fun p => D.str p.1) (fun p => (.inr p.1 : Key)) (fun p => rowD K p.2) (fun p => decide (p.1 ≠ n)) [("other", 3)] (fun p => [some (.adr A.x), some (.str n), some (tbD K S.t), some (.str p.1)]) (vi_dicT (pv_w (d := tbD K S.t) 2 rfl)) (by omega) (fun p s H C cl fp => bind_name 3) (fun p hp J s H C cl fp => ?_) (fun p hp J s H C cl fp => pv_w (d := .str p.1) 3 rfl) (fun p hp J s H C cl fp => ?_) ?_) eW) ⟨_, rfl, hwk, ?_⟩))
    · exact PVT.is (pt_ne hu (pv_w (d := .str p.1) 3 rfl) (pv_w (d := .str n) 1 rfl) trivial) (by simp)
    · exact pv_dget hr.u1 (.inl rfl) (pv_w (d := tbD K S.t) 2 rfl) (pv_w (d := .str p.1) 3 rfl) rfl (get_dicT o.nd hp)
    · have := nd_keys o.nd
      rwa [List.map_map] at this
    · rw [fault_of ndu hps]
      cases hbd : badO ((oT S.t).filter fun p => decide (p.1 ≠ n)) with
      | some no => rw [hbd] at q; exact q
      | none =>
        rw [hbd] at q
        have hgd := good_of ndu (fun p hp => (oT_bd o (hmem p hp)).1) hbd
        refine ea_nil ⟨A, S, c, sortW (tbOf ((oT S.t).filter fun p => decide (p.1 ≠ n))), ?_, rfl, dc, hz, q⟩
        rw [ctb_of ndu hps hgd.1]; rfl
theorem M_dkGet (E : Env P w K mg base) : FnR P w K mg base (L2.CX P w) 5 (He.ma K (cDk K) "__getitem__") (spD K sDkGet) := mk_m_Desk_getitem E fun fd F => by
  refine fn_d F sc_m_Desk_getitem (fun I ds P R h => by obtain ⟨A, S, c, n, k, rfl, _⟩ := h; rfl) fun cdv Ac outer s H EE hr tk po I ds Q R h => ?_
  obtain ⟨A, S, c, n, k, rfl, rfl, dc, o, q⟩ := h
  have nd := sc_m_Desk_getitem.nd
  have hr2 : Room 2 _ := hr.mono (by decide)
  have hr4 : Room 4 _ := hr
  refine s_cons (s_asgP (d := .tup [.str n, .int k]) (pv_v 1) (bind_tup (ws := [2, 3]) (bs_cons (bind_name 2) (bs_cons (bind_name 3) bs_nil))) ?_)
  cases hw : rowOf S.t n with
  | none =>
    rw [hw] at q
    exact s_cons (s_set 4 (ev_subOwn tk E.h_Cast_getitem.f E.h_Cast_getitem.i E.fn_Cast_getitem (M_cget E) hr4 ((pv_fld (d := cD K S.t) _ dc.l dc.aP (pv_w (d := .adr A.x) 0 rfl) rfl (eI := dk_ins)).ev ((pv_w (d := .str n) 2 rfl).ev ⟨insD_slo, S.t, n, rfl, o.nd, by rw [hw]; exact q⟩))))
  | some ws =>
    rw [hw] at q
    obtain ⟨hnl, hwl, hgw⟩ := row_gd o hw
    refine s_cons (s_setP (d := .tup (ws.map (wrD K))) 4 (pv_cgetT E hr4 o.nd (pv_fld (d := cD K S.t) _ dc.l dc.aP (pv_w (d := .adr A.x) 0 rfl) rfl (eI := dk_ins)) (pv_w (d := .str n) 2 rfl) hw) ?_)
    refine s_cons (s_ifP (PVT.is (c := !(decide (0 ≤ k) && decide (k < (ws.length : Nat)))) (ptn (pt_chn op_le op_lt pv_int (pv_w (d := .int k) 3 rfl) p2_le (pv_len E.b_len (pv_w (d := .tup (ws.map (wrD K))) 4 rfl) trivial) p2_lt)) (by rw [List.length_map])) (fun hb => ?_) fun hb => s_nil ?_)
    · have hb' : ¬ (0 ≤ k ∧ k < (ws.length : Nat)) := fun h => by simp [h.1, h.2] at hb
      have eg : getW ws k = none := by
        unfold getW
        split
        · rename_i h0
          exact List.getElem?_eq_none (by omega)
        · rfl
      simp only [eg] at q
      exact s_one (s_rz tk E.x_NoWrite E.ini_NoWrite hr2 (ea_cons ((pv_w (d := .int k) 3 rfl).ev (ea_nil ⟨rfl, Nat.le_of_ble_eq_true rfl, q⟩))))
    · have hb' : 0 ≤ k ∧ k < (ws.length : Nat) := by simpa using hb
      obtain ⟨j, rfl⟩ : ∃ j : Nat, k = (j : Int) := ⟨k.toNat, by omega⟩
      have hj : j < ws.length := by omega
      have eg : getW ws (j : Int) = some ws[j] := by
        unfold getW
        rw [if_pos hb'.1, Int.toNat_natCast, List.getElem?_eq_getElem hj]
      simp only [eg] at q
      exact s_one (s_retP (pv_ix ix_tup (pv_w (d := .tup (ws.map (wrD K))) 4 rfl) (pv_w (d := .int (j : Int)) 3 rfl) (p2_ixT (atI_m (List.getElem?_eq_getElem hj)))) q)
theorem M_dkUndo (E : Env P w K mg base) : FnR P w K mg base (L2.CX P w) 3 (He.ma K (cDk K) "undo") (spD K sDkUndo) := mk_m_Desk_undo E fun fd F => by
  refine fn_d F sc_m_Desk_undo (fun I ds P R h => by obtain ⟨A, S, dq, dl, c, rfl, _⟩ := h; rfl) fun cdv Ac outer s H EE hr tk po I ds Q R h => ?_
  obtain ⟨A, S, dq, dl, c, rfl, rfl, dc, lq, ll, hz, q⟩ := h
  have nd := sc_m_Desk_undo.nd
  have hu := hr.units0
  have hr2 : Room 2 _ := hr
  have hT := dc.m "tell" (by simp)
  have hl0 : ∀ (t : Tb) (a b : D), decide ((dkFg K A.w t a b A.ex).length < 1000) = true := fun t a b => by
    have := exL_len A.ex
    refine decide_eq_true ?_
    show (exL A.ex).length + 7 < 1000
    omega
  refine s_cons (s_ifP (pt_eqNil hu (pv_fld (d := dq) c dc.l dc.aQ (pv_v (d := .adr A.x) 0) rfl) (lq _)) (fun hb => ?_) fun hb => s_nil ?_)
  · have hb : S.past = [] := by simpa using hb
    rcases q with ⟨_, q⟩ | ⟨p, u, e, _⟩
    · exact s_one (s_retP pv_bl q)
    · rw [hb] at e; simp at e
  · have hb : S.past ≠ [] := by simpa using hb
    rcases q with ⟨e, _⟩ | ⟨p, u, e, q⟩
    · exact absurd e hb
    · rw [e] at lq
      refine s_cons (s_fldP c dc.l dc.aL (pv_v (d := .adr A.x) 0) (PV.is (pv_lst (va_starI (pv_fld (d := dl) c dc.l dc.aL (pv_v (d := .adr A.x) 0) rfl) (ll _) (va_cons (pv_fld (d := cD K S.t) c dc.l dc.aP (pv_v (d := .adr A.x) 0) rfl) va_nil)) (by rw [List.length_append, List.length_map]; show _ + 1 ≤ _; omega)) (z := .lst ((S.later ++ [S.t]).map (cD K))) (by rw [List.map_append]; rfl)) ?_ (hl := hl0 _ _ _))
      refine SX.eq (I' := c.fill (iIns K A.x A.C A.dx (dkFg K A.w S.t dq (.lst ((S.later ++ [S.t]).map (cD K))) A.ex))) rfl ?_
      refine s_cons (s_fldP c dc.l dc.aP (pv_v (d := .adr A.x) 0) (pv_ix (z := cD K u) ix_list (pv_fld (d := dq) c dc.l dc.aQ (pv_v (d := .adr A.x) 0) rfl) (pv_neg pv_int) (p2_ixI (lq _) (by rw [List.map_append]; exact atI_lastU ..))) ?_ (hl := hl0 _ _ _))
      refine SX.eq (I' := c.fill (iIns K A.x A.C A.dx (dkFg K A.w u dq (.lst ((S.later ++ [S.t]).map (cD K))) A.ex))) rfl ?_
      refine s_cons (s_fldP c dc.l dc.aQ (pv_v (d := .adr A.x) 0) (PV.is (pv_slI (pv_fld (d := dq) c dc.l dc.aQ (pv_v (d := .adr A.x) 0) rfl) (lq _) vo_none (vo_some (pv_neg pv_int))) (z := .lst (p.map (cD K))) (by rw [cut_init, List.map_append]; simp)) ?_ (hl := hl0 _ _ _))
      refine SX.eq (I' := c.fill (iDk K A ⟨u, p, S.later ++ [S.t]⟩)) rfl ?_
      refine s_cons (s_expr (ev_meth0 tk ⟨fun f => dc.l.get f⟩ hT.1.f hT.1.i hT.1.k (hT.2 ▸ M_dkTell E) hr2 ((pv_v (d := .adr A.x) 0).ev ⟨insD_ins c (dk_none (by simp)) dk_ins, A, _, c, rfl, rfl, dc, ?_⟩)))
      exact s_one (s_retP pv_bl q)
theorem M_dkRedo (E : Env P w K mg base) : FnR P w K mg base (L2.CX P w) 3 (He.ma K (cDk K) "redo") (spD K sDkRedo) := mk_m_Desk_redo E fun fd F => by
  refine fn_d F sc_m_Desk_redo (fun I ds P R h => by obtain ⟨A, S, c, rfl, _⟩ := h; rfl) fun cdv Ac outer s H EE hr tk po I ds Q R h => ?_
  obtain ⟨A, S, c, rfl, rfl, dc, hz, q⟩ := h
  have nd := sc_m_Desk_redo.nd
  have hu := hr.units0
  have hr2 : Room 2 _ := hr
  have hT := dc.m "tell" (by simp)
  refine s_cons (s_ifP (pt_eqNil hu (pv_fld (d := .lst (S.later.map (cD K))) _ dc.l dc.aL (pv_v (d := .adr A.x) 0) rfl (eI := dk_ins)) LsI.k) (fun hb => ?_) fun hb => s_nil ?_)
  · have hb : S.later = [] := by simpa using hb
    rcases q with ⟨_, q⟩ | ⟨p, u, e, _⟩
    · exact s_one (s_retP pv_bl q)
    · rw [hb] at e; simp at e
  · have hb : S.later ≠ [] := by simpa using hb
    rcases q with ⟨e, _⟩ | ⟨p, u, e, q⟩
    · exact absurd e hb
    · refine s_cons (s_fldP c dc.l dc.aQ (pv_v (d := .adr A.x) 0) (PV.is (pv_lst (va_starL (pv_fld (d := .lst (S.past.map (cD K))) _ dc.l dc.aQ (pv_v (d := .adr A.x) 0) rfl (eI := dk_ins)) (va_cons (pv_fld (d := cD K S.t) _ dc.l dc.aP (pv_v (d := .adr A.x) 0) rfl (eI := dk_ins)) va_nil)) (by rw [List.length_append, List.length_map]; show _ + 1 ≤ _; omega)) (z := .lst ((S.past ++ [S.t]).map (cD K))) (by rw [List.map_append]; rfl)) ?_ (eI := dk_ins) (hl := dk_l))
      refine SX.eq (I' := c.fill (iDk K A ⟨S.t, S.past ++ [S.t], S.later⟩)) rfl ?_
      refine s_cons (s_fldP c dc.l dc.aP (pv_v (d := .adr A.x) 0) (pv_ix (z := cD K u) ix_list (pv_fld (d := .lst (S.later.map (cD K))) _ dc.l dc.aL (pv_v (d := .adr A.x) 0) rfl (eI := dk_ins)) (pv_neg pv_int) (p2_ixL (by rw [e, List.map_append]; exact atI_lastU ..))) ?_ (eI := dk_ins) (hl := dk_l))
      refine SX.eq (I' := c.fill (iDk K A ⟨u, S.past ++ [S.t], S.later⟩)) rfl ?_
      refine s_cons (s_fldP c dc.l dc.aL (pv_v (d := .adr A.x) 0) (PV.is (pv_slL (pv_fld (d := .lst (S.later.map (cD K))) _ dc.l dc.aL (pv_v (d := .adr A.x) 0) rfl (eI := dk_ins)) vo_none (vo_some (pv_neg pv_int))) (z := .lst (p.map (cD K))) (by rw [cut_init, e, List.map_append]; simp)) ?_ (eI := dk_ins) (hl := dk_l))
      refine SX.eq (I' := c.fill (iDk K A ⟨u, S.past ++ [S.t], p⟩)) rfl ?_
      refine s_cons (s_expr (ev_meth0 tk ⟨fun f => dc.l.get f⟩ hT.1.f hT.1.i hT.1.k (hT.2 ▸ M_dkTell E) hr2 ((pv_v (d := .adr A.x) 0).ev ⟨insD_ins c (dk_none (by simp)) dk_ins, A, _, c, rfl, rfl, dc, ?_⟩)))
      exact s_one (s_retP pv_bl q)
end
end LK
set_option Elab.async false
set_option linter.all false
set_option maxRecDepth 100000
set_option maxHeartbeats 1000000
namespace LK
open PySem PySem.Spec PyProof.Rows L2 DL
structure RwOk (t : Tb) (w : Nat) (r : Rw) : Prop where
  cl : r.cells.length = w
  w1 : 1 ≤ w
  w99 : w ≤ 99
  co : r.co ≤ w
  ci : ∀ c ∈ r.cells, CellIn t c
section
variable {K : PySem.W.Frag} {t : Tb} {me : Pc} {b x dx : Addr} {r : Rw} {c : Rc K} {w : Nat}
theorem cell_none : CellIn t none := fun x h => nomatch h
theorem set_ci {l : List Cell} {i : Nat} {z : Cell} (h : ∀ c ∈ l, CellIn t c) (hz : CellIn t z) : ∀ c ∈ l.set i z, CellIn t c := fun c hc => (List.mem_or_eq_of_mem_set hc).elim (h c) fun e => e ▸ hz
theorem rep_ci {n : Nat} : ∀ c ∈ List.replicate n (none : Cell), CellIn t c := fun c hc => by
  rw [(List.mem_replicate.mp hc).2]
  exact cell_none
theorem RwOk.take (h : RwOk t w r) {i : Nat} : RwOk t w (rTake t i r) := ⟨by show (r.cells.set i none).length = w; rw [List.length_set]; exact h.cl, h.w1, h.w99, h.co, set_ci h.ci cell_none⟩
theorem RwOk.leave {wr : Bool} (h : RwOk t w r) : RwOk t w (rLeave t me wr r) := ⟨by show (List.replicate r.cells.length none).length = w; rw [List.length_replicate]; exact h.cl, h.w1, h.w99, Nat.zero_le _, rep_ci⟩
theorem RwOk.zero (h : RwOk t w r) : RwOk t w { r with co := 0 } := ⟨h.cl, h.w1, h.w99, Nat.zero_le _, h.ci⟩
theorem RwOk.foldT (h : RwOk t w r) : ∀ l : List Nat, RwOk t w (l.foldl (fun r c => rTake t c r) r) := fun l => snoc_ind (Q := fun l => RwOk t w (l.foldl (fun r c => rTake t c r) r)) h (fun l a ih => by rw [List.foldl_append]; exact ih.take) l
theorem RwOk.erase (h : RwOk t w r) : RwOk t w (rErase t r) := h.foldT _
theorem RwOk.word {wd : Str} (h : RwOk t w r) : RwOk t w (rWord t me wd r) := by
  have h1 : RwOk t w (rWord1 wd r) := by
    unfold rWord1
    split
    · exact h.zero
    · exact h
  have h2 : RwOk t w (rWord2 t wd (rWord1 wd r)) := by
    unfold rWord2
    split
    · exact h1.erase
    · exact h1
  unfold rWord rWord3
  split
  · exact h2.leave
  · exact h2
theorem RwOk.reply (h : RwOk t w r) : RwOk t w (rReply t me r) := by
  unfold rReply
  split
  · exact ⟨h.cl, h.w1, h.w99, h.co, h.ci⟩
  · exact h
theorem RwOk.wrap (h : RwOk t w r) : RwOk t w (rWrap t me r) ∧ (rWrap t me r).co < w := by
  unfold rWrap
  have h1 := h.w1
  have h2 := h.co
  have h3 := h.cl
  split
  · exact ⟨h.leave, by show 0 < w; omega⟩
  · exact ⟨h, by omega⟩
theorem RwOk.put1 {z : Cell} (h : RwOk t w r) (hc : r.co < w) (hz : CellIn t z) : RwOk t w (rPut1 t z r) := ⟨by show ((r.cells.set r.co none).set r.co z).length = w; rw [List.length_set, List.length_set]; exact h.cl, h.w1, h.w99, hc, set_ci (set_ci h.ci cell_none) hz⟩
theorem RwOk.put {j : Nat} (h : RwOk t w r) (hz : CellIn t (some (me.1, me.2, j))) : RwOk t w (rPut t me r j) := h.wrap.1.put1 h.wrap.2 hz
end
section
variable {P : Program} {w : World} {K : PySem.W.Frag} {mg : Str → Option Value} {base : Heap}
end
end LK
set_option Elab.async false
set_option linter.all false
set_option maxRecDepth 100000
set_option maxHeartbeats 1000000
namespace LK
open PySem PySem.Spec PyProof.Rows L2 DL
section
variable {P : Program} {w : World} {K : PySem.W.Frag} {mg : Str → Option Value} {base : Heap}
end
end LK
set_option Elab.async false
set_option linter.all false
set_option maxRecDepth 100000
set_option maxHeartbeats 1000000
namespace LK
open PySem PySem.Spec PyProof.Rows L2 DL
section
variable {P : Program} {w : World} {K : PySem.W.Frag} {mg : Str → Option Value} {base : Heap}
end
end LK
set_option Elab.async false
set_option linter.all false
set_option maxRecDepth 100000
set_option maxHeartbeats 1000000
namespace LK
open PySem PySem.Spec PyProof.Rows L2 DL
section
variable {P : Program} {w : World} {K : PySem.W.Frag} {mg : Str → Option Value} {base : Heap}
end
end LK
set_option Elab.async false
set_option linter.all false
set_option maxRecDepth 100000
set_option maxHeartbeats 1000000
namespace LK
open PySem PySem.Spec PyProof.Rows L2 DL
section
variable {P : Program} {w : World} {K : PySem.W.Frag} {mg : Str → Option Value} {base : Heap}
end
end LK
set_option Elab.async false
set_option linter.all false
set_option maxRecDepth 100000
set_option maxHeartbeats 1000000
namespace DL
open PySem PySem.Spec PyProof.Rows L2
end DL
namespace LK
open PySem PySem.Spec PyProof.Rows L2 DL
abbrev cT (K : PySem.W.Frag) : Addr := He.ga K "Stage"
structure SitOk (t : Tb) (w : Nat) (s : Sit) : Prop where
  v : VS t s.cs s.b
  cl : s.cl = [] ∨ s.cl.length = w
  co : s.co ≤ w
  ci : ∀ c ∈ s.cl, CellIn t c
structure StA where
  x : Addr
  dx : Addr
  xc : Addr
  dxc : Addr
  q : Addr
section
variable {P : Program} {wd : World} {K : PySem.W.Frag} {t : Tb} {w : Nat} {hs few : List Pc} {A : StA} {kds : List (NestedKey × D)} {c : Rc K}
end
section
variable {t : Tb} {w : Nat} {hs few : List Pc} {s : Sit}
theorem RwOk.perf {me : Pc} {r : Rw} (o : TbOk t) (h : RwOk t w r) (hme : me.2 < Fits.lenT' t me.1) : RwOk t w (rPerf t me r) := by
  obtain ⟨ws, hws, hwk, gw, hmt⟩ := wr_at o hme
  have h1 : RwOk t w (rReply t me (rWord t me (wrAt t me.1 me.2).l r)) := h.word.reply
  have okj : ∀ k, k ≤ lenP t me → RwOk t w ((List.range k).foldl (rPut t me) (rReply t me (rWord t me (wrAt t me.1 me.2).l r))) := by
    intro k
    induction k with
    | zero => exact fun _ => h1
    | succ k ih =>
      intro hk
      rw [List.range_succ, List.foldl_append]
      exact (ih (by omega)).put fun z hz => by
        cases hz
        exact ⟨List.mem_map.mpr ⟨_, hmt, rfl⟩, hme, hk⟩
  exact (okj _ (Nat.le_refl _)).word
theorem next_in (o : TbOk t) {n : Str} (hn : n ∈ readyS t s.cs s.b) : nextN t s.cs n < Fits.lenT' t n ∧ n ∈ nmT t := by
  obtain ⟨i, p, hp, e1, e2, e3⟩ := ready_at o hn
  refine ⟨?_, ready_nm hn⟩
  unfold nextN Fits.lenT'
  rw [← e1] at e2 ⊢
  rw [e2, rowOf_some o.nd (List.mem_of_getElem? hp)]
  exact e3
theorem sitC_ok (o : TbOk t) (h : SitOk t w s) (w1 : 1 ≤ w) (w99 : w ≤ 99) {me : Pc} (hme : me.2 < Fits.lenT' t me.1) : ((sitC t few me s).2 = [] ∨ (sitC t few me s).2.length = w) ∧ (sitC t few me s).1 ≤ w ∧ ∀ c ∈ (sitC t few me s).2, CellIn t c := by
  unfold sitC
  by_cases h1 : s.cl = [] ∨ me ∈ few
  · rw [if_pos h1]
    exact ⟨h.cl, h.co, h.ci⟩
  · rw [if_neg h1]
    have hl : s.cl.length = w := h.cl.resolve_left fun e => h1 (.inl e)
    have ok : RwOk t w (rwN t s me) := RwOk.perf o ⟨hl, w1, w99, h.co, h.ci⟩ hme
    by_cases h2 : (rwN t s me).sp = true
    · rw [if_pos h2]
      exact ⟨.inl rfl, Nat.zero_le _, fun c hc => nomatch hc⟩
    · rw [if_neg h2]
      exact ⟨.inr ok.cl, ok.co, ok.ci⟩
theorem SitOk.next (o : TbOk t) (h : SitOk t w s) (w1 : 1 ≤ w) (w99 : w ≤ 99) {n : Str} (hn : n ∈ readyS t s.cs s.b) : SitOk t w (sitN t hs few s n) := by
  obtain ⟨hk, _⟩ := next_in o hn
  obtain ⟨h1, h2, h3⟩ := sitC_ok (few := few) o h w1 w99 (me := (n, nextN t s.cs n)) hk
  exact ⟨(h.v.after o hn).1, h1, h2, h3⟩
theorem SitOk.start : SitOk t w (sit0 t w) := ⟨VS.start t, .inr List.length_replicate, Nat.zero_le _, rep_ci⟩
end
section
variable {X : Cx} {I : Iv X.K} {o a b : Expr} {δ : DEnv} {apos pos : Pos} {x : Addr} {t : Tb} {hs : List Pc} {cs : List Nat} {n : Str}
end
section
variable {P : Program} {w : World} {K : PySem.W.Frag} {mg : Str → Option Value} {base : Heap}
end
end LK
set_option Elab.async false
set_option linter.all false
set_option maxRecDepth 100000
set_option maxHeartbeats 1000000
namespace LK
open PySem PySem.Spec PyProof.Rows L2 DL
section
variable {P : Program} {w : World} {K : PySem.W.Frag} {mg : Str → Option Value} {base : Heap}
end
end LK
set_option Elab.async false
set_option linter.all false
set_option maxRecDepth 100000
set_option maxHeartbeats 1000000
namespace LK
open PySem PySem.Spec PyProof.Rows L2 DL
section
variable {t : Tb} {hs few : List Pc} {w : Nat} {s : Sit} {ns : List Str}
def badL (t : Tb) (hs few : List Pc) (s : Sit) : List (List Str) := (allF t hs (s.cs, s.b)).filter fun r => !endGood t (r.foldl (sitN t hs few) s)
def badN (t : Tb) (hs few : List Pc) (s : Sit) : Nat := (badL t hs few s).length
theorem sitO_cs (ns : List Str) : (sitO t hs few w ns).cs = (stO t hs ns).1 := congrArg Prod.fst (sitO_st ns)
theorem pref_sum (o : TbOk t) {k : Nat} (h : ns ∈ prefO t hs k) : (sitO t hs few w ns).cs.sum = k ∧ ns.length = k := by
  obtain ⟨_, h1, h2⟩ := prefO_ok o k ns h
  exact ⟨by rw [sitO_cs]; exact h1, h2⟩
def cellK : Cell → NestedKey
  | none => .tup []
  | some x => .tup [.text x.1, .num x.2.1, .num x.2.2]
def keySL (s : Sit) : List NestedKey := [.tup (s.cs.map fun n : Nat => .num n), .text s.b, .num s.co, .tup (s.cl.map cellK)]
def keyS (s : Sit) : NestedKey := .tup (keySL s)
theorem num_inj {cs ds : List Nat} (h : cs.map (fun n : Nat => NestedKey.num n) = ds.map fun n : Nat => NestedKey.num n) : cs = ds := by
  induction cs generalizing ds with
  | nil => cases ds with
    | nil => rfl
    | cons d ds => cases h
  | cons c cs ih => cases ds with
    | nil => cases h
    | cons d ds =>
      rw [List.map_cons, List.map_cons] at h
      obtain ⟨h1, h2⟩ := List.cons.inj h
      have h3 : (c : Int) = d := NestedKey.num.inj h1
      rw [ih h2, show c = d by omega]
theorem cell_inj {l m : List Cell} (h : l.map cellK = m.map cellK) : l = m := by
  induction l generalizing m with
  | nil => cases m with
    | nil => rfl
    | cons d ds => cases h
  | cons c cs ih => cases m with
    | nil => cases h
    | cons d ds =>
      rw [List.map_cons, List.map_cons] at h
      obtain ⟨h1, h2⟩ := List.cons.inj h
      rw [ih h2]
      congr 1
      cases c with
      | none => cases d with
        | none => rfl
        | some y => simp [cellK] at h1
      | some x => cases d with
        | none => simp [cellK] at h1
        | some y =>
          simp only [cellK, NestedKey.tup.injEq, List.cons.injEq, NestedKey.text.injEq, NestedKey.num.injEq, and_true] at h1
          obtain ⟨a, b, c⟩ := h1
          exact congrArg some (Prod.ext a (Prod.ext (by omega) (by omega)))
theorem keyS_inj {s s' : Sit} (h : keyS s = keyS s') : s = s' := by
  unfold keyS keySL at h
  simp only [NestedKey.tup.injEq, List.cons.injEq, NestedKey.text.injEq, NestedKey.num.injEq, and_true] at h
  obtain ⟨h1, h2, h3, h4⟩ := h
  obtain ⟨a, b, c, d⟩ := s
  obtain ⟨a', b', c', d'⟩ := s'
  have h3 : (c : Int) = c' := h3
  rw [show a = a' from num_inj h1, show b = b' from h2, show c = c' by omega, show d = d' from cell_inj h4]
def tellD (t : Tb) (hs few : List Pc) (s : Sit) : D := .tup [.int (cnt t hs s.cs s.b : Nat), .int (badN t hs few s : Nat)]
def begs (t : Tb) (hs : List Pc) : List (List Str) := (List.range (total t + 1)).flatMap (prefO t hs)
structure MemS (t : Tb) (hs few : List Pc) (w : Nat) (kds : List (NestedKey × D)) : Prop where
  nd : (kds.map (·.1)).Nodup
  all : ∀ p ∈ kds, ∃ ns, ns ∈ begs t hs ∧ p.1 = keyS (sitO t hs few w ns) ∧ p.2 = tellD t hs few (sitO t hs few w ns)
theorem MemS.nil : MemS t hs few w [] := ⟨List.nodup_nil, fun p hp => nomatch hp⟩
theorem MemS.len {kds : List (NestedKey × D)} (h : MemS t hs few w kds) : kds.length ≤ (begs t hs).length := by
  have h1 := nodup_len h.nd (m := (begs t hs).map fun ns => keyS (sitO t hs few w ns)) fun x hx => by
    obtain ⟨p, hp, rfl⟩ := List.mem_map.mp hx
    obtain ⟨ns, hn, e, _⟩ := h.all p hp
    exact List.mem_map.mpr ⟨ns, hn, e.symm⟩
  rwa [List.length_map, List.length_map] at h1
theorem MemS.val {kds : List (NestedKey × D)} (h : MemS t hs few w kds) {s : Sit} {d : D} (hd : getN kds (keyS s) = some d) : d = tellD t hs few s := by
  obtain ⟨ns, _, e, e2⟩ := h.all _ (LK.getN_mem hd)
  have e3 : s = sitO t hs few w ns := keyS_inj e
  rw [e3]
  exact e2
theorem MemS.add {kds : List (NestedKey × D)} (h : MemS t hs few w kds) (hn : ns ∈ begs t hs) (hg : getN kds (keyS (sitO t hs few w ns)) = none) : MemS t hs few w (kds ++ [(keyS (sitO t hs few w ns), tellD t hs few (sitO t hs few w ns))]) := by
  refine ⟨?_, fun p hp => ?_⟩
  · rw [List.map_append, List.nodup_append]
    refine ⟨h.nd, by simp, fun x hx y hy e => ?_⟩
    obtain ⟨p, hp, rfl⟩ := List.mem_map.mp hx
    rw [List.mem_singleton.mp hy] at e
    exact getN_not hg p hp e
  · rcases List.mem_append.mp hp with hp | hp
    · exact h.all p hp
    · rw [List.mem_singleton.mp hp]
      exact ⟨ns, hn, rfl, rfl⟩
def GrowS (t : Tb) (hs few : List Pc) (w : Nat) (kds kds' : List (NestedKey × D)) (m : Nat) : Prop := ∀ p ∈ kds', p ∈ kds ∨ ∃ ns, ns ∈ prefO t hs ns.length ∧ p.1 = keyS (sitO t hs few w ns) ∧ m ≤ ns.length
theorem GrowS.refl {kds : List (NestedKey × D)} {m : Nat} : GrowS t hs few w kds kds m := fun _ h => .inl h
theorem GrowS.trans {a b c : List (NestedKey × D)} {m n : Nat} (h1 : GrowS t hs few w a b m) (h2 : GrowS t hs few w b c n) (hn : m ≤ n) : GrowS t hs few w a c m := fun p hp => by
  rcases h2 p hp with h | ⟨ns, e1, e2, e3⟩
  · exact h1 p h
  · exact .inr ⟨ns, e1, e2, by omega⟩
theorem GrowS.weak {a b : List (NestedKey × D)} {m n : Nat} (h : GrowS t hs few w a b n) (hn : m ≤ n) : GrowS t hs few w a b m := fun p hp => (h p hp).imp id fun ⟨ns, e1, e2, e3⟩ => ⟨ns, e1, e2, by omega⟩
theorem GrowS.new (o : TbOk t) {kds kds' : List (NestedKey × D)} (g : GrowS t hs few w kds kds' (ns.length + 1)) (hp : ns ∈ prefO t hs ns.length) (hn : getN kds (keyS (sitO t hs few w ns)) = none) : getN kds' (keyS (sitO t hs few w ns)) = none := getN_none fun p hq e => by
  rcases g p hq with h | ⟨ms, e1, e2, e3⟩
  · exact getN_not hn p h e
  · have h1 := keyS_inj (e2.symm.trans e)
    have h2 := (pref_sum (few := few) (w := w) o e1).1
    have h3 := (pref_sum (few := few) (w := w) o hp).1
    rw [h1] at h2
    omega
theorem GrowS.add {kds kds' : List (NestedKey × D)} {d : D} (g : GrowS t hs few w kds kds' (ns.length + 1)) (hp : ns ∈ prefO t hs ns.length) : GrowS t hs few w kds (kds' ++ [(keyS (sitO t hs few w ns), d)]) ns.length := fun p hq => by
  rcases List.mem_append.mp hq with hq | hq
  · exact (g.weak (Nat.le_succ _)) p hq
  · rw [List.mem_singleton.mp hq]
    exact .inr ⟨ns, hp, rfl, Nat.le_refl _⟩
end
end LK
set_option Elab.async false
set_option linter.all false
set_option maxRecDepth 100000
set_option maxHeartbeats 4000000
namespace L2
open PySem PySem.Spec PyProof.Rows NdefX LamX
def cellO (c a : Addr) : HO := .ext fun h => h.IsCell c (some (.ref a))
abbrev CLs := List (Addr × Addr)
def clT (H : Hp) (cs : CLs) : Hp := fun b => match cs.lookup b with
  | some a => some (cellO b a)
  | none => H b
def clU (H : Hp) (cs : CLs) : Hp := fun b => match cs.lookup b with
  | some _ => none
  | none => H b
section
variable {P : Program} {w : World} {H H' : Hp} {h h' : Heap} {cs : CLs} {fs ex : List Addr} {b : Addr}
theorem clT_off (e : cs.lookup b = none) : clT H cs b = H b := by unfold clT; rw [e]
theorem clU_off (e : cs.lookup b = none) : clU H cs b = H b := by unfold clU; rw [e]
theorem clU_on {a : Addr} (e : cs.lookup b = some a) : clU H cs b = none := by unfold clU; rw [e]
theorem clU_some {o : HO} (e : clU H cs b = some o) : H b = some o ∧ cs.lookup b = none := by
  cases q : cs.lookup b with
  | none => rw [clU_off q] at e; exact ⟨e, rfl⟩
  | some a => rw [clU_on q] at e; cases e
theorem clU_none (e : H b = none) : clU H cs b = none := by
  cases q : cs.lookup b with
  | none => rw [clU_off q]; exact e
  | some a => exact clU_on q
theorem off_of {o : HO} (hc : ∀ b a, cs.lookup b = some a → H b = none) (e : H b = some o) : cs.lookup b = none := by
  cases q : cs.lookup b with
  | none => rfl
  | some a => rw [hc b a q] at e; cases e
theorem HOk.opened (x : HOk P w H h) (hc : ∀ b a, cs.lookup b = some a → H b = some (cellO b a)) : HOk P w (clU H cs) h := fun b o e => by
  obtain ⟨e1, _⟩ := clU_some e
  have off : ∀ {c : Addr} {u : HO}, H c = some u → (∀ a, u ≠ cellO c a) → clU H cs c = some u := fun {c u} q ne => by
    cases z : cs.lookup c with
    | none => rw [clU_off z]; exact q
    | some a => rw [hc c a z] at q; exact absurd (Option.some.inj q).symm (ne a)
  exact (x b o e1).stay (fun _ _ _ z => z) (fun _ z => off z fun a e => nomatch e) fun _ _ z => off z fun a e => nomatch e
theorem Un.back (u : Un fs ex (clU H cs) H' h h') (hc : ∀ b a, cs.lookup b = some a → H b = some (cellO b a)) (hx : ∀ b a, cs.lookup b = some a → b ∉ ex) (ho : ∀ b a, cs.lookup b = some a → ∃ o, h.get? b = some o) : Un fs ex H (clT H' cs) h h' := by
  have n : ∀ {b a : Addr}, cs.lookup b = some a → H' b = none := fun {b a} q => by
    obtain ⟨o, e⟩ := ho b a q
    exact u.free b o e (clU_on q) (hx b a q)
  have back : ∀ {c : Addr} {o : HO}, H c = some o → (∀ a, o ≠ cellO c a) → clU H cs c = some o := fun {c o} q ne => by
    cases z : cs.lookup c with
    | none => rw [clU_off z]; exact q
    | some a => rw [hc c a z] at q; exact absurd (Option.some.inj q).symm (ne a)
  have off : ∀ {c : Addr} {o : HO}, H' c = some o → clT H' cs c = some o := fun {c o} q => (clT_off (off_of (fun b a z => n z) q)).trans q
  refine ⟨fun b o e z => u.keep b o e (clU_none z), fun b o e z => u.slot b o e (clU_none z), fun b o e z x => ?_, u.there, fun b xs e => off (u.tups b xs (back e fun a z => nomatch z)), fun b o v e => off (u.frzs b o v (back e fun a z => nomatch z)), fun b ps e => ?_⟩
  · cases q : cs.lookup b with
    | none => rw [clT_off q]; exact u.free b o e (clU_none z) x
    | some a => rw [hc b a q] at z; cases z
  · obtain ⟨more, q⟩ := u.tbls b ps (back e fun a z => nomatch z)
    exact ⟨more, off q⟩
end
section
variable {P : Program} {w : World} {K : PySem.W.Frag} {mg : Str → Option Value} {base : Heap} {A : Around} {outer : List Env} {s s' : Shared} {H : Hp} {cs : CLs}
theorem Env0.opened (e : Env0 P w K mg base A outer s H) (hc : ∀ b a, cs.lookup b = some a → H b = some (cellO b a)) : Env0 P w K mg base A outer s (clU H cs) :=
  ⟨e.frames, e.mod, fun b o q => ⟨(e.bs b o q).1, clU_none (e.bs b o q).2⟩, e.bsz, e.funs, fun b q => clU_none (e.frf b q), e.hok.opened hc, e.bare⟩
end
end L2
set_option Elab.async false
set_option linter.all false
set_option maxRecDepth 100000
set_option maxHeartbeats 4000000
namespace L2
open PySem PySem.Spec PyProof.Rows NdefX LamX
section
variable {X : Cx} {pins : List (Addr × Obj)} {z : L2.St} {H : Hp} {s : Shared}
end
def TabA (G : Hp) (q : Str) (ps : Array Value) : Prop := TriplesOk ps.toList ∧ ∀ (pos : Pos) (cv : Value), codeAmong pos ps.toList = some cv → ∃ d, cv = .ref d ∧ G d = some (CodeO d q)
theorem TabA.nil {G : Hp} {q : Str} : TabA G q #[] := ⟨True.intro, fun pos cv h => nomatch (show codeAmong pos [] = some cv from h)⟩
theorem TabA.mono {G G' : Hp} {q : Str} {ps : Array Value} (t : TabA G q ps) (s : ∀ b o, G b = some o → G' b = some o) : TabA G' q ps := ⟨t.1, fun pos cv h => by
  obtain ⟨d, e, hd⟩ := t.2 pos cv h
  exact ⟨d, e, s _ _ hd⟩⟩
theorem TabA.add {G G' : Hp} {q : Str} {ps : Array Value} {pos : Pos} {d : Addr} (t : TabA G q ps) (s : ∀ b o, G b = some o → G' b = some o) (hd : G' d = some (CodeO d q)) : TabA G' q (ps ++ #[rawInt pos.line, rawInt pos.col, .ref d]) := by
  have eL : (ps ++ #[rawInt pos.line, rawInt pos.col, .ref d]).toList = ps.toList ++ [rawInt pos.line, rawInt pos.col, .ref d] := by simp
  refine ⟨by rw [eL]; exact PySem.TriplesOk_snoc _ _ _ _ t.1, fun p cv h => ?_⟩
  rw [eL] at h
  rcases among_app2 _ t.1 h with k | ⟨k, _, _⟩
  · exact (t.mono s).2 p cv k
  · exact ⟨d, k, hd⟩
end L2
set_option Elab.async false
set_option linter.all false
set_option maxRecDepth 100000
set_option maxHeartbeats 4000000
namespace DL
open PySem PySem.Spec PyProof.Rows L2 NdefX LamX
def iTab (K : PySem.W.Frag) (P : Addr) (q : Str) : Iv K := iObj K P (fun G o => ∃ ps, o = .tbl ps ∧ TabA G q ps) fun _ _ _ s ⟨ps, h1, h2⟩ => ⟨ps, h1, h2.mono s⟩
def iFnO (K : PySem.W.Frag) (f : Addr) (F : NF) : Iv K := iObj K f (fun G o => o = FnO f F ∧ G F.c = some (CodeO F.c F.qual)) fun _ _ _ s ⟨h1, h2⟩ => ⟨h1, s _ _ h2⟩
section
variable {X : Cx} {W : WX} {R : Rx X.K} {κ : Ko X.K} {δ : DEnv} {I : Iv X.K}
end
section
variable {P : Program} {w : World} {K : PySem.W.Frag} {mg : Str → Option Value} {base : Heap}
end
end DL
set_option Elab.async false
set_option linter.all false
set_option maxRecDepth 100000
set_option maxHeartbeats 4000000
namespace L2
open PySem PySem.Spec PyProof.Rows NdefX LamX
structure CloOk (F : NF) (fr : List Str) (cs : CLs) (as : List Addr) : Prop where
  len : as.length = fr.length
  all : ∀ y c, F.cl.lookup y = some c → ∃ a, cs.lookup c = some a
  inj : ∀ x y c, F.cl.lookup x = some c → F.cl.lookup y = some c → x = y
  has : ∀ (i : Nat) (y : Str), fr[i]? = some y → ∃ c a, F.cl.lookup y = some c ∧ cs.lookup c = some a ∧ as[i]? = some a
section
variable {X : Cx} {F : NF} {ps fr : List Str} {i j k : Nat} {x : Str} {cs : CLs} {as : List Addr} {sp : List (Option V) → Sp} {t : TA} {e : Expr} {es : List Expr} {p pos : Pos}
end
end L2
namespace DL
open PySem PySem.Spec PyProof.Rows L2 NdefX LamX
def iCells (K : PySem.W.Frag) (cs : CLs) : Iv K := ⟨fun b => ∃ a, cs.lookup b = some a, fun G H => ∀ b a, cs.lookup b = some a → H b = some (cellO b a), fun G G' H H' s k h b a e => (k b ⟨a, e⟩).trans (h b a e), fun G H h b ⟨a, e⟩ => by rw [h b a e]; exact fun z => nomatch z⟩
structure FoI {K : PySem.W.Frag} (I : Iv K) (f : Addr) (F : NF) : Prop where
  h : ∀ G H, Same G H → Hd I G H → H f = some (FnO f F) ∧ H F.c = some (CodeO F.c F.qual) ∧ I.F f
theorem FoI.m {K : PySem.W.Frag} {f : Addr} {F : NF} (c : Rc K) : FoI (c.fill (iFnO K f F)) f F := ⟨fun G H s h => by
  obtain ⟨o, ho, e, g⟩ := h.inner.ph
  subst e
  exact ⟨ho, s _ _ g, fill_in c f rfl⟩⟩
section
variable {X : Cx} {W : WX} {R : Rx X.K} {P : D → Iv X.K → Prop} {δ : DEnv} {I : Iv X.K} {F : NF} {f : Addr} {ps fr : List Str} {i j k : Nat} {x : Str} {S : Spec X.K} {e : Expr} {es : List Expr} {p pos : Pos}
end
end DL
set_option Elab.async false
set_option linter.all false
set_option maxRecDepth 100000
set_option maxHeartbeats 4000000
namespace L2
open PySem PySem.Spec PyProof.Rows NdefX LamX
section
variable {P : Program} {w : World} {K : PySem.W.Frag} {mg : Str → Option Value} {base : Heap} {x qual : Str} {params : Arguments} {body : List Stmt} {scope : Scope} {dvs : List V} {kws : List (Str × V)} {f : Addr} {fd : FuncData}
end
end L2
set_option Elab.async false
set_option linter.all false
set_option maxRecDepth 100000
set_option maxHeartbeats 4000000
namespace L2
open PySem PySem.Spec PyProof.Rows NdefX LamX
end L2
namespace DL
open PySem PySem.Spec PyProof.Rows L2 NdefX LamX
structure CloD (X : Cx) (j : Nat) (δ : DEnv) (I : Iv X.K) (Q : D → Iv X.K → Prop) : Prop where
  h : ∃ (f : Addr) (F : NF) (fr : List Str) (js : List Nat) (as : List Addr), δ[j]? = some (some (.adr f)) ∧ FoI I f F ∧ (X.Ok → Caps X F.cl fr js) ∧ fr.Nodup ∧ (∀ y c, F.cl.lookup y = some c → y ∈ fr) ∧ js.map (fun j => δ[j]?) = as.map (fun a => some (some (.adr a))) ∧ ∀ cs, CloOk F fr cs as → cs.lookup F.c = none → Q (.adr f) (I.and (iCells X.K cs))
section
variable {P : Program} {w : World} {K : PySem.W.Frag} {mg : Str → Option Value} {base : Heap} {x qual y : Str} {params : Arguments} {a b : Stmt} {scope : Scope} {dvs : List V} {kws : List (Str × V)} {f0 : Addr} {fd : FuncData} {p p2 : Pos}
end
end DL
set_option Elab.async false
set_option linter.all false
set_option maxRecDepth 100000
set_option maxHeartbeats 2000000
namespace DL
open PySem PySem.Spec PyProof.Rows L2 NdefX LamX
section
variable {X : Cx} {W : WX} {st : Stmt} {δ : DEnv} {I : Iv X.K} {q : Addr} {κ : Ko X.K}
theorem FoI.andL {K : PySem.W.Frag} {I J : Iv K} {f : Addr} {F : NF} (h : FoI I f F) : FoI (I.and J) f F := ⟨fun G H s hd => let ⟨a, b, c⟩ := h.h G H s hd.left; ⟨a, b, .inl c⟩⟩
end
end DL
set_option Elab.async false
set_option linter.all false
set_option maxRecDepth 100000
set_option maxHeartbeats 2000000
namespace LK
open PySem PySem.Spec PyProof.Rows L2 DL NdefX LamX
structure AskOk (t : Tb) (n : Nat) (l l2 : List Pc) (dh dc : D) : Prop where
  h : dh = .lst (l.map pairD) ∨ dh = .tup (l.map pairD)
  c : dc = .lst (l2.map pairD) ∨ dc = .tup (l2.map pairD)
  o : TbOk t
  n1 : 1 ≤ n
  n99 : n ≤ 99
  g : ∀ g ∈ l, g ∈ gapsT t
  gl : l.length ≤ 1000
  k : ∀ g ∈ l2, g ∈ linesT t
  kl : l2.length ≤ 1000
section
variable {P : Program} {w : World} {K : PySem.W.Frag} {mg : Str → Option Value} {base : Heap}
end
end LK
set_option Elab.async false
set_option linter.all false
set_option maxRecDepth 100000
set_option maxHeartbeats 2000000
namespace LK
open PySem PySem.Spec PyProof.Rows L2 DL
section
variable {t : Tb} {hs : List Pc}
end
structure PlA where
  p : Addr
  dp : Addr
  x : Addr
  dx : Addr
  xc : Addr
  dxc : Addr
  q : Addr
section
variable {K : PySem.W.Frag} {t : Tb} {w : Nat} {hs few : List Pc} {A : PlA} {ns : List Str} {c : Rc K}
end
structure PlOk (t : Tb) (w : Nat) (hs few : List Pc) (ns : List Str) : Prop where
  o : TbOk t
  n1 : 1 ≤ w
  n99 : w ≤ 99
  hk : ∀ g ∈ hs, PyData.strOk g.1 = true
  fl : ∀ g ∈ few, g ∈ linesT t
  fz : few.length ≤ 1000
  pre : ns ∈ prefO t hs ns.length
theorem PlOk.len {t : Tb} {w : Nat} {hs few : List Pc} {ns : List Str} (h : PlOk t w hs few ns) : ns.length ≤ total t := by
  have := prefO_ok h.o _ _ h.pre
  rw [← this.2.1]
  exact this.1.sum
abbrev rdyP (t : Tb) (hs : List Pc) (ns : List Str) : List Str := readyS t (stO t hs ns).1 (stO t hs ns).2
section
variable {P : Program} {w : World} {K : PySem.W.Frag} {mg : Str → Option Value} {base : Heap}
end
end LK
set_option Elab.async false
set_option linter.all false
set_option maxRecDepth 100000
set_option maxHeartbeats 2000000
namespace LK
open PySem PySem.Spec PyProof.Rows L2 DL
section
variable {t : Tb} {hs : List Pc}
end
section
variable {P : Program} {w : World} {K : PySem.W.Frag} {mg : Str → Option Value} {base : Heap}
end
end LK
set_option Elab.async false
set_option linter.all false
set_option maxRecDepth 100000
set_option maxHeartbeats 1000000
set_option pp.maxSteps 300
namespace LK
open PySem PySem.Spec PyProof.Rows L2 DL
def sDkCast {K : PySem.W.Frag} : Spec K := fun I ds P _ => ∃ (A : DkA) (t : Tb) (dq dl : D) (c : Rc K), ds = [.adr A.x] ∧ I = c.fill (iIns K A.x A.C A.dx (dkFg K A.w t dq dl A.ex)) ∧ DkC K A.C ∧ P (cD K t) I
def sDkWidth {K : PySem.W.Frag} : Spec K := fun I ds P _ => ∃ (A : DkA) (t : Tb) (dq dl : D) (c : Rc K), ds = [.adr A.x] ∧ I = c.fill (iIns K A.x A.C A.dx (dkFg K A.w t dq dl A.ex)) ∧ DkC K A.C ∧ P (.int A.w) I
section
variable {P : Program} {w : World} {K : PySem.W.Frag} {mg : Str → Option Value} {base : Heap}
theorem M_dkCast (E : Env P w K mg base) : ∃ fd, FnOk P w K mg base (L2.CX P w) 1 (gtr K (cDk K) "cast") fd ["self"] (spD K sDkCast) ∧ L2.Binds K fd ["self"] [] := by
  obtain ⟨fd, F⟩ := E.hasG _ in_m_Desk_cast
  have F : FunD K "cast" "Desk.cast" (defArgs m_Desk_cast) (defBody m_Desk_cast) (defScope m_Desk_cast) [] [] (gtr K (cDk K) "cast") fd := F
  refine ⟨fd, ?_, F.bindsN fun _ _ _ _ _ _ us hl => match us, hl with | [_], _ => rfl⟩
  refine fn_d F sc_m_Desk_cast (fun I ds P R h => by obtain ⟨A, t, dq, dl, c, rfl, _⟩ := h; rfl) fun cdv Ac outer s0 H EE hr tk po I ds Q R h => ?_
  obtain ⟨A, t, dq, dl, c, rfl, rfl, dc, q⟩ := h
  exact s_one (s_retP (pv_fld (d := cD K t) c dc.l dc.aP (pv_v (d := .adr A.x) 0) rfl) q)
theorem M_dkWidth (E : Env P w K mg base) : ∃ fd, FnOk P w K mg base (L2.CX P w) 1 (gtr K (cDk K) "width") fd ["self"] (spD K sDkWidth) ∧ L2.Binds K fd ["self"] [] := by
  obtain ⟨fd, F⟩ := E.hasG _ in_m_Desk_width
  have F : FunD K "width" "Desk.width" (defArgs m_Desk_width) (defBody m_Desk_width) (defScope m_Desk_width) [] [] (gtr K (cDk K) "width") fd := F
  refine ⟨fd, ?_, F.bindsN fun _ _ _ _ _ _ us hl => match us, hl with | [_], _ => rfl⟩
  refine fn_d F sc_m_Desk_width (fun I ds P R h => by obtain ⟨A, t, dq, dl, c, rfl, _⟩ := h; rfl) fun cdv Ac outer s0 H EE hr tk po I ds Q R h => ?_
  obtain ⟨A, t, dq, dl, c, rfl, rfl, dc, q⟩ := h
  exact s_one (s_retP (pv_fld (d := .int A.w) c dc.l dc.aS (pv_v (d := .adr A.x) 0) rfl) q)
theorem M_dkInit (E : Env P w K mg base) : ∃ fd, FnOk P w K mg base (L2.CX P w) 3 (He.ma K (cDk K) "__init__") fd ["self", "cast", "width"] (spD K sDkInit) ∧ L2.Binds K fd ["self", "cast", "width"] [] := by
  obtain ⟨fd, F⟩ := E.has _ in_m_Desk_init
  have F : FunD K "__init__" "Desk.__init__" (defArgs m_Desk_init) (defBody m_Desk_init) (defScope m_Desk_init) [] [] (He.ma K (cDk K) "__init__") fd := F
  refine ⟨fd, ?_, F.bindsN fun _ _ _ _ _ _ us hl => match us, hl with | [_, _, _], _ => rfl⟩
  refine fn_d F sc_m_Desk_init (fun I ds P R h => by obtain ⟨x, dx, C, J, t, n, rfl, _⟩ := h; rfl) fun cdv Ac outer s0 H EE hr tk po I ds Q R h => ?_
  obtain ⟨x, dx, C, J, t, n, rfl, rfl, dc, w1, w99, q⟩ := h
  have nd := sc_m_Desk_init.nd
  have hr2 : Room 2 _ := hr
  refine SX.k ?_
  refine s_cons (s_expr (PV.ev (d := .non) (pv_def (D_lookW E) hr2 (va_cons (pv_v (d := .int n) 2) va_nil) fun P pp => ⟨n, rfl, w1, w99, pp⟩) ?_))
  refine s_cons (s_fldP (.r J .here) dc.l dc.aP (pv_v (d := .adr x) 0) (pv_v (d := cD K t) 1) ?_)
  refine s_cons (s_fldP (.r J .here) dc.l dc.aS (pv_v (d := .adr x) 0) (pv_v (d := .int n) 2) ?_)
  refine SX.eq (I' := J.and (iIns K x C dx [("present", cD K t), ("span", .int n)])) rfl ?_
  refine s_cons (s_fld dc.l dc.aQ (ev_lstM' va_nil (by simp) fun p => ⟨.l (.r J .here) (iLst K p []), x, dx, _, rfl, pv_v (d := .adr x) 0, by simp, ?_⟩))
  refine SX.eq (I' := (J.and (iIns K x C dx [("present", cD K t), ("span", .int n), ("past", .adr p)])).and (iLst K p [])) rfl ?_
  refine s_cons (s_fld dc.l dc.aL (ev_lstM' va_nil (by simp) fun q' => ⟨.l (.l (.r J .here) (iLst K p [])) (iLst K q' []), x, dx, _, rfl, pv_v (d := .adr x) 0, by simp, ?_⟩))
  refine SX.eq (I' := ((J.and (iIns K x C dx [("present", cD K t), ("span", .int n), ("past", .adr p), ("later", .adr q')])).and (iLst K p [])).and (iLst K q' [])) rfl ?_
  refine s_cons (s_fldP (.l (.l (.r J .here) (iLst K p [])) (iLst K q' [])) dc.l dc.aW (pv_v (d := .adr x) 0) pv_dnew0 ?_)
  refine s_cons (s_fldP (.l (.l (.r J .here) (iLst K p [])) (iLst K q' [])) dc.l dc.aT (pv_v (d := .adr x) 0) pv_dnew0 ?_)
  refine s_one (s_fldP (.l (.l (.r J .here) (iLst K p [])) (iLst K q' [])) dc.l dc.aB (pv_v (d := .adr x) 0) pv_int ?_)
  exact ⟨_, Wk.assoc.trans Wk.assoc, q p q'⟩
end
theorem fz_home {K : PySem.W.Frag} {J : Iv K} {A : DkA} {S : DkS} {p q : Addr} : Fz (J.and (iHm K A S p q)) (J.and (iDk K A S)) := fun G H s h => by
  have h1 : Hd ((((J.and (iIns K A.x A.C A.dx (dkFg K A.w S.t (.adr p) (.adr q) A.ex))).and (iLst K p (S.past.map (cD K)))).and (iLst K q (S.later.map (cD K))))) G H := h.wk (Wk.assoc'.trans Wk.assoc')
  obtain ⟨G1, s1, t1, h2, r2⟩ := freeze_lst s h1
  obtain ⟨G2, s2, t2, h3, r3⟩ := freeze_lst t1 h2
  refine ⟨G2, s1.trans s2, t2, h3.left.mk2 ?_ h3.apart⟩
  obtain ⟨⟨e1, e2, vs, e3, e4⟩, e5⟩ := h3.right
  refine ⟨⟨e1, e2, vs, e3, ?_⟩, e5⟩
  obtain ⟨v1, l1, rfl, a1, v2, l2, rfl, a2, v3, l3, rfl, a3, v4, l4, rfl, a4, rest⟩ := e4
  have b3 : v3 = .ref p := a3
  have b4 : v4 = .ref q := a4
  subst b3 b4
  exact ⟨_, _, rfl, a1, _, _, rfl, a2, _, _, rfl, r3, _, _, rfl, r2.mono s2, rest⟩
end LK
set_option Elab.async false
set_option linter.all false
set_option maxRecDepth 100000
set_option maxHeartbeats 1000000
set_option pp.maxSteps 300
namespace LK
open PySem PySem.Spec PyProof.Rows L2 DL
def oW : Option Wr → D
  | some w => wr4 w
  | none => .non
def kO (o : Option Wr) : Str := (thO o).kind
abbrev tOD (u : OTb) : D := dicT u (·.1) fun p => .lst (p.2.map oW)
def badD : Option (Str × Option Nat) → D
  | none => .non
  | some p => .tup [.str p.1, nD p.2]
structure OTok (u : OTb) : Prop where
  nd : (u.map (·.1)).Nodup
  k : ∀ p ∈ u, ∀ w, some w ∈ p.2 → w.k ∈ kinds
  r : ∀ p ∈ u, p.2.length ≤ 1000
  n : ∀ p ∈ u, p.1.length ≤ 100000
  z : u.length ≤ 50
def sBad {K : PySem.W.Frag} : Spec K := fun I ds P _ => ∃ u : OTb, ds = [tOD u] ∧ OTok u ∧ P (badD (badO u)) I
theorem last_ask {ks : List Str} {i : Nat} (hi : i < ks.length) : (!decide ((ks.take i).drop ((ks.take i).length - 1) = (["ask"] : List Str))) = (decide (i = 0) || !decide (ks[i - 1]'(by omega) = ("ask" : Str))) := by
  cases i with
  | zero => simp
  | succ j =>
    have hj : j < ks.length := by omega
    have e1 : (ks.take (j + 1)).length = j + 1 := by rw [List.length_take]; omega
    have e2 : (ks.take (j + 1)).drop j = [ks[j]] := by
      rw [List.take_succ_eq_append_getElem hj, List.drop_append_of_le_length (by rw [List.length_take]; omega), List.drop_eq_nil_of_le (by rw [List.length_take]; omega), List.nil_append]
    have e3 : (ks.take (j + 1)).drop ((ks.take (j + 1)).length - 1) = [ks[j]] := by rw [e1]; exact e2
    simp only [e3]
    simp
theorem _root_.DL.PVW.is {X : Cx} {I : Iv X.K} {e : Expr} {δ : DEnv} {b c : Bool} (h : PVW X I e δ b) (q : b = c) : PVW X I e δ c := q ▸ h
theorem zip_take' {n : Nat} {p r : List Nat} {i : Nat} (e : List.range n = p ++ i :: r) : p = List.range i ∧ i < n := by
  have hl := congrArg List.length e
  rw [List.length_range, List.length_append, List.length_cons] at hl
  have h1 : (List.range n)[p.length]? = some i := by rw [e]; simp
  have h2 : (List.range n)[p.length]? = some p.length := List.getElem?_range (by omega)
  have hi : i = p.length := by rw [h1] at h2; exact Option.some.inj h2
  refine ⟨?_, by omega⟩
  have h3 : (List.range n).take p.length = p := by rw [e]; simp
  rw [← h3, List.take_range, hi]
  congr 1
  omega
theorem kind_atR {ks : List Str} {i : Nat} (hi : i < ks.length) (hp : ∀ j, j < i → ∀ hj : j < ks.length, kindBad ks ks[j] j = false) (hk : kindBad ks ks[i] i = true) : kindFault ks = some i := by
  have hz : i < ks.zipIdx.length := by rw [List.length_zipIdx]; exact hi
  have e : ks.zipIdx = ks.zipIdx.take i ++ (ks[i], i) :: ks.zipIdx.drop (i + 1) := by
    have h1 : ks.zipIdx[i] = (ks[i], i) := by rw [List.getElem_zipIdx]; simp
    rw [← h1, List.getElem_cons_drop hz, List.take_append_drop]
  refine kind_at e (fun y hy => ?_) hk
  obtain ⟨j, hj, ey⟩ := List.getElem_of_mem hy
  rw [List.length_take] at hj
  rw [List.getElem_take, List.getElem_zipIdx] at ey
  rw [← ey]
  simpa using hp j (by omega) (by rw [List.length_zipIdx] at hj; omega)
section
variable {P : Program} {w : World} {K : PySem.W.Frag} {mg : Str → Option Value} {base : Heap}
theorem D_bad (E : Env P w K mg base) : Def P w K mg base "_law_bad" 1 ["_law_t"] [] sBad := mk_f_Lbad E fun fd F => by
  refine fn_d F sc_f_Lbad (fun I ds P R h => by obtain ⟨u, rfl, _⟩ := h; rfl) fun cdv A outer s H EE hr tk po I ds Q R h => ?_
  obtain ⟨u, rfl, o, q⟩ := h
  have nd := sc_f_Lbad.nd
  have hu := hr.units
  have hu1 := hr.u1
  have hz := o.z
  have hnm : (sortS (u.map (·.1))).map D.str = (sortW u).map fun p => D.str p.1 := by rw [← sortW_names, List.map_map]; rfl
  refine s_cons (s_ifP (b := !(decide (1 ≤ u.length) && decide (u.length ≤ 6))) (PVT.is (ptn (pt_chn op_le op_le pv_int (pv_len E.b_len (pv_v (d := tOD u) 0) trivial) p2_le pv_int p2_le)) (by rw [List.length_map]; exact congrArg not (congr (congrArg and (decide_eq_decide.mpr (by omega))) (decide_eq_decide.mpr (by omega))))) (fun hb => ?_) fun hb => s_nil ?_)
  · have e : badO u = some (("" : Str), none) := by
      unfold badO
      exact if_neg fun h => by simp [h.1, h.2] at hb
    rw [e] at q
    exact s_one (s_retP (pv_tup (va_cons pv_str (va_cons pv_non va_nil))) q)
  have hb : 1 ≤ u.length ∧ u.length ≤ 6 := by simpa using hb
  have eB : badO u = (sortW u).findSome? nameBad := by unfold badO; exact if_pos hb
  refine s_cons (s_forT (xs := sortW u) (g := fun p => D.str p.1) po (PVI.is (vi_lst (pv_sortedS E.b_sorted (pv_listD E.b_list (pv_v (d := tOD u) 0)) (by rw [List.length_map]; omega))) hnm) (fun p δ' I' => I' = I ∧ (∀ y ∈ p, nameBad y = none) ∧ ∃ o1 o2 o3, δ' = [some (tOD u), o1, o2, o3, none, none]) ⟨rfl, (fun y hy => nomatch hy), none, none, none, rfl⟩ ?_ ?_)
  · rintro p x r δ' I' e ⟨rfl, hp, o1, o2, o3, rfl⟩
    have hx : x ∈ u := (sortW_perm u).mem_iff.mp (by rw [e]; simp)
    have hxn := o.n x hx
    have hxr := o.r x hx
    have fin : ∀ z, nameBad x = some z → badO u = some z := fun z hz => by rw [eB, e]; exact findSome_hit hp hz
    refine ⟨_, [1], bind_name 1, ?_⟩
    refine s_cons (s_ifP (b := !isNameS x.1) (PVT.is (ptw (ww_or (l := !(x.1.cps.toList.all fun c => decide (c ∈ (Str.ofString "abcdefghijklmnopqrstuvwxyz").cps.toList))) (ptn (pt_chn op_le op_le pv_int (pv_len E.b_len (pv_w (d := .str x.1) 1 rfl) hxn) p2_le pv_int p2_le)) fun _ => ww_or1 (ptn (pt_v (k := x.1.cps.toList.all fun c => decide (c ∈ (Str.ofString "abcdefghijklmnopqrstuvwxyz").cps.toList)) ?_)))) ?_) (fun hn => ?_) fun hn => s_nil ?_)
    · have el : D.lst ((x.1.cps.toList.map fun c => decide (c ∈ (Str.ofString "abcdefghijklmnopqrstuvwxyz").cps.toList)).map D.bl) = .lst (x.1.cps.toList.map fun c => .bl (decide (c ∈ (Str.ofString "abcdefghijklmnopqrstuvwxyz").cps.toList))) := by rw [List.map_map]; rfl
      refine PV.is (pv_cb (cr_all rfl) E.b_all (va_cons (((pv_lcTM (xs := x.1.cps.toList) (g := fun c => D.str ⟨#[c]⟩) (fun c => .bl (decide (c ∈ (Str.ofString "abcdefghijklmnopqrstuvwxyz").cps.toList))) [("_law_sign", 4)] (fun c => [some (tOD u), some (.str x.1), o2, o3, some (.str ⟨#[c]⟩), none]) (vi_str (pv_w (d := .str x.1) 1 rfl)) (by rw [Array.length_toList]; exact Nat.le_trans hxn (by decide)) (fun d s H C cl fp => bind_name 4) fun c hc J s H C cl fp => pv_cmp op_signIn (pv_w 4 rfl) pv_str p2_signIn)).is el.symm) va_nil) pn_all) (by rw [List.all_map]; rfl)
    · unfold isNameS
      have h1 : decide ((1 : Int) ≤ (x.1.length : Int)) = decide (1 ≤ x.1.length) := decide_eq_decide.mpr (by omega)
      have h2 : decide ((x.1.length : Int) ≤ 8) = decide (x.1.length ≤ 8) := decide_eq_decide.mpr (by omega)
      rw [h1, h2]
      exact (Bool.not_and _ _).symm
    · have e2 : nameBad x = some (x.1, none) := by
        unfold nameBad
        exact if_neg (by simpa using hn)
      rw [fin _ e2] at q
      exact s_one (s_retP (pv_tup (va_cons (pv_w (d := .str x.1) 1 rfl) (va_cons pv_non va_nil))) q)
    have hn : isNameS x.1 = true := by simpa using hn
    have hget : getG (u.map fun p => ((.inr p.1 : Key), D.lst (p.2.map oW))) (.inr x.1) = some (.lst (x.2.map oW)) := get_dicT (k := fun p : Str × ORow => p.1) (v := fun p => D.lst (p.2.map oW)) o.nd hx
    refine s_cons (s_ifP (b := !(decide (1 ≤ x.2.length) && decide (x.2.length ≤ 8))) (PVT.is (ptn (pt_chn op_le op_le pv_int (pv_len E.b_len (x := .lst (x.2.map oW)) (pv_dget hu1 (.inl rfl) (pv_w (d := tOD u) 0 rfl) (pv_w (d := .str x.1) 1 rfl) rfl hget) trivial) p2_le pv_int p2_le)) (by rw [List.length_map]; exact congrArg not (congr (congrArg and (decide_eq_decide.mpr (by omega))) (decide_eq_decide.mpr (by omega))))) (fun hl => ?_) fun hl => s_nil ?_)
    · have e2 : nameBad x = some (x.1, none) := by
        unfold nameBad
        rw [if_pos hn]
        have : rowBad x.2 = some none := by
          unfold rowBad lookThs frO
          rw [List.length_map]
          exact if_neg fun h => by simp [h.1, h.2] at hl
        rw [this]; rfl
      rw [fin _ e2] at q
      exact s_one (s_retP (pv_tup (va_cons (pv_w (d := .str x.1) 1 rfl) (va_cons pv_non va_nil))) q)
    have hl : 1 ≤ x.2.length ∧ x.2.length ≤ 8 := by simpa using hl
    have eR : nameBad x = (kindFault (x.2.map kO)).map fun i => (x.1, some i) := by
      unfold nameBad
      rw [if_pos hn]
      unfold rowBad lookThs frO
      rw [List.length_map, if_pos hl, List.map_map, Option.map_map]; rfl
    have ekk : D.lst (x.2.map fun z => D.str (kO z)) = .lst ((x.2.map kO).map D.str) := by rw [List.map_map]; rfl
    refine s_cons (s_setLc 2 [("_law_one_here", 5)] (lcM (xs := x.2) (g := oW) (fun z => .str (kO z)) [("_law_one_here", 5)] (fun z => [some (tOD u), some (.str x.1), o2, o3, none, some (oW z)]) (vi_lst (pv_dget hu1 (.inl rfl) (pv_w (d := tOD u) 0 rfl) (pv_w (d := .str x.1) 1 rfl) rfl hget)) (by omega) (fun z s H C cl fp => bind_name 5) (fun z hz J s H C cl fp => ?_) ?_))
    · cases z with
      | some w0 => exact pv_if (k := true) (pt_v (pv_cb call_isi E.b_isinstance (va_cons (pv_w (d := wr4 w0) 5 rfl) (va_cons (pv_gty (n := "tuple") E.b_tuple) va_nil)) (pn_isiT (t := "tuple") rfl))) (fun _ => pv_ix ix_tup (pv_w (d := wr4 w0) 5 rfl) pv_int (p2_ixT rfl)) (fun z => nomatch z)
      | none => exact pv_if (k := false) (pt_v (pv_cb call_isi E.b_isinstance (va_cons (pv_w (d := .non) 5 rfl) (va_cons (pv_gty (n := "tuple") E.b_tuple) va_nil)) (pn_isi (t := "NoneType") (b := false) rfl))) (fun z => nomatch z) (fun _ => pv_str)
    rw [ekk]
    have hkl : (x.2.map kO).length ≤ 8 := by rw [List.length_map]; exact hl.2
    have hks : ∀ y ∈ x.2.map kO, PyData.strOk y = true := fun y hy => by
      obtain ⟨z, hz, rfl⟩ := List.mem_map.mp hy
      refine List.all_eq_true.mp okW_kind _ ?_
      cases z with
      | none => exact kind_mem (x := thO none) ⟨_, rfl⟩
      | some w0 => exact kind_mem (x := thO (some w0)) (o.k x hx w0 hz)
    clear ekk
    generalize x.2.map kO = ks at *
    refine s_one (s_forT (xs := List.range ks.length) (g := fun i : Nat => D.int i) po (PVI.is (vi_range1 E.b_range (PV.is (z := .int (ks.length : Nat)) (pv_len E.b_len (pv_w (d := .lst (ks.map D.str)) 2 rfl) trivial) (by rw [List.length_map])) (by omega) (by omega)) (by rw [Int.toNat_natCast])) (fun p' δ' I'' => I'' = I' ∧ (∀ i ∈ p', ∀ k, ks[i]? = some k → kindBad ks k i = false) ∧ ∃ o3, δ' = [some (tOD u), some (.str x.1), some (.lst (ks.map D.str)), o3, none, none]) ⟨rfl, (fun y hy => nomatch hy), _, rfl⟩ ?_ ?_)
    · rintro p' i r' δ' I' e' ⟨rfl, hp', o3', rfl⟩
      obtain ⟨epi, hi⟩ := zip_take' e'
      have hi1 : i - 1 < ks.length := by omega
      have hki : ks[i]? = some ks[i] := List.getElem?_eq_getElem hi
      have e1 : (↑i + 1 : Int) = ((i + 1 : Nat) : Int) := rfl
      have e2 : (↑i + 2 : Int) = ((i + 2 : Nat) : Int) := rfl
      have a1 : eqD (.lst (cutD (ks.map D.str) (some (↑i + 1)) (some (↑i + 2)))) (.lst [.str "reply"]) = decide ((ks.drop (i + 1)).take 1 = (["reply"] : List Str)) := by
        rw [e1, e2, cut_mid, show i + 2 - (i + 1) = 1 by omega, ← List.map_drop, ← List.map_take, eqD_lst]
        exact Bool.eq_iff_iff.mpr ((Inj.str.eqs _ ["reply"]).trans (by simp))
      have o1' : okEq (.lst (cutD (ks.map D.str) (some (↑i + 1)) (some (↑i + 2)))) = true := by
        rw [e1, e2, cut_mid, ← List.map_drop, ← List.map_take]
        exact okS_map fun x hx => hks x (List.mem_of_mem_drop (List.mem_of_mem_take hx))
      have eI : ∀ {j : Nat} (hj : j < ks.length), atI (ks.map D.str) ((j : Nat) : Int) = some (.str ks[j]) := fun hj => atI_m (List.getElem?_eq_getElem hj)
      have done : kindBad ks ks[i] i = true → badO u = some (x.1, some i) := fun hk => fin _ (by
        rw [eR, kind_atR hi (fun j hj hjl => hp' j (by rw [epi]; exact List.mem_range.mpr hj) _ (List.getElem?_eq_getElem hjl)) hk]; rfl)
      have eKB : kindBad ks ks[i] i = ((decide (ks[i] = ("" : Str)) || (decide (ks[i] = ("ask" : Str)) && !decide ((ks.drop (i + 1)).take 1 = (["reply"] : List Str)))) || (decide (ks[i] = ("reply" : Str)) && (decide (i = 0) || !decide (ks[i - 1]'hi1 = ("ask" : Str))))) := by
        unfold kindBad
        rw [last_ask hi]
      refine ⟨_, [3], bind_name 3, ?_⟩
      refine s_cons (s_ifP (ptw (ww_or (pt_eq hu (pv_ix ix_list (pv_w (d := .lst (ks.map D.str)) 2 rfl) (pv_w (d := .int (i : Int)) 3 rfl) (p2_ixL (eI hi))) pv_str trivial) fun _ => ww_or1 (ptw (ww_and (pt_eq hu (pv_ix ix_list (pv_w (d := .lst (ks.map D.str)) 2 rfl) (pv_w (d := .int (i : Int)) 3 rfl) (p2_ixL (eI hi))) pv_str trivial) fun _ => ww_and1 (pt_ne hu (pv_slL (pv_w (d := .lst (ks.map D.str)) 2 rfl) (vo_some (pv_op op_add (pv_w 3 rfl) pv_int p2_add)) (vo_some (pv_op op_add (pv_w 3 rfl) pv_int p2_add))) (pv_lst (va_cons pv_str va_nil)) ⟨o1', by decide +kernel⟩))))) (fun hA => ?_) fun hA => s_nil ?_)
      · rw [a1] at hA
        rw [done (by rw [eKB, hA]; all_goals rfl)] at q
        exact s_one (s_retP (pv_tup (va_cons (pv_w (d := .str x.1) 1 rfl) (va_cons (pv_w (d := .int (i : Int)) 3 rfl) va_nil))) q)
      rw [a1] at hA
      refine s_one (s_ifP (b := decide (ks[i] = ("reply" : Str)) && (decide (i = 0) || !decide (ks[i - 1]'hi1 = ("ask" : Str)))) (ptw (ww_and (pt_eq hu (pv_ix ix_list (pv_w (d := .lst (ks.map D.str)) 2 rfl) (pv_w (d := .int (i : Int)) 3 rfl) (p2_ixL (eI hi))) pv_str trivial) fun _ => ww_and1 (ptw (PVW.is (ww_or (l := !decide (ks[i - 1]'hi1 = ("ask" : Str))) (pt_eq hu (pv_w (d := .int (i : Int)) 3 rfl) pv_int trivial) fun h0 => ww_or1 (pt_ne hu (pv_ix (z := .str (ks[i - 1]'hi1)) ix_list (pv_w (d := .lst (ks.map D.str)) 2 rfl) (pv_op op_sub (pv_w (d := .int (i : Int)) 3 rfl) pv_int p2_sub) (p2_ixL ?_)) pv_str trivial)) (congrArg (fun b => b || _) (decide_eq_decide.mpr (by omega))))))) (fun hB => ?_) fun hB => s_nil ?_)
      · have h0 : ¬ i = 0 := by simpa using h0
        rw [show ((i : Int) - 1) = ((i - 1 : Nat) : Int) by omega]
        exact eI (by omega)
      · rw [done (by rw [eKB, hA, hB]; all_goals rfl)] at q
        exact s_one (s_retP (pv_tup (va_cons (pv_w (d := .str x.1) 1 rfl) (va_cons (pv_w (d := .int (i : Int)) 3 rfl) va_nil))) q)
      · refine ⟨rfl, fun j hj k hk => ?_, _, rfl⟩
        rcases List.mem_append.mp hj with hj | hj
        · exact hp' j hj k hk
        · rw [List.mem_singleton.mp hj] at hk ⊢
          rw [hki] at hk
          cases hk
          rw [eKB, hA, hB]; all_goals rfl
    · rintro δ' I' ⟨rfl, hp', o3', rfl⟩
      refine ⟨rfl, fun y hy => ?_, _, _, _, rfl⟩
      rcases List.mem_append.mp hy with hy | hy
      · exact hp y hy
      · rw [List.mem_singleton.mp hy, eR, kind_none (fun z hz => hp' z.2 (List.mem_range.mpr (by
          have := mem_zipIdx hz
          exact (List.getElem?_eq_some_iff.mp this).1)) z.1 (mem_zipIdx hz))]; rfl
  · rintro δ' I' ⟨rfl, hp, o1, o2, o3, rfl⟩
    have e2 : badO u = none := by
      rw [eB, List.findSome?_eq_none_iff]
      exact hp
    rw [e2] at q
    exact s_one (s_retP pv_non q)
end
end LK
set_option Elab.async false
set_option linter.all false
set_option maxRecDepth 100000
set_option maxHeartbeats 1000000
namespace DL
open PySem PySem.Spec PyProof.Rows L2
end DL
namespace LK
open PySem PySem.Spec PyProof.Rows L2 DL
section
variable {P : Program} {w : World} {K : PySem.W.Frag} {mg : Str → Option Value} {base : Heap}
end
end LK
set_option Elab.async false
set_option linter.all false
set_option maxRecDepth 100000
set_option maxHeartbeats 4000000
namespace DL
open PySem PySem.Spec PyProof.Rows L2
section
variable {X : Cx} {W : WX} {R : Rx X.K} {P : D → Iv X.K → Prop} {k e : Expr} {δ : DEnv} {I : Iv X.K} {pos : Pos} {s : Str}
end
end DL
set_option Elab.async false
set_option linter.all false
set_option maxRecDepth 100000
set_option maxHeartbeats 1000000
namespace DL
open PySem PySem.Spec PyProof.Rows L2
theorem p2_catA {K : PySem.W.Frag} {I : Iv K} {ds fs : List D} (hz : ds.length + fs.length ≤ 100000) : P2 K I (rCatA K) (.tup ds) (.tup fs) (.tup (ds ++ fs)) := fun P pp G H v w Q s hI ⟨a, xs, e1, e2, e4⟩ ⟨b, ys, g1, g2, g4⟩ q => by
  subst e1 g1
  refine ⟨a, b, xs, ys, rfl, rfl, sqT_mono s e2, sqT_mono s g2, by rw [e4.length, g4.length]; exact Nat.le_trans hz (by decide), fun z => ?_, fun z1 z => ?_, fun z1 z2 p hp => ?_⟩
  · have hd : ds = [] := List.eq_nil_of_length_eq_zero (by rw [← e4.length, z]; rfl)
    subst hd
    exact q _ (.tup fs) G H I (Same.refl G) s hI ⟨b, ys, rfl, g2, g4⟩ pp
  · have hd : fs = [] := List.eq_nil_of_length_eq_zero (by rw [← g4.length, z]; rfl)
    subst hd
    rw [List.append_nil] at pp
    exact q _ (.tup ds) G H I (Same.refl G) s hI ⟨a, xs, rfl, e2, e4⟩ pp
  · have hg : G p = none := s.free hp
    exact q (.ref p) (.tup (ds ++ fs)) _ _ I (Evl.Ex.new hg) (same_upd2 s) (hI.keep hp s) ⟨p, _, rfl, SqT.of upd_same, (e4.append g4).mono (Evl.Ex.new hg)⟩ pp
end DL
set_option Elab.async false
set_option linter.all false
set_option maxRecDepth 100000
set_option maxHeartbeats 1000000
namespace DL
open PySem PySem.Spec PyProof.Rows L2
end DL
namespace LK
open PySem PySem.Spec PyProof.Rows L2 DL
def xnm (n : Str) : Str := ("x" : Str) ++ cutS n none (some 4)
inductive RenT : Tb → Tb → Prop
  | nil : RenT [] []
  | cons {y z : Str × List Wr} {p u : Tb} : (z.2 = y.2 ∧ (z.1 = y.1 ∨ z.1 = xnm y.1)) → RenT p u → RenT (y :: p) (z :: u)
theorem xnm_ok : (nm6.all fun a => isNameS (xnm a) && nm6.all fun b => (a == b || (xnm a != xnm b)) && xnm a != b) = true := by decide +kernel
theorem xnm_name {a : Str} (h : a ∈ nm6) : isNameS (xnm a) = true := by
  have := List.all_eq_true.mp xnm_ok a h
  rw [Bool.and_eq_true] at this
  exact this.1
theorem xnm_ne {a b : Str} (ha : a ∈ nm6) (hb : b ∈ nm6) (h : a ≠ b) : xnm a ≠ xnm b := by
  have := List.all_eq_true.mp xnm_ok a ha
  rw [Bool.and_eq_true] at this
  have := List.all_eq_true.mp this.2 b hb
  simp only [Bool.and_eq_true, Bool.or_eq_true, beq_iff_eq, bne_iff_ne] at this
  exact this.1.resolve_left h
theorem xnm_old {a b : Str} (ha : a ∈ nm6) (hb : b ∈ nm6) : xnm a ≠ b := by
  have := List.all_eq_true.mp xnm_ok a ha
  rw [Bool.and_eq_true] at this
  have := List.all_eq_true.mp this.2 b hb
  simp only [Bool.and_eq_true, bne_iff_ne] at this
  exact this.2
theorem RenT.len {p u : Tb} (h : RenT p u) : p.length = u.length := by
  induction h with
  | nil => rfl
  | cons _ _ ih => simp [ih]
theorem RenT.back {p u : Tb} (h : RenT p u) : ∀ z ∈ u, ∃ y ∈ p, z.2 = y.2 ∧ (z.1 = y.1 ∨ z.1 = xnm y.1) := by
  induction h with
  | nil => intro z hz; cases hz
  | cons hd _ ih =>
    intro z hz
    rcases List.mem_cons.mp hz with rfl | hz
    · exact ⟨_, by simp, hd⟩
    · obtain ⟨y, hy, q⟩ := ih z hz
      exact ⟨y, by simp [hy], q⟩
theorem RenT.snoc {p u : Tb} {y z : Str × List Wr} (h : RenT p u) (q : z.2 = y.2 ∧ (z.1 = y.1 ∨ z.1 = xnm y.1)) : RenT (p ++ [y]) (u ++ [z]) := by
  induction h with
  | nil => exact .cons q .nil
  | cons hd _ ih => exact .cons hd ih
theorem RenT.new {p u : Tb} {y : Str × List Wr} {n : Str} (h : RenT p u) (hp : ∀ x ∈ p, x.1 ∈ nm6) (hy : y.1 ∈ nm6) (hny : y.1 ∉ p.map (·.1)) (hn : n = y.1 ∨ n = xnm y.1) : n ∉ u.map (·.1) := fun hm => by
  obtain ⟨z, hz, e⟩ := List.mem_map.mp hm
  obtain ⟨x, hx, _, hx2⟩ := h.back z hz
  have hne : x.1 ≠ y.1 := fun e2 => hny (List.mem_map.mpr ⟨x, hx, e2⟩)
  rw [e] at hx2
  rcases hn with rfl | rfl <;> rcases hx2 with e3 | e3
  · exact hne e3.symm
  · exact xnm_old (hp x hx) hy e3.symm
  · exact xnm_old hy (hp x hx) e3
  · exact xnm_ne hy (hp x hx) (Ne.symm hne) e3
theorem RenT.ok {t u : Tb} (o : TbOk t) (h : RenT t u) (ht : ∀ x ∈ t, x.1 ∈ nm6) (nd : (u.map (·.1)).Nodup) : TbOk u := by
  refine ⟨nd, fun z hz => ?_, fun z hz => ?_, by rw [← h.len]; exact o.n, by rw [← h.len]; exact o.m⟩
  · obtain ⟨y, hy, _, e | e⟩ := h.back z hz
    · rw [e]; exact o.nm y hy
    · rw [e]; exact xnm_name (ht y hy)
  · obtain ⟨y, hy, e, _⟩ := h.back z hz
    rw [e]; exact o.row y hy
section
variable {P : Program} {w : World} {K : PySem.W.Frag} {mg : Str → Option Value} {base : Heap}
end
end LK
set_option Elab.async false
set_option linter.all false
set_option maxRecDepth 100000
set_option maxHeartbeats 1000000
namespace LK
open PySem PySem.Spec PyProof.Rows L2 DL
def sWidthW {K : PySem.W.Frag} : Spec K := fun I ds P _ => ∃ (a b : Addr) (c : Rc K), ds = [.adr a] ∧ I = c.fill (iDr K a b) ∧ ∀ w : Nat, 1 ≤ w → w ≤ 99 → P (.int w) I
section
variable {P : Program} {w : World} {K : PySem.W.Frag} {mg : Str → Option Value} {base : Heap}
theorem D_widthW (E : Env P w K mg base) : Def P w K mg base "_law_width" 2 ["_law_h"] [] sWidthW := mk_f_Lwidth E fun fd F => by
  refine fn_d F sc_f_Lwidth (fun I ds P R h => by obtain ⟨a, b, c, rfl, _⟩ := h; rfl) fun cdv A outer s H EE hr tk po I ds Q R h => ?_
  obtain ⟨a, b, c, rfl, rfl, q⟩ := h
  have hr1 : Room 1 _ := hr
  refine s_one (s_ret (ev_ix ix_list (PV.ev (pv_lst (va_cons pv_int (va_cons pv_int (va_cons pv_int (va_cons pv_int (va_cons pv_int (va_cons pv_int (va_cons pv_int (va_cons pv_int va_nil))))))))) (ev_nextP tk (D_next E) hr1 c (pv_v 0) pv_int rfl (by decide) fun k k0 k1 => o2_ixL k0 k1 fun d hd => ?_))))
  simp only [List.mem_cons, List.not_mem_nil, or_false] at hd
  rcases hd with rfl | rfl | rfl | rfl | rfl | rfl | rfl | rfl
  · exact q 1 (by decide) (by decide)
  · exact q 2 (by decide) (by decide)
  · exact q 3 (by decide) (by decide)
  · exact q 4 (by decide) (by decide)
  · exact q 5 (by decide) (by decide)
  · exact q 7 (by decide) (by decide)
  · exact q 12 (by decide) (by decide)
  · exact q 99 (by decide) (by decide)
end
end LK
set_option Elab.async false
set_option linter.all false
set_option maxRecDepth 100000
set_option maxHeartbeats 1000000
set_option pp.maxSteps 300
namespace LK
open PySem PySem.Spec PyProof.Rows L2 DL
def edD : Ed → D
  | .set n k o => .tup [.str "set", .str n, .int k, oW o]
  | .ins n k ws => .tup [.str "insert", .str n, .int k, .lst (ws.map wr4)]
  | .rem n k m => .tup [.str "remove", .str n, .int k, .int m]
  | .add n ws => .tup [.str "add", .str n, .lst (ws.map wr4)]
  | .drop n => .tup [.str "drop", .str n]
structure NmO (n : Str) : Prop where
  l : n.length ≤ 8
  k : PyData.strOk n = true
  z : n ≠ "none"
def EdOk : Ed → Prop
  | .set n k o => NmO n ∧ -1 ≤ k ∧ k ≤ 3 ∧ ∀ w, o = some w → GoodR w
  | .ins n k ws => NmO n ∧ -1 ≤ k ∧ k ≤ 3 ∧ (∀ w ∈ ws, GoodR w) ∧ ws.length ≤ 2
  | .rem n k m => NmO n ∧ -1 ≤ k ∧ k ≤ 3 ∧ 1 ≤ m ∧ m ≤ 2
  | .add n ws => NmO n ∧ (∀ w ∈ ws, GoodR w) ∧ ws.length ≤ 2
  | .drop n => NmO n
def sEdit {K : PySem.W.Frag} : Spec K := fun I ds P _ => ∃ (a b : Addr) (c : Rc K) (t : Tb), ds = [.adr a, tD t] ∧ I = c.fill (iDr K a b) ∧ TbOk t ∧ (∀ p ∈ t, p.1 ≠ "none") ∧ ∀ e, EdOk e → P (edD e) I
def erD : Er → D
  | .clash n => .tup [.str "clash", .str n]
  | .unk n => .tup [.str "unknown", .str n]
  | .num k => .tup [.str "number", .int k]
  | .inv n o => .tup [.str "invalid", .str n, nD o]
def resD : Er ⊕ OTb → D
  | .inl e => erD e
  | .inr u => tOD u
def sEdited {K : PySem.W.Frag} : Spec K := fun I ds P _ => ∃ (t : Tb) (e : Ed), ds = [tD t, edD e] ∧ TbOk t ∧ EdOk e ∧ P (resD (editR t e)) I
theorem row_gr {ws : List Wr} (g : RowG 3 ws) (h1 : 1 ≤ ws.length) (h2 : ws.length ≤ 8) : ∀ w ∈ ws, GoodR w := (g.ok (by decide) h1 h2).g
section
variable {P : Program} {w : World} {K : PySem.W.Frag} {mg : Str → Option Value} {base : Heap}
theorem D_edit (E : Env P w K mg base) : Def P w K mg base "_law_edit" 5 ["_law_h", "_law_t"] [] sEdit := mk_f_Ledit E fun fd F => by
  refine fn_d F sc_f_Ledit (fun I ds P R h => by obtain ⟨a, b, c, t, rfl, _⟩ := h; rfl) fun cdv A outer s H EE hr tk po I ds Q R h => ?_
  obtain ⟨a, b, c, t, rfl, rfl, o, hno, q⟩ := h
  have nd := sc_f_Ledit.nd
  have hu := hr.units
  have hr1 : Room 1 _ := hr.mono (by decide)
  have hr4 : Room 4 _ := hr
  have hm := o.m
  have hn0 := o.n
  have h64 : (t.map (·.1)).length < 64 := by rw [List.length_map]; omega
  have hls : (sortS (t.map (·.1))).length = t.length := by rw [sortS_len, List.length_map]
  have hnm : ∀ d ∈ (sortS (t.map (·.1))).map D.str ++ [D.str "nn"], ∃ n, d = .str n ∧ NmO n := fun d hd => by
    rcases List.mem_append.mp hd with hd | hd
    · obtain ⟨n, hn, rfl⟩ := List.mem_map.mp hd
      obtain ⟨x, hx, rfl⟩ := List.mem_map.mp (sortS_mem.mp hn)
      exact ⟨_, rfl, (isName_len (o.nm x hx)).2, isName_ok (o.nm x hx), hno x hx⟩
    · exact ⟨_, List.mem_singleton.mp hd, by decide +kernel, by decide +kernel, by decide +kernel⟩
  refine s_cons (s_set 2 (ev_ix ix_list (PV.ev (pv_op op_cat (pv_sortedS E.b_sorted (pv_listD E.b_list (pv_v (d := tD t) 1)) h64) (pv_lst (va_cons pv_str va_nil)) (p2_catKK (by rw [List.length_map, hls]; show _ + 1 ≤ _; omega))) (ev_next tk (D_next E) hr1 c (pv_v (d := .adr a) 0) ?_ rfl))))
  refine ev_op op_add (PV.ev (pv_len E.b_len (pv_v (d := tD t) 1) trivial) (ev_ct call_int1 E.b_int (ea_cons (ev_cmp op_eq (ev_nextP tk (D_next E) hr1 c (pv_v 0) pv_int rfl (by decide) fun j j0 j1 => pv_int.ev (eqV_int j 0 _ (ea_nil (pn_intB _ (p2_add _ ⟨_, rfl, rfl, ?_, ?_, fun k k0 k1 => o2_ixL k0 ?_ fun d hd => ?_⟩)))))))))
  · rw [List.length_map]; split <;> omega
  · rw [List.length_map]; split <;> omega
  · rw [List.length_append, List.length_map, hls]
    rw [List.length_map] at k1
    show k < ((t.length + 1 : Nat) : Int)
    split at k1 <;> omega
  obtain ⟨n, rfl, hn⟩ := hnm d hd
  refine s_cons (s_set 3 (ev_op op_sub (ev_nextP tk (D_next E) hr1 c (pv_w (d := .adr a) 0 rfl) pv_int rfl (by decide) fun k k0 k1 => ev_ct call_int1 E.b_int (ea_cons (ev_cmp op_eq (ev_nextP tk (D_next E) hr1 c (pv_w (d := .adr a) 0 rfl) pv_int rfl (by decide) fun j j0 j1 => pv_int.ev (eqV_int j 0 _ (ea_nil (pn_intB _ (p2_sub _ ?_))))))))))
  have hk0 : -1 ≤ k - (if decide (j = 0) = true then 1 else 0) ∧ k - (if decide (j = 0) = true then 1 else 0) ≤ 3 := by split <;> omega
  generalize k - (if decide (j = 0) = true then 1 else 0) = z at *
  refine s_cons (s_set 4 (ev_freezeL (ev_def tk (D_rowof E) hr4 (ea_cons ((pv_w (d := .adr a) 0 rfl).ev (ea_cons (ev_op op_add (pv_int.ev (ev_nextP tk (D_next E) hr1 c (pv_w (d := .adr a) 0 rfl) pv_int rfl (by decide) fun m m0 m1 => p2_add _ (ea_cons (pv_int.ev (ea_nil ⟨a, b, c, 1 + m, 3, rfl, rfl, by omega, by omega, by decide, by decide, fun ws g hl p => ⟨p, _, _, rfl, rfl, ?_⟩⟩))))))))))))
  have hw1 : 1 ≤ ws.length := by omega
  have hw2 : ws.length ≤ 2 := by omega
  have hg : ∀ w ∈ ws, GoodR w := row_gr g hw1 (by omega)
  refine s_cons (s_set 5 (ev_nextP tk (D_next E) hr1 c (pv_w (d := .adr a) 0 rfl) pv_int rfl (by decide) fun u u0 u1 => ?_))
  refine s_cons (s_ifP (DL.pt_cmp op_lt (pv_w (d := .int u) 5 rfl) pv_int p2_lt) (fun h1 => ?_) fun h1 => s_nil ?_)
  · refine s_one (s_ret (ev_tup (ea_cons (pv_str.ev (ea_cons ((pv_w (d := .str n) 2 rfl).ev (ea_cons ((pv_w (d := .int z) 3 rfl).ev (ea_cons ?_)))))))))
    refine ev_ix ix_list (PV.ev (pv_lst (va_cons (pv_ix (z := wr4 (ws[0]'(by omega))) ix_list (pv_w (d := .lst (ws.map wr4)) 4 rfl) pv_int (p2_ixL (show atI (ws.map wr4) ((0 : Nat) : Int) = _ from atI_m (List.getElem?_eq_getElem (by omega))))) (va_cons pv_non va_nil))) (ev_ct call_int1 E.b_int (ea_cons (ev_cmp op_eq (ev_nextP tk (D_next E) hr1 c (pv_w (d := .adr a) 0 rfl) pv_int rfl (by decide) fun j j0 j1 => pv_int.ev (eqV_int j 0 _ (ea_nil (pn_intB _ (o2_ixL ?_ ?_ fun d hd => ea_nil ⟨by simp, ?_⟩)))))))))
    · split <;> omega
    · show _ < ((2 : Nat) : Int)
      split <;> omega
    · rcases List.mem_cons.mp hd with rfl | hd
      · exact q (.set n z (some (ws[0]'(by omega)))) ⟨hn, hk0.1, hk0.2, fun w e => by cases e; exact hg _ (List.getElem_mem _)⟩
      · rw [List.mem_singleton.mp hd]
        exact q (.set n z none) ⟨hn, hk0.1, hk0.2, fun w e => nomatch e⟩
  refine s_cons (s_ifP (pt_eq hu (pv_w (d := .int u) 5 rfl) pv_int trivial) (fun h2 => ?_) fun h2 => s_nil ?_)
  · refine s_one (s_ret (ev_tup (ea_cons (pv_str.ev (ea_cons ((pv_w (d := .str n) 2 rfl).ev (ea_cons ((pv_w (d := .int z) 3 rfl).ev (ea_cons ?_)))))))))
    refine ev_slL ((pv_w (d := .lst (ws.map wr4)) 4 rfl).ev ⟨_, rfl, eo_none (eo_some (ev_nextP tk (D_next E) hr1 c (pv_w (d := .adr a) 0 rfl) pv_int rfl (by decide) fun j j0 j1 => ⟨j, rfl, ea_nil ⟨by simp, ?_⟩⟩))⟩)
    rw [cutT_take _ j0, ← List.map_take]
    exact q (.ins n z (ws.take j.toNat)) ⟨hn, hk0.1, hk0.2, fun w hw => hg w (List.mem_of_mem_take hw), by rw [List.length_take]; omega⟩
  refine s_cons (s_ifP (pt_eq hu (pv_w (d := .int u) 5 rfl) pv_int trivial) (fun h3 => ?_) fun h3 => s_nil ?_)
  · refine s_one (s_ret (ev_tup (ea_cons (pv_str.ev (ea_cons ((pv_w (d := .str n) 2 rfl).ev (ea_cons ((pv_w (d := .int z) 3 rfl).ev (ea_cons (ev_op op_add (pv_int.ev (ev_nextP tk (D_next E) hr1 c (pv_w (d := .adr a) 0 rfl) pv_int rfl (by decide) fun j j0 j1 => p2_add _ (ea_nil ⟨by simp, ?_⟩)))))))))))))
    obtain ⟨i, rfl⟩ : ∃ i : Nat, j = (i : Int) := ⟨j.toNat, by omega⟩
    have h8 : Q (.tup [.str "remove", .str n, .int z, .int ((1 + i : Nat) : Int)]) (c.fill (iDr K a b)) := q (.rem n z (1 + i)) ⟨hn, hk0.1, hk0.2, by omega, by omega⟩
    rw [show ((1 + i : Nat) : Int) = 1 + (i : Int) by omega] at h8
    exact h8
  refine s_cons (s_ifP (pt_eq hu (pv_w (d := .int u) 5 rfl) pv_int trivial) (fun h4 => ?_) fun h4 => s_nil ?_)
  · refine s_one (s_ret (ev_tup (ea_cons (pv_str.ev (ea_cons (ev_ix ix_list (PV.ev (pv_lst (va_cons pv_str (va_cons pv_str (va_cons pv_str (va_cons pv_str va_nil))))) (ev_nextP tk (D_next E) hr1 c (pv_w (d := .adr a) 0 rfl) pv_int rfl (by decide) fun j j0 j1 => o2_ixL j0 j1 fun d hd => (ea_cons ((pv_w (d := .lst (ws.map wr4)) 4 rfl).ev (ea_nil ⟨by simp, ?_⟩)))))))))))
    have hd : d ∈ (["nn", "m", "a", "A"] : List Str).map D.str := hd
    obtain ⟨y, hy, rfl⟩ := List.mem_map.mp hd
    have h9 : ∀ y ∈ (["nn", "m", "a", "A"] : List Str), y.length ≤ 8 ∧ PyData.strOk y = true ∧ y ≠ "none" := by decide +kernel
    exact q (.add y ws) ⟨⟨(h9 y hy).1, (h9 y hy).2.1, (h9 y hy).2.2⟩, hg, hw2⟩
  · exact s_one (s_retP (pv_tup (va_cons pv_str (va_cons (pv_w (d := .str n) 2 rfl) va_nil))) (q (.drop n) hn))
end
end LK
set_option Elab.async false
set_option linter.all false
set_option maxRecDepth 100000
set_option maxHeartbeats 1000000
set_option pp.maxSteps 300
namespace LK
open PySem PySem.Spec PyProof.Rows L2 DL
abbrev entO (u : OTb) : List (Key × D) := u.map fun p => ((.inr p.1 : Key), .lst (p.2.map oW))
theorem oW_some (ws : List Wr) : (ws.map some).map oW = ws.map wr4 := by rw [List.map_map]; rfl
theorem entM_O (t : Tb) : (t.map fun x => ((.inr x.1 : Key), D.lst (x.2.map wr4))) = entO (oT t) := by
  unfold entO oT
  rw [List.map_map]
  refine List.map_congr_left fun p _ => ?_
  show _ = ((.inr p.1 : Key), D.lst ((p.2.map some).map oW))
  rw [oW_some]
theorem put_ent (u : OTb) (n : Str) (r : ORow) : putG (entO u) (.inr n) (.lst (r.map oW)) = entO (putR u n r) := by
  by_cases hn : n ∈ u.map (·.1)
  · unfold putG putR
    have ea : ((entO u).any fun kv => decide (kv.1 = (.inr n : Key))) = true := by
      rw [List.any_eq_true]
      obtain ⟨p, hp, e⟩ := List.mem_map.mp hn
      exact ⟨_, List.mem_map_of_mem hp, decide_eq_true (congrArg Sum.inr e)⟩
    rw [if_pos ea, if_pos hn]
    unfold entO
    rw [List.map_map, List.map_map]
    refine List.map_congr_left fun p _ => ?_
    show (if (Sum.inr p.1 : Key) = .inr n then ((Sum.inr p.1 : Key), D.lst (r.map oW)) else _) = ((.inr (if p.1 = n then (p.1, r) else p).1 : Key), D.lst ((if p.1 = n then (p.1, r) else p).2.map oW))
    by_cases e : p.1 = n
    · rw [if_pos (congrArg Sum.inr e), if_pos e]
    · rw [if_neg fun h => e (Sum.inr.inj h), if_neg e]
  · unfold putR
    rw [if_neg hn]
    unfold entO
    rw [put_newT (k := fun p : Str × ORow => p.1) (v := fun p => D.lst (p.2.map oW)) hn, List.map_append]; rfl
theorem drop_ent (u : OTb) (n : Str) : dropG (entO u) (.inr n) = entO (u.filter fun p => decide (p.1 ≠ n)) := by
  unfold dropG entO
  rw [List.filter_map]
  refine congrArg (List.map _) (List.filter_congr fun p _ => ?_)
  show decide ((Sum.inr p.1 : Key) ≠ .inr n) = decide (p.1 ≠ n)
  exact decide_eq_decide.mpr ⟨fun h e => h (congrArg Sum.inr e), fun h e => h (Sum.inr.inj e)⟩
theorem oT_get {t : Tb} (nd : (t.map (·.1)).Nodup) (n : Str) : (getG (t.map fun x => ((.inr x.1 : Key), D.lst (x.2.map wr4))) (.inr n)) = (rowOf t n).map fun ws => .lst (ws.map wr4) := by
  cases e : rowOf t n with
  | none => exact getN_dicT (k := fun x : Str × List Wr => x.1) (v := fun x => D.lst (x.2.map wr4)) (rowOf_none.mp e)
  | some ws => exact t_get nd (rowOf_mem e)
theorem otok_put {t : Tb} (o : TbOk t) {n : Str} {r : ORow} (hn : n.length ≤ 8) (hg : ∀ w, some w ∈ r → GoodR w) (hr : r.length ≤ 1000) : OTok (putR (oT t) n r) := by
  have ndo : ((oT t).map (·.1)).Nodup := by rw [oT_names]; exact o.nd
  refine ⟨put_nd ndo n r, fun p hp w hw => ?_, fun p hp => ?_, fun p hp => ?_, ?_⟩
  · rcases put_mem hp with h | rfl
    · exact ((oT_bd o h).1 w hw).g.gk
    · exact (hg w hw).g.gk
  · rcases put_mem hp with h | rfl
    · have := (oT_bd o h).2.1; omega
    · exact hr
  · rcases put_mem hp with h | rfl
    · have := (oT_bd o h).2.2; omega
    · show n.length ≤ 100000; omega
  · have := put_len (oT t) n r
    have e : (oT t).length = t.length := by unfold oT; rw [List.length_map]
    have := o.m
    omega
theorem otok_sub {t : Tb} (o : TbOk t) {u : OTb} (h : u.Sublist (oT t)) : OTok u := by
  have ndo : ((oT t).map (·.1)).Nodup := by rw [oT_names]; exact o.nd
  refine ⟨(h.map _).nodup ndo, fun p hp w hw => ((oT_bd o (h.subset hp)).1 w hw).g.gk, fun p hp => ?_, fun p hp => ?_, ?_⟩
  · have := (oT_bd o (h.subset hp)).2.1; omega
  · have := (oT_bd o (h.subset hp)).2.2; omega
  · have := h.length_le
    have e : (oT t).length = t.length := by unfold oT; rw [List.length_map]
    have := o.m
    omega
structure E3 (e : Ed) (n : Str) (k : Int) (tag : Str) (x : D) (m0 m lim : Int) (new : ORow) : Prop where
  d : edD e = .tup [.str tag, .str n, .int k, x]
  g : tag ∈ (["set", "insert", "remove"] : List Str)
  f0 : atI [D.int 1, .int 0, .int 0] (((["set", "insert", "remove"] : List Str).idxOf tag : Nat) : Int) = some (.int m0)
  xm : if tag = "remove" then x = .int m else m = m0
  fl : lim = (if tag = "set" then 1 else 0) + (if tag = "remove" then 1 else 0)
  fw : atI [.lst [x], x, .lst []] (((["set", "insert", "remove"] : List Str).idxOf tag : Nat) : Int) = some (.lst (new.map oW))
  m1 : 0 ≤ m ∧ m ≤ 2
  k1 : -1 ≤ k ∧ k ≤ 3
  n1 : NmO n
  gd : (∀ w, some w ∈ new → GoodR w) ∧ new.length ≤ 2
  u : ∀ (t : Tb) (ws : List Wr), rowOf t n = some ws → editU t e = match ((List.range (if m > 1 then m else 1).toNat).find? fun i : Nat => !(decide (0 ≤ k + (i : Int)) && decide (k + (i : Int) ≤ (ws.length : Nat) - lim))) with
    | some i => .inl (.num (k + (i : Int)))
    | none => .inr (putR (oT t) n ((ws.take k.toNat).map some ++ new ++ (ws.drop (k.toNat + m.toNat)).map some))
  un : ∀ t : Tb, rowOf t n = none → editU t e = .inl (.unk n)
theorem e3_set {n : Str} {k : Int} {o : Option Wr} (h : EdOk (.set n k o)) : E3 (.set n k o) n k "set" (oW o) 1 1 1 [o] := by
  have ix : (["set", "insert", "remove"] : List Str).idxOf ("set" : Str) = 0 := by decide +kernel
  refine ⟨rfl, by decide +kernel, by rw [ix]; rfl, by rw [if_neg (by decide +kernel)], by decide +kernel, by rw [ix]; rfl, by decide, ⟨h.2.1, h.2.2.1⟩, h.1, ⟨fun w hw => h.2.2.2 w (List.mem_singleton.mp hw).symm, by show 1 ≤ 2; decide⟩, fun t ws hw => ?_, fun t hw => ?_⟩
  · simp only [editU, hw]
    by_cases hb : 0 ≤ k ∧ k < (ws.length : Nat)
    · rw [if_pos hb]
      have : (!(decide (0 ≤ k + ((0 : Nat) : Int)) && decide (k + ((0 : Nat) : Int) ≤ (ws.length : Nat) - 1))) = false := by
        rw [decide_eq_true (by omega), decide_eq_true (by omega)]; rfl
      rw [show (if (1 : Int) > 1 then (1 : Int) else 1).toNat = 1 from rfl, show List.range 1 = [0] from rfl, List.find?_cons, this]; rfl
    · rw [if_neg hb]
      have : (!(decide (0 ≤ k + ((0 : Nat) : Int)) && decide (k + ((0 : Nat) : Int) ≤ (ws.length : Nat) - 1))) = true := by
        rw [Bool.not_eq_true', Bool.and_eq_false_iff, decide_eq_false_iff_not, decide_eq_false_iff_not]; omega
      rw [show (if (1 : Int) > 1 then (1 : Int) else 1).toNat = 1 from rfl, show List.range 1 = [0] from rfl, List.find?_cons, this]
      show _ = Sum.inl (Er.num (k + ((0 : Nat) : Int)))
      rw [show k + ((0 : Nat) : Int) = k by omega]
  · simp only [editU, hw]
theorem e3_ins {n : Str} {k : Int} {ws0 : List Wr} (h : EdOk (.ins n k ws0)) : E3 (.ins n k ws0) n k "insert" (.lst (ws0.map wr4)) 0 0 0 (ws0.map some) := by
  have ix : (["set", "insert", "remove"] : List Str).idxOf ("insert" : Str) = 1 := by decide +kernel
  refine ⟨rfl, by decide +kernel, by rw [ix]; rfl, by rw [if_neg (by decide +kernel)], by decide +kernel, ?_, by decide, ⟨h.2.1, h.2.2.1⟩, h.1, ⟨fun w hw => h.2.2.2.1 w (some_map hw), by rw [List.length_map]; exact h.2.2.2.2⟩, fun t ws hw => ?_, fun t hw => ?_⟩
  · rw [oW_some, ix]; rfl
  · simp only [editU, hw]
    by_cases hb : 0 ≤ k ∧ k ≤ (ws.length : Nat)
    · rw [if_pos hb]
      have : (!(decide (0 ≤ k + ((0 : Nat) : Int)) && decide (k + ((0 : Nat) : Int) ≤ (ws.length : Nat) - 0))) = false := by
        rw [decide_eq_true (by omega), decide_eq_true (by omega)]; rfl
      rw [show (if (0 : Int) > 1 then (0 : Int) else 1).toNat = 1 from rfl, show List.range 1 = [0] from rfl, List.find?_cons, this]; rfl
    · rw [if_neg hb]
      have : (!(decide (0 ≤ k + ((0 : Nat) : Int)) && decide (k + ((0 : Nat) : Int) ≤ (ws.length : Nat) - 0))) = true := by
        rw [Bool.not_eq_true', Bool.and_eq_false_iff, decide_eq_false_iff_not, decide_eq_false_iff_not]; omega
      rw [show (if (0 : Int) > 1 then (0 : Int) else 1).toNat = 1 from rfl, show List.range 1 = [0] from rfl, List.find?_cons, this]
      show _ = Sum.inl (Er.num (k + ((0 : Nat) : Int)))
      rw [show k + ((0 : Nat) : Int) = k by omega]
  · simp only [editU, hw]
theorem e3_rem {n : Str} {k : Int} {m : Nat} (h : EdOk (.rem n k m)) : E3 (.rem n k m) n k "remove" (.int m) 0 m 1 [] := by
  have ix : (["set", "insert", "remove"] : List Str).idxOf ("remove" : Str) = 2 := by decide +kernel
  refine ⟨rfl, by decide +kernel, by rw [ix]; rfl, ?_, by decide +kernel, by rw [ix]; rfl, ⟨by omega, by have := h.2.2.2.2; omega⟩, ⟨h.2.1, h.2.2.1⟩, h.1, ⟨(fun w hw => nomatch hw), by decide⟩, fun t ws hw => ?_, fun t hw => ?_⟩
  · rw [if_pos rfl]
  · have hm := h.2.2.2
    simp only [editU, hw]
    have e1 : (if (m : Int) > 1 then (m : Int) else 1).toNat = m := by split <;> omega
    rw [e1]
    unfold outK
    rw [List.find?_map]
    have ef : ((fun z : Int => !(decide (0 ≤ z) && decide (z < (ws.length : Nat)))) ∘ fun i : Nat => k + (i : Int)) = fun i : Nat => !(decide (0 ≤ k + (i : Int)) && decide (k + (i : Int) ≤ (ws.length : Nat) - 1)) := by
      funext i
      show (!(decide (0 ≤ k + (i : Int)) && decide (k + (i : Int) < (ws.length : Nat)))) = _
      rw [show decide (k + (i : Int) < (ws.length : Nat)) = decide (k + (i : Int) ≤ (ws.length : Nat) - 1) from decide_eq_decide.mpr (by omega)]
    rw [ef]
    cases (List.range m).find? fun i : Nat => !(decide (0 ≤ k + (i : Int)) && decide (k + (i : Int) ≤ (ws.length : Nat) - 1)) with
    | none => simp
    | some i => rfl
  · simp only [editU, hw]
section
variable {P : Program} {w : World} {K : PySem.W.Frag} {mg : Str → Option Value} {base : Heap}
end
end LK
set_option Elab.async false
set_option linter.all false
set_option maxRecDepth 100000
set_option maxHeartbeats 2000000
set_option pp.maxSteps 300
namespace LK
open PySem PySem.Spec PyProof.Rows L2 DL
theorem e3_tag {e : Ed} {n : Str} {k : Int} {tag : Str} {x : D} {m0 m lim : Int} {new : ORow} (h : E3 e n k tag x m0 m lim new) : tag ≠ "add" ∧ tag ≠ "drop" := by
  have h9 : ∀ y ∈ (["set", "insert", "remove"] : List Str), y ≠ "add" ∧ y ≠ "drop" := by decide +kernel
  exact h9 tag h.g
theorem resD_inr {t : Tb} {e : Ed} {u : OTb} (h : editU t e = .inr u) : resD (editR t e) = match badO u with
    | some no => .tup [.str "invalid", .str no.1, nD no.2]
    | none => tOD u := by
  simp only [editR, h]
  cases badO u <;> rfl
theorem resD_inl {t : Tb} {e : Ed} {er : Er} (h : editU t e = .inl er) : resD (editR t e) = erD er := by
  simp only [editR, h]; rfl
section
variable {P : Program} {w : World} {K : PySem.W.Frag} {mg : Str → Option Value} {base : Heap}
theorem D_edited (E : Env P w K mg base) : Def P w K mg base "_law_edited" 2 ["_law_t", "_law_edit_here"] [] sEdited := mk_f_Ledited E fun fd F => by
  refine fn_d F sc_f_Ledited (fun I ds P R h => by obtain ⟨t, e, rfl, _⟩ := h; rfl) fun cdv A outer s H EE hr tk po I ds Q R h => ?_
  obtain ⟨t, e, rfl, o, ok, q⟩ := h
  have nd := sc_f_Ledited.nd
  have hu := hr.units
  have hu1 := hr.u1
  have hr1 : Room 1 _ := hr
  have hm := o.m
  have hol : (oT t).length = t.length := by unfold oT; rw [List.length_map]
  obtain ⟨tg, n, rest, ed, hn⟩ : ∃ tg n rest, edD e = .tup (.str tg :: .str n :: rest) ∧ NmO n := by
    cases e with
    | set n k o => exact ⟨_, n, _, rfl, ok.1⟩
    | ins n k ws => exact ⟨_, n, _, rfl, ok.1⟩
    | rem n k m => exact ⟨_, n, _, rfl, ok.1⟩
    | add n ws => exact ⟨_, n, _, rfl, ok.1⟩
    | drop n => exact ⟨_, n, _, rfl, ok⟩
  refine s_cons (s_setP (d := .str n) 2 (pv_ix ix_tup (PV.is (pv_v (d := edD e) 1) ed) pv_int (p2_ixT (show atI _ ((1 : Nat) : Int) = _ from atI_n rfl))) ?_)
  refine s_cons (s_set 3 (ev_dictC E.b_dict (pv_w (d := tD t) 0 rfl) .k fun p => ?_))
  rw [entM_O]
  refine s_consI (fun δ' I' => ∃ u o4 o5 o6 o7 o8, editU t e = .inr u ∧ OTok u ∧ I' = I.and (iDic K p (entO u)) ∧ δ' = [some (tD t), some (edD e), some (.str n), some (.adr p), o4, o5, o6, o7, o8, none]) ?_ ?_
  · have key : (∃ ws, e = .add n ws) ∨ e = .drop n ∨ ∃ k tag x m0 m lim new, E3 e n k tag x m0 m lim new := by
      cases e with
      | set n' k o => cases (show D.tup _ = D.tup _ from ed); exact .inr (.inr ⟨_, _, _, _, _, _, _, e3_set ok⟩)
      | ins n' k ws => cases (show D.tup _ = D.tup _ from ed); exact .inr (.inr ⟨_, _, _, _, _, _, _, e3_ins ok⟩)
      | rem n' k m => cases (show D.tup _ = D.tup _ from ed); exact .inr (.inr ⟨_, _, _, _, _, _, _, e3_rem ok⟩)
      | add n' ws => cases (show D.tup _ = D.tup _ from ed); exact .inl ⟨_, rfl⟩
      | drop n' => cases (show D.tup _ = D.tup _ from ed); exact .inr (.inl rfl)
    rcases key with ⟨ws, rfl⟩ | rfl | ⟨k, tag, x, m0, m, lim, new, h3⟩
    · refine s_ifT (PVT.is (pt_eq hu (pv_ix ix_tup (pv_w (d := edD (.add n ws)) 1 rfl) pv_int (p2_ixT rfl)) pv_str trivial) (by decide +kernel)) ?_
      refine s_cons (s_ifP (b := (rowOf t n).isSome) (PVT.is (pt_din hu1 (.inl rfl) (pv_w (d := .str n) 2 rfl) (pv_w (d := tD t) 0 rfl) rfl) (by rw [oT_get o.nd, Option.isSome_map])) (fun hb => ?_) fun hb => s_nil ?_)
      · rw [resD_inl (er := .clash n) (by simp only [editU]; exact if_pos hb)] at q
        exact SX.drop (s_one (s_retP (pv_tup (va_cons pv_str (va_cons (pv_w (d := .str n) 2 rfl) va_nil))) q))
      · refine s_one (s_dput (k := .inr n) (y := .str n) (kds := entO (oT t)) hu1 (.r I .here) (PV.ev (pv_list E.b_list (pv_ix ix_tup (pv_w (d := edD (.add n ws)) 1 rfl) pv_int (p2_ixT (d := .lst (ws.map wr4)) rfl)) (.inl rfl)) ⟨rfl, pv_w (d := .adr p) 3 rfl, pv_w (d := .str n) 2 rfl, rfl, by unfold entO; rw [List.length_map]; omega, ?_⟩))
        exact ⟨putR (oT t) n (ws.map some), _, _, _, _, _, by simp only [editU]; exact if_neg (by rw [hb]; exact Bool.false_ne_true), otok_put o hn.l (fun w hw => ok.2.1 w (some_map hw)) (by rw [List.length_map]; have := ok.2.2; omega), by rw [← put_ent, oW_some]; rfl, rfl⟩
    · refine s_ifF (PVT.is (pt_eq hu (pv_ix ix_tup (pv_w (d := edD (.drop n)) 1 rfl) pv_int (p2_ixT rfl)) pv_str trivial) (by decide +kernel)) (s_one ?_)
      refine s_ifP (b := !(rowOf t n).isSome) (PVT.is (pt_dnin hu1 (.inl rfl) (pv_w (d := .str n) 2 rfl) (pv_w (d := tD t) 0 rfl) rfl) (by rw [oT_get o.nd, Option.isSome_map])) (fun hb => ?_) fun hb => ?_
      · have hb : (rowOf t n).isSome = false := by simpa using hb
        rw [resD_inl (er := .unk n) (by simp only [editU]; exact if_neg (by rw [hb]; exact Bool.false_ne_true))] at q
        exact SX.drop (s_one (s_retP (pv_tup (va_cons pv_str (va_cons (pv_w (d := .str n) 2 rfl) va_nil))) q))
      · have hb : (rowOf t n).isSome = true := by simpa using hb
        refine s_one (s_ifT (PVT.is (pt_eq hu (pv_ix ix_tup (pv_w (d := edD (.drop n)) 1 rfl) pv_int (p2_ixT rfl)) pv_str trivial) (by decide +kernel)) (s_one ?_))
        obtain ⟨ws, hw⟩ := Option.isSome_iff_exists.mp hb
        refine s_expr (ev_popD (d := .lst (ws.map wr4)) (kds := entO (oT t)) (.r I .here) (pv_w (d := .adr p) 3 rfl) (pv_w (d := .str n) 2 rfl) rfl ?_ rfl ?_)
        · rw [← entM_O, oT_get o.nd, hw]; rfl
        · exact ⟨(oT t).filter fun p => decide (p.1 ≠ n), _, _, _, _, _, by simp only [editU]; exact if_pos hb, otok_sub o List.filter_sublist, by rw [← drop_ent]; rfl, rfl⟩
    · obtain ⟨ta, td⟩ := e3_tag h3
      have d3 := h3.d
      refine s_ifF (PVT.is (pt_eq hu (pv_ix ix_tup (PV.is (pv_w (d := edD e) 1 rfl) d3) pv_int (p2_ixT rfl)) pv_str trivial) (decide_eq_false ta)) (s_one ?_)
      refine s_ifP (b := !(rowOf t n).isSome) (PVT.is (pt_dnin hu1 (.inl rfl) (pv_w (d := .str n) 2 rfl) (pv_w (d := tD t) 0 rfl) rfl) (by rw [oT_get o.nd, Option.isSome_map])) (fun hb => ?_) fun hb => ?_
      · have hb : rowOf t n = none := by simpa using hb
        rw [resD_inl (er := .unk n) (h3.un t hb)] at q
        exact SX.drop (s_one (s_retP (pv_tup (va_cons pv_str (va_cons (pv_w (d := .str n) 2 rfl) va_nil))) q))
      have hb : (rowOf t n).isSome = true := by simpa using hb
      obtain ⟨ws, hw⟩ := Option.isSome_iff_exists.mp hb
      obtain ⟨hnl, hwl, hgw⟩ := row_gd o hw
      have eu := h3.u t ws hw
      obtain ⟨hm0, hm2⟩ := h3.m1
      obtain ⟨hk1, hk2⟩ := h3.k1
      obtain ⟨hg, hnz⟩ := h3.gd
      refine s_one (s_ifF (PVT.is (pt_eq hu (pv_ix ix_tup (PV.is (pv_w (d := edD e) 1 rfl) d3) pv_int (p2_ixT rfl)) pv_str trivial) (decide_eq_false td)) ?_)
      refine s_cons (s_setP (d := .lst (ws.map wr4)) 4 (pv_dget hu1 (.inl rfl) (pv_w (d := tD t) 0 rfl) (pv_w (d := .str n) 2 rfl) rfl (by rw [oT_get o.nd, hw]; rfl)) ?_)
      refine s_cons (s_setP (d := .int m0) 5 (pv_ix ix_list (pv_lst (va_cons pv_int (va_cons pv_int (va_cons pv_int va_nil)))) (pv_lindexK (ss := ["set", "insert", "remove"]) (pv_lst (va_cons pv_str (va_cons pv_str (va_cons pv_str va_nil)))) (pv_ix ix_tup (PV.is (pv_w (d := edD e) 1 rfl) d3) pv_int (p2_ixT rfl)) (by decide) h3.g) (p2_ixL h3.f0)) ?_)
      refine s_consI (fun δ' I' => I' = I.and (iDic K p (entO (oT t))) ∧ δ' = [some (tD t), some (edD e), some (.str n), some (.adr p), some (.lst (ws.map wr4)), some (.int m), none, none, none, none]) (s_ifP (b := decide (tag = "remove")) (pt_eq hu (pv_ix ix_tup (PV.is (pv_w (d := edD e) 1 rfl) d3) pv_int (p2_ixT rfl)) pv_str trivial) (fun hr => ?_) fun hr => s_nil ?_) ?_
      · have hx := h3.xm
        rw [if_pos (of_decide_eq_true hr)] at hx
        exact s_one (s_setP (d := .int m) 5 (PV.is (pv_ix (z := x) ix_tup (PV.is (pv_w (d := edD e) 1 rfl) d3) pv_int (p2_ixT rfl)) hx) (And.intro rfl rfl))
      · have hx := h3.xm
        rw [if_neg (of_decide_eq_false hr)] at hx
        rw [hx]
        exact ⟨rfl, rfl⟩
      rintro δ' I' ⟨rfl, rfl⟩
      refine s_cons (s_setP (d := .int ((ws.length : Nat) - (if tag = "set" then 1 else 0))) 6 (PV.is (pv_op op_sub (pv_len E.b_len (pv_w (d := .lst (ws.map wr4)) 4 rfl) trivial) (pv_ct call_int1 E.b_int (va_cons (pv_eq hu (pv_ix ix_tup (PV.is (pv_w (d := edD e) 1 rfl) d3) pv_int (p2_ixT rfl)) pv_str trivial) va_nil) pn_intB) p2_sub) (by rw [List.length_map]; exact congrArg (fun z => D.int (((ws.length : Nat) : Int) - z)) (by by_cases h : tag = "set" <;> simp [h]))) ?_)
      generalize hM : (if m > 1 then m else 1) = M at *
      have hM1 : 1 ≤ M ∧ M ≤ 2 := by rw [← hM]; split <;> omega
      have eL : ∀ {l : Int}, l = (ws.length : Nat) - (if tag = "set" then 1 else 0) - (if tag = "remove" then 1 else 0) → l = (ws.length : Nat) - lim := fun h => by rw [h, h3.fl]; omega
      refine s_cons (s_forT (xs := List.range M.toNat) (g := fun i : Nat => D.int (k + i)) po (PVI.is (vi_range2 E.b_range (pv_ix ix_tup (PV.is (pv_w (d := edD e) 1 rfl) d3) pv_int (p2_ixT rfl)) (pv_op op_add (pv_ix ix_tup (PV.is (pv_w (d := edD e) 1 rfl) d3) pv_int (p2_ixT rfl)) (PV.is (z := .int M) (pv_cb (call_max2 rfl) E.b_max (va_cons pv_int (va_cons (pv_w (d := .int m) 5 rfl) va_nil)) pn_max2) (by rw [← hM])) p2_add) (by omega)) (by rw [show (k + M - k) = M by omega])) (fun pp δ' I' => I' = I.and (iDic K p (entO (oT t))) ∧ (∀ i ∈ pp, (!(decide (0 ≤ k + (i : Int)) && decide (k + (i : Int) ≤ (ws.length : Nat) - lim))) = false) ∧ ∃ o7, δ' = [some (tD t), some (edD e), some (.str n), some (.adr p), some (.lst (ws.map wr4)), some (.int m), some (.int ((ws.length : Nat) - (if tag = "set" then 1 else 0))), o7, none, none]) ⟨rfl, (fun i hi => nomatch hi), none, rfl⟩ ?_ ?_)
      · rintro pp i r δ' I' epp ⟨rfl, hpp, o7, rfl⟩
        refine ⟨_, [7], bind_name 7, ?_⟩
        refine s_one (s_ifP (b := !(decide (0 ≤ k + (i : Int)) && decide (k + (i : Int) ≤ (ws.length : Nat) - lim))) (PVT.is (ptn (pt_chn op_le op_le pv_int (pv_w (d := .int (k + (i : Int))) 7 rfl) p2_le (pv_op op_sub (pv_w (d := .int ((ws.length : Nat) - (if tag = "set" then 1 else 0))) 6 rfl) (pv_ct call_int1 E.b_int (va_cons (pv_eq hu (pv_ix ix_tup (PV.is (pv_w (d := edD e) 1 rfl) d3) pv_int (p2_ixT rfl)) pv_str trivial) va_nil) pn_intB) p2_sub) p2_le)) ?_) (fun hb => ?_) fun hb => s_nil ?_)
        · have e9 : ((ws.length : Nat) : Int) - (if tag = "set" then 1 else 0) - (if decide (tag = "remove") = true then 1 else 0) = (ws.length : Nat) - lim := eL (by by_cases h : tag = "remove" <;> simp [h])
          rw [e9]
        · rw [epp, find_at (x := i) hpp hb] at eu
          rw [resD_inl eu] at q
          exact SX.drop (s_one (s_retP (pv_tup (va_cons pv_str (va_cons (pv_w (d := .int (k + (i : Int))) 7 rfl) va_nil))) q))
        · refine ⟨rfl, fun j hj => ?_, _, rfl⟩
          rcases List.mem_append.mp hj with hj | hj
          · exact hpp j hj
          · rw [List.mem_singleton.mp hj]; exact hb
      · rintro δ' I' ⟨rfl, hpp, o7, rfl⟩
        have h0 := hpp 0 (List.mem_range.mpr (by omega))
        have hk0 : 0 ≤ k := by simp at h0; omega
        rw [List.find?_eq_none.mpr (fun y hy => by rw [hpp y hy]; exact Bool.false_ne_true)] at eu
        refine s_cons (s_setP (d := .lst (new.map oW)) 8 (pv_ix ix_list (pv_lst (va_cons (pv_lst (va_cons (pv_ix (z := x) ix_tup (PV.is (pv_w (d := edD e) 1 rfl) d3) pv_int (p2_ixT rfl)) va_nil)) (va_cons (pv_ix (z := x) ix_tup (PV.is (pv_w (d := edD e) 1 rfl) d3) pv_int (p2_ixT rfl)) (va_cons (pv_lst va_nil) va_nil)))) (pv_lindexK (ss := ["set", "insert", "remove"]) (pv_lst (va_cons pv_str (va_cons pv_str (va_cons pv_str va_nil)))) (pv_ix ix_tup (PV.is (pv_w (d := edD e) 1 rfl) d3) pv_int (p2_ixT rfl)) (by decide) h3.g) (p2_ixL h3.fw)) ?_)
        have eC : ((ws.take k.toNat).map some ++ new ++ (ws.drop (k.toNat + m.toNat)).map some).map oW = cutD (ws.map wr4) none (some k) ++ new.map oW ++ cutD (ws.map wr4) (some (k + m)) none := by
          rw [cutT_take _ hk0, cutT_drop _ (show (0 : Int) ≤ k + m by omega), show (k + m).toNat = k.toNat + m.toNat by omega, List.map_append, List.map_append, oW_some, oW_some, List.map_take, List.map_drop]
        have hcl : ((ws.take k.toNat).map some ++ new ++ (ws.drop (k.toNat + m.toNat)).map some).length ≤ 18 := by
          rw [List.length_append, List.length_append, List.length_map, List.length_map, List.length_take, List.length_drop]; omega
        refine s_one (s_dput (k := .inr n) (y := .str n) (kds := entO (oT t)) hu1 (.r I .here) (PV.ev (PV.is (pv_op op_cat (pv_op op_cat (pv_slL (pv_w (d := .lst (ws.map wr4)) 4 rfl) vo_none (vo_some (pv_ix ix_tup (PV.is (pv_w (d := edD e) 1 rfl) d3) pv_int (p2_ixT rfl)))) (pv_w (d := .lst (new.map oW)) 8 rfl) (p2_catKK ?_)) (pv_slL (pv_w (d := .lst (ws.map wr4)) 4 rfl) (vo_some (pv_op op_add (pv_ix ix_tup (PV.is (pv_w (d := edD e) 1 rfl) d3) pv_int (p2_ixT rfl)) (pv_w (d := .int m) 5 rfl) p2_add)) vo_none) (p2_catKK ?_)) (congrArg D.lst eC.symm)) ⟨rfl, pv_w (d := .adr p) 3 rfl, pv_w (d := .str n) 2 rfl, rfl, by unfold entO; rw [List.length_map]; omega, ?_⟩))
        · rw [cutT_take _ hk0, List.length_take, List.length_map, List.length_map]; omega
        · rw [cutT_take _ hk0, cutT_drop _ (show (0 : Int) ≤ k + m by omega), List.length_append, List.length_take, List.length_drop, List.length_map, List.length_map]; omega
        · refine ⟨_, _, _, _, _, _, eu, otok_put o hn.l (fun w hw => ?_) (by omega), by rw [← put_ent]; rfl, rfl⟩
          rcases List.mem_append.mp hw with hw | hw
          · rcases List.mem_append.mp hw with hw | hw
            · exact hgw w (List.mem_of_mem_take (some_map hw))
            · exact hg w hw
          · exact hgw w (List.mem_of_mem_drop (some_map hw))
  · rintro δ' I' ⟨u, o4, o5, o6, o7, o8, eu, ou, rfl, rfl⟩
    rw [resD_inr eu] at q
    refine sx_freezeD (j := 3) rfl ?_
    refine s_cons (s_setP (d := badD (badO u)) 9 (pv_def (D_bad E) hr1 (va_cons (pv_w (d := tOD u) 3 rfl) va_nil) fun P pp => ⟨u, rfl, ou, pp⟩) ?_)
    cases hb : badO u with
    | none =>
      rw [hb] at q
      exact s_one (s_retP (pv_if (k := true) (PVT.is (pt_isN (pv_w (d := badD none) 9 rfl)) rfl) (fun _ => pv_w (d := tOD u) 3 rfl) fun h => nomatch h) q)
    | some no =>
      rw [hb] at q
      exact s_one (s_retP (pv_if (k := false) (PVT.is (pt_isN (pv_w (d := badD (some no)) 9 rfl)) rfl) (fun h => nomatch h) fun _ => pv_op op_catA (pv_tup (va_cons pv_str va_nil)) (pv_w (d := badD (some no)) 9 rfl) (p2_catA (by show 1 + 2 ≤ 100000; decide))) q)
end
end LK
set_option Elab.async false
set_option linter.all false
set_option maxRecDepth 100000
set_option maxHeartbeats 2000000
set_option pp.maxSteps 300
namespace LK
open PySem PySem.Spec PyProof.Rows L2 DL
structure DkD (K : PySem.W.Frag) (C : Addr) : Prop where
  m : ∀ x ∈ (["insert", "remove", "add", "drop", "__setitem__"] : List Str), TMeth K C x ∧ He.ma K C x = He.ma K (cDk K) x
  q : PySem.W.noSeq K C = true
def sThing {K : PySem.W.Frag} : Spec K := fun I ds P _ => ∃ o : Option Wr, ds = [oW o] ∧ (∀ w, o = some w → GoodR w) ∧ P ((thO o).d K) I
def sDone {K : PySem.W.Frag} : Spec K := fun I ds P R => ∃ (A : DkA) (S : DkS) (c : Rc K) (e : Ed), ds = [.adr A.x, edD e] ∧ I = c.fill (iDk K A S) ∧ DkC K A.C ∧ DkD K A.C ∧ TbOk S.t ∧ S.past.length ≤ 500 ∧ EdOk e ∧ edP K A S c e P R
def sChange {K : PySem.W.Frag} : Spec K := fun I ds P R => ∃ (A : DkA) (S : DkS) (c : Rc K) (e : Ed), ds = [.adr A.x, edD e] ∧ I = c.fill (iDk K A S) ∧ DkC K A.C ∧ DkD K A.C ∧ TbOk S.t ∧ S.past.length ≤ 500 ∧ EdOk e ∧ match editR S.t e with
  | .inl er => P (erD er) I
  | .inr u => P .non (c.fill (iDk K A ⟨sortW (tbOf u), S.past ++ [S.t], []⟩))
section
variable {P : Program} {w : World} {K : PySem.W.Frag} {mg : Str → Option Value} {base : Heap}
theorem dkd_desk (E : Env P w K mg base) : DkD K (cDk K) := ⟨fun x hx => by
  simp only [List.mem_cons, List.not_mem_nil, or_false] at hx
  rcases hx with rfl | rfl | rfl | rfl | rfl
  · exact ⟨E.h_Desk_insert, rfl⟩
  · exact ⟨E.h_Desk_remove, rfl⟩
  · exact ⟨E.h_Desk_add, rfl⟩
  · exact ⟨E.h_Desk_drop, rfl⟩
  · exact ⟨E.h_Desk_setitem, rfl⟩, E.nq_Desk⟩
theorem D_thing (E : Env P w K mg base) : Def P w K mg base "_law_thing" 5 ["_law_one_here"] [] sThing := mk_f_Lthing E fun fd F => by
  refine fn_d F sc_f_Lthing (fun I ds P R h => by obtain ⟨o, rfl, _⟩ := h; rfl) fun cdv A outer s H EE hr tk po I ds Q R h => ?_
  obtain ⟨o, rfl, hg, q⟩ := h
  have nd := sc_f_Lthing.nd
  have hr4 : Room 4 _ := hr
  cases o with
  | some w0 =>
    have g := hg w0 rfl
    exact s_one (s_retP (pv_if (k := true) (pt_v (pv_cb call_isi E.b_isinstance (va_cons (pv_v (d := wr4 w0) 0) (va_cons (pv_gty (n := "tuple") E.b_tuple) va_nil)) (pn_isiT (t := "tuple") rfl))) (fun _ => pv_write E hr4 (pv_ix ix_tup (pv_v (d := wr4 w0) 0) pv_int (p2_ixT rfl)) (pv_ix ix_tup (pv_v (d := wr4 w0) 0) pv_int (p2_ixT rfl)) (pv_ix ix_tup (pv_v (d := wr4 w0) 0) pv_int (p2_ixT rfl)) (pv_ix ix_tup (pv_v (d := wr4 w0) 0) pv_int (p2_ixT rfl)) g.g g.h) (fun h => nomatch h)) q)
  | none =>
    exact s_one (s_retP (pv_if (k := false) (pt_v (pv_cb call_isi E.b_isinstance (va_cons (pv_v (d := .non) 0) (va_cons (pv_gty (n := "tuple") E.b_tuple) va_nil)) (pn_isi (t := "NoneType") (b := false) rfl))) (fun h => nomatch h) (fun _ => pv_v (d := .non) 0)) q)
theorem D_done (E : Env P w K mg base) : Def P w K mg base "_law_done" 8 ["_law_d", "_law_edit_here"] [] sDone := mk_f_Ldone E fun fd F => by
  refine fn_d F sc_f_Ldone (fun I ds P R h => by obtain ⟨A, S, c, e, rfl, _⟩ := h; rfl) fun cdv Ac outer s H EE hr tk po I ds Q R h => ?_
  obtain ⟨A, S, c, e, rfl, rfl, dc, dd, o, hz, ok, q⟩ := h
  have nd := sc_f_Ldone.nd
  have hu := hr.units
  have hr5 : Room 5 _ := hr.mono (by decide)
  have hr7 : Room 7 _ := hr
  have eI : ∀ J : Iv K, (c.fill (iDk K A S)).and J = (Rc.l c J).fill (iDk K A S) := fun J => rfl
  cases e with
  | set n k o' =>
    have hM := dd.m "__setitem__" (by simp)
    refine s_one (s_ifT (PVT.is (pt_eq hu (pv_ix ix_tup (pv_v (d := edD (.set n k o')) 1) pv_int (p2_ixT rfl)) pv_str trivial) (by decide +kernel)) (s_one ?_))
    refine s_subSet (C := A.C) tk dd.q hM.1.f hM.1.i (hM.2 ▸ M_dkSet E) hr7 (PV.ev (d := (thO o').d K) (pv_def (D_thing E) hr5 (va_cons (pv_ix (z := oW o') ix_tup (pv_v (d := edD (.set n k o')) 1) pv_int (p2_ixT rfl)) va_nil) fun P pp => ⟨o', rfl, ok.2.2.2, pp⟩) ((pv_v (d := .adr A.x) 0).ev ((pv_tup (va_cons (pv_ix (z := .str n) ix_tup (pv_v (d := edD (.set n k o')) 1) pv_int (p2_ixT rfl)) (va_cons (pv_ix (z := .int k) ix_tup (pv_v (d := edD (.set n k o')) 1) pv_int (p2_ixT rfl)) va_nil))).ev ⟨insD_ins c (dk_none (by simp)) dk_ins, A, S, c, n, k, o', rfl, rfl, dc, o, hz, ok.2.2.2, q⟩)))
  | ins n k ws =>
    have hM := dd.m "insert" (by simp)
    refine s_one (s_ifF (PVT.is (pt_eq hu (pv_ix ix_tup (pv_v (d := edD (.ins n k ws)) 1) pv_int (p2_ixT rfl)) pv_str trivial) (by decide +kernel)) (s_one (s_ifT (PVT.is (pt_eq hu (pv_ix ix_tup (pv_v (d := edD (.ins n k ws)) 1) pv_int (p2_ixT rfl)) pv_str trivial) (by decide +kernel)) (s_one ?_))))
    refine s_expr (ev_methA tk ⟨fun f => dc.l.get f⟩ hM.1.f hM.1.i hM.1.k (hM.2 ▸ M_dkIns E) hr7 ((pv_v (d := .adr A.x) 0).ev ⟨insD_ins c (dk_none (by simp)) dk_ins, ea_cons ((pv_ix (z := .str n) ix_tup (pv_v (d := edD (.ins n k ws)) 1) pv_int (p2_ixT rfl)).ev (ea_cons ((pv_ix (z := .int k) ix_tup (pv_v (d := edD (.ins n k ws)) 1) pv_int (p2_ixT rfl)).ev (ea_cons (PV.ev (d := .lst (ws.map (wrD K))) ?_ (ea_nil ⟨A, S, c, n, k, ws, rfl, rfl, dc, o, hz, ok.2.2.2.1, by have := ok.2.2.2.2; omega, q⟩))))))⟩))
    exact pv_lcTM (xs := ws) (g := wr4) (fun x => wrD K x) [("_law_one_here", 2)] (fun x => [some (.adr A.x), some (edD (.ins n k ws)), some (wr4 x)]) (vi_lst (pv_ix (z := .lst (ws.map wr4)) ix_tup (pv_v (d := edD (.ins n k ws)) 1) pv_int (p2_ixT rfl))) (by have := ok.2.2.2.2; omega) (fun x s H C cl fp => bind_name 2) (fun x hx J s H C cl fp => pv_def (D_thing E) hr5 (va_cons (pv_w (d := wr4 x) 2 rfl) va_nil) fun P pp => ⟨some x, rfl, fun w e => by cases e; exact ok.2.2.2.1 x hx, pp⟩)
  | rem n k m =>
    have hM := dd.m "remove" (by simp)
    refine s_one (s_ifF (PVT.is (pt_eq hu (pv_ix ix_tup (pv_v (d := edD (.rem n k m)) 1) pv_int (p2_ixT rfl)) pv_str trivial) (by decide +kernel)) (s_one (s_ifF (PVT.is (pt_eq hu (pv_ix ix_tup (pv_v (d := edD (.rem n k m)) 1) pv_int (p2_ixT rfl)) pv_str trivial) (by decide +kernel)) (s_one (s_ifT (PVT.is (pt_eq hu (pv_ix ix_tup (pv_v (d := edD (.rem n k m)) 1) pv_int (p2_ixT rfl)) pv_str trivial) (by decide +kernel)) (s_one ?_))))))
    refine s_expr (ev_methA tk ⟨fun f => dc.l.get f⟩ hM.1.f hM.1.i hM.1.k (hM.2 ▸ M_dkRem E) hr7 ((pv_v (d := .adr A.x) 0).ev ⟨insD_ins c (dk_none (by simp)) dk_ins, ea_cons ((pv_ix (z := .str n) ix_tup (pv_v (d := edD (.rem n k m)) 1) pv_int (p2_ixT rfl)).ev (ea_cons ((pv_ix (z := .int k) ix_tup (pv_v (d := edD (.rem n k m)) 1) pv_int (p2_ixT rfl)).ev (ea_cons ((pv_ix (z := .int m) ix_tup (pv_v (d := edD (.rem n k m)) 1) pv_int (p2_ixT rfl)).ev (ea_nil ⟨A, S, c, n, k, m, rfl, rfl, dc, o, hz, by have := ok.2.1; omega, by have := ok.2.2.1; omega, ok.2.2.2.1, by have := ok.2.2.2.2; omega, q⟩))))))⟩))
  | add n ws =>
    have hM := dd.m "add" (by simp)
    refine s_one (s_ifF (PVT.is (pt_eq hu (pv_ix ix_tup (pv_v (d := edD (.add n ws)) 1) pv_int (p2_ixT rfl)) pv_str trivial) (by decide +kernel)) (s_one (s_ifF (PVT.is (pt_eq hu (pv_ix ix_tup (pv_v (d := edD (.add n ws)) 1) pv_int (p2_ixT rfl)) pv_str trivial) (by decide +kernel)) (s_one (s_ifF (PVT.is (pt_eq hu (pv_ix ix_tup (pv_v (d := edD (.add n ws)) 1) pv_int (p2_ixT rfl)) pv_str trivial) (by decide +kernel)) (s_one (s_ifT (PVT.is (pt_eq hu (pv_ix ix_tup (pv_v (d := edD (.add n ws)) 1) pv_int (p2_ixT rfl)) pv_str trivial) (by decide +kernel)) (s_one ?_))))))))
    refine s_expr (ev_methA tk ⟨fun f => dc.l.get f⟩ hM.1.f hM.1.i hM.1.k (hM.2 ▸ M_dkAdd E) hr7 ((pv_v (d := .adr A.x) 0).ev ⟨insD_ins c (dk_none (by simp)) dk_ins, ea_cons ((pv_ix (z := .str n) ix_tup (pv_v (d := edD (.add n ws)) 1) pv_int (p2_ixT rfl)).ev (ea_cons (PV.ev (d := .lst (ws.map (wrD K))) ?_ (ea_nil ⟨A, S, c, n, ws, rfl, rfl, dc, o, hz, by have := ok.1.l; omega, ok.2.1, by have := ok.2.2; omega, q⟩))))⟩))
    exact pv_lcTM (xs := ws) (g := wr4) (fun x => wrD K x) [("_law_one_here", 2)] (fun x => [some (.adr A.x), some (edD (.add n ws)), some (wr4 x)]) (vi_lst (pv_ix (z := .lst (ws.map wr4)) ix_tup (pv_v (d := edD (.add n ws)) 1) pv_int (p2_ixT rfl))) (by have := ok.2.2; omega) (fun x s H C cl fp => bind_name 2) (fun x hx J s H C cl fp => pv_def (D_thing E) hr5 (va_cons (pv_w (d := wr4 x) 2 rfl) va_nil) fun P pp => ⟨some x, rfl, fun w e => by cases e; exact ok.2.1 x hx, pp⟩)
  | drop n =>
    have hM := dd.m "drop" (by simp)
    refine s_one (s_ifF (PVT.is (pt_eq hu (pv_ix ix_tup (pv_v (d := edD (.drop n)) 1) pv_int (p2_ixT rfl)) pv_str trivial) (by decide +kernel)) (s_one (s_ifF (PVT.is (pt_eq hu (pv_ix ix_tup (pv_v (d := edD (.drop n)) 1) pv_int (p2_ixT rfl)) pv_str trivial) (by decide +kernel)) (s_one (s_ifF (PVT.is (pt_eq hu (pv_ix ix_tup (pv_v (d := edD (.drop n)) 1) pv_int (p2_ixT rfl)) pv_str trivial) (by decide +kernel)) (s_one (s_ifF (PVT.is (pt_eq hu (pv_ix ix_tup (pv_v (d := edD (.drop n)) 1) pv_int (p2_ixT rfl)) pv_str trivial) (by decide +kernel)) (s_one ?_))))))))
    refine s_expr (ev_methA tk ⟨fun f => dc.l.get f⟩ hM.1.f hM.1.i hM.1.k (hM.2 ▸ M_dkDrop E) hr7 ((pv_v (d := .adr A.x) 0).ev ⟨insD_ins c (dk_none (by simp)) dk_ins, ea_cons ((pv_ix (z := .str n) ix_tup (pv_v (d := edD (.drop n)) 1) pv_int (p2_ixT rfl)).ev (ea_nil ⟨A, S, c, n, rfl, rfl, dc, o, hz, q⟩))⟩))
theorem D_change (E : Env P w K mg base) : Def P w K mg base "_law_change" 9 ["_law_d", "_law_edit_here"] [] sChange := mk_f_Lchange E fun fd F => by
  refine fn_d F sc_f_Lchange (fun I ds P R h => by obtain ⟨A, S, c, e, rfl, _⟩ := h; rfl) fun cdv Ac outer s H EE hr tk po I ds Q R h => ?_
  obtain ⟨A, S, c, e, rfl, rfl, dc, dd, o, hz, ok, q⟩ := h
  have nd := sc_f_Lchange.nd
  have hr8 : Room 8 _ := hr
  refine s_cons (s_setP 2 pv_non ?_)
  refine s_consI (fun δ' I' => ∃ d o3, Q d I' ∧ δ' = [some (.adr A.x), some (edD e), some d, o3]) (s_tryM tk nd (.cons (namesG E.g_Clash) (i := 3) (.cons (namesG E.g_UnknownWork) (i := 3) (.cons (namesG E.g_NoWrite) (i := 3) (.cons (namesG E.g_InvalidCast) (i := 3) .nil)))) fun W' pn xe tk' po' => s_one (s_expr (ev_def tk' (D_done E) hr8 (ea_cons ((pv_v (d := .adr A.x) 0).ev (ea_cons ((pv_v (d := edD e) 1).ev (ea_nil ⟨A, S, c, e, rfl, rfl, dc, dd, o, hz, ok, ?_⟩)))))))) ?_
  · unfold edP
    cases he : editR S.t e with
    | inr u =>
      rw [he] at q
      exact ⟨_, _, q, rfl⟩
    | inl er =>
      rw [he] at q
      cases er with
      | clash n =>
        refine ⟨true, E.xm_Clash_Clash, fun _ a dd oe pn zc hf => ?_, fun h => nomatch h⟩
        refine s_one (s_setP 2 (pv_tup (va_cons pv_str (va_cons (pv_xf E.t_Clash.xf E.f_Clash_name zc hf (pv_v 3) rfl) va_nil))) ?_)
        exact ⟨_, _, q, rfl⟩
      | unk n =>
        refine ⟨false, E.xm_UnknownWork_Clash, (fun h => nomatch h), fun _ => ⟨true, E.xm_UnknownWork_UnknownWork, fun _ a dd oe pn zc hf => ?_, fun h => nomatch h⟩⟩
        refine s_one (s_setP 2 (pv_tup (va_cons pv_str (va_cons (pv_xf E.t_UnknownWork.xf E.f_UnknownWork_name zc hf (pv_v 3) rfl) va_nil))) ?_)
        exact ⟨_, _, q, rfl⟩
      | num k =>
        refine ⟨false, E.xm_NoWrite_Clash, (fun h => nomatch h), fun _ => ⟨false, E.xm_NoWrite_UnknownWork, (fun h => nomatch h), fun _ => ⟨true, E.xm_NoWrite_NoWrite, fun _ a dd oe pn zc hf => ?_, fun h => nomatch h⟩⟩⟩
        refine s_one (s_setP 2 (pv_tup (va_cons pv_str (va_cons (pv_xf E.t_NoWrite.xf E.f_NoWrite_number zc hf (pv_v 3) rfl) va_nil))) ?_)
        exact ⟨_, _, q, rfl⟩
      | inv n i =>
        refine ⟨false, E.xm_InvalidCast_Clash, (fun h => nomatch h), fun _ => ⟨false, E.xm_InvalidCast_UnknownWork, (fun h => nomatch h), fun _ => ⟨false, E.xm_InvalidCast_NoWrite, (fun h => nomatch h), fun _ => ⟨true, E.xm_InvalidCast_InvalidCast, fun _ a dd oe pn zc hf => ?_, fun h => nomatch h⟩⟩⟩⟩
        refine s_one (s_setP 2 (pv_tup (va_cons pv_str (va_cons (pv_xf E.t_InvalidCast.xf E.f_InvalidCast_name zc hf (pv_v 3) rfl) (va_cons (pv_xf E.t_InvalidCast.xf E.f_InvalidCast_number zc hf (pv_v 3) rfl) va_nil)))) ?_)
        exact ⟨_, _, q, rfl⟩
  · rintro δ' I' ⟨d, o3, q, rfl⟩
    exact s_one (s_retP (pv_w (d := d) 2 rfl) q)
end
end LK
set_option Elab.async false
set_option linter.all false
set_option maxRecDepth 100000
set_option maxHeartbeats 4000000
namespace LK
open PySem PySem.Spec PyProof.Rows L2 DL
theorem PlOk.add {t : Tb} {w : Nat} {hs few : List Pc} {ns : List Str} {x : Str} (h : PlOk t w hs few ns) (hx : x ∈ rdyP t hs ns) : PlOk t w hs few (ns ++ [x]) :=
  ⟨h.o, h.n1, h.n99, h.hk, h.fl, h.fz, by rw [List.length_append]; exact List.mem_flatMap.mpr ⟨ns, h.pre, List.mem_map.mpr ⟨x, hx, rfl⟩⟩⟩
section
variable {P : Program} {w : World} {K : PySem.W.Frag} {mg : Str → Option Value} {base : Heap}
end
end LK
set_option Elab.async false
set_option linter.all false
set_option maxRecDepth 100000
set_option maxHeartbeats 6000000
namespace LK
open PySem PySem.Spec PyProof.Rows L2 DL
theorem Wk.addP {K : PySem.W.Frag} {I : Iv K} : Wk I (I.and (iEmp K)) := ⟨fun a h => h.elim id fun h => h.elim, fun G H h => ⟨h, trivial, fun a ha => ha.2⟩⟩
section
variable {P : Program} {w : World} {K : PySem.W.Frag} {mg : Str → Option Value} {base : Heap}
end
end LK
set_option Elab.async false
set_option linter.all false
set_option maxRecDepth 100000
set_option maxHeartbeats 1000000
namespace DL
open PySem PySem.Spec PyProof.Rows L2
section
variable {X : Cx} {W : WX} {R : Rx X.K} {P : D → Iv X.K → Prop} {I : Iv X.K} {e : Expr} {δ : DEnv} {pos : Pos} {C p g : Addr} {f : Str} {n : Nat} {S : Spec X.K} {fd : FuncData}
end
end DL
set_option Elab.async false
set_option linter.all false
set_option maxRecDepth 100000
set_option maxHeartbeats 2000000
set_option pp.maxSteps 300
namespace LK
open PySem PySem.Spec PyProof.Rows L2 DL
theorem rowOf_prm {t u : Tb} (nd : (t.map (·.1)).Nodup) (h : u.Perm t) (n : Str) : rowOf u n = rowOf t n := by
  cases e : rowOf t n with
  | none => exact rowOf_none.mpr fun hm => rowOf_none.mp e ((h.map (·.1)).mem_iff.mp hm)
  | some ws =>
    have ndu : (u.map (·.1)).Nodup := (h.map (·.1)).nodup_iff.mpr nd
    exact rowOf_some ndu (h.mem_iff.mpr (rowOf_mem e))
theorem put_perm {u v : OTb} (h : u.Perm v) (n : Str) (r : ORow) : (putR u n r).Perm (putR v n r) := by
  unfold putR
  by_cases hn : n ∈ u.map (·.1)
  · rw [if_pos hn, if_pos ((h.map (·.1)).mem_iff.mp hn)]
    exact h.map _
  · rw [if_neg hn, if_neg fun hm => hn ((h.map (·.1)).mem_iff.mpr hm)]
    exact h.append_right _
theorem editU_sort {t : Tb} (nd : (t.map (·.1)).Nodup) (e : Ed) : (∃ er, editU t e = .inl er ∧ editU (sortW t) e = .inl er) ∨ ∃ u u', editU t e = .inr u ∧ editU (sortW t) e = .inr u' ∧ u'.Perm u := by
  have hr : ∀ n, rowOf (sortW t) n = rowOf t n := fun n => rowOf_prm nd (sortW_perm t) n
  have hp : (oT (sortW t)).Perm (oT t) := (sortW_perm t).map _
  cases e with
  | set n k o =>
    simp only [editU, hr]
    cases rowOf t n with
    | none => exact .inl ⟨_, rfl, rfl⟩
    | some ws =>
      by_cases h : 0 ≤ k ∧ k < (ws.length : Nat)
      · simp only [if_pos h]; exact .inr ⟨_, _, rfl, rfl, put_perm hp ..⟩
      · simp only [if_neg h]; exact .inl ⟨_, rfl, rfl⟩
  | ins n k new =>
    simp only [editU, hr]
    cases rowOf t n with
    | none => exact .inl ⟨_, rfl, rfl⟩
    | some ws =>
      by_cases h : 0 ≤ k ∧ k ≤ (ws.length : Nat)
      · simp only [if_pos h]; exact .inr ⟨_, _, rfl, rfl, put_perm hp ..⟩
      · simp only [if_neg h]; exact .inl ⟨_, rfl, rfl⟩
  | rem n k m =>
    simp only [editU, hr]
    cases rowOf t n with
    | none => exact .inl ⟨_, rfl, rfl⟩
    | some ws =>
      cases h : outK ws.length k m with
      | none => simp only [h]; exact .inr ⟨_, _, rfl, rfl, put_perm hp ..⟩
      | some z => simp only [h]; exact .inl ⟨_, rfl, rfl⟩
  | add n ws =>
    simp only [editU, hr]
    by_cases h : (rowOf t n).isSome = true
    · simp only [if_pos h]; exact .inl ⟨_, rfl, rfl⟩
    · simp only [if_neg h]; exact .inr ⟨_, _, rfl, rfl, put_perm hp ..⟩
  | drop n =>
    simp only [editU, hr]
    by_cases h : (rowOf t n).isSome = true
    · simp only [if_pos h]; exact .inr ⟨_, _, rfl, rfl, hp.filter _⟩
    · simp only [if_neg h]; exact .inl ⟨_, rfl, rfl⟩
structure UOk (u : OTb) : Prop where
  nd : (u.map (·.1)).Nodup
  g : ∀ p ∈ u, ∀ w, some w ∈ p.2 → GoodR w
  k : ∀ p ∈ u, PyData.strOk p.1 = true
  z : ∀ p ∈ u, p.1 ≠ "none"
theorem uok_t {t : Tb} (o : TbOk t) (hz : ∀ p ∈ t, p.1 ≠ "none") : UOk (oT t) := ⟨by rw [oT_names]; exact o.nd, fun p hp => (oT_bd o hp).1, fun p hp => by
  obtain ⟨q, hq, rfl⟩ := List.mem_map.mp hp
  exact isName_ok (o.nm q hq), fun p hp => by
  obtain ⟨q, hq, rfl⟩ := List.mem_map.mp hp
  exact hz q hq⟩
theorem uok_put {u : OTb} (o : UOk u) {n : Str} {r : ORow} (hn : NmO n) (hg : ∀ w, some w ∈ r → GoodR w) : UOk (putR u n r) := ⟨put_nd o.nd n r, fun p hp w hw => by
  rcases put_mem hp with h | rfl
  · exact o.g p h w hw
  · exact hg w hw, fun p hp => by
  rcases put_mem hp with h | rfl
  · exact o.k p h
  · exact hn.k, fun p hp => by
  rcases put_mem hp with h | rfl
  · exact o.z p h
  · exact hn.z⟩
theorem uok_sub {u v : OTb} (o : UOk u) (h : v.Sublist u) : UOk v := ⟨(h.map _).nodup o.nd, fun p hp => o.g p (h.subset hp), fun p hp => o.k p (h.subset hp), fun p hp => o.z p (h.subset hp)⟩
theorem edit_ok {t : Tb} (o : TbOk t) (hz : ∀ p ∈ t, p.1 ≠ "none") {e : Ed} (ok : EdOk e) {u : OTb} (h : editU t e = .inr u) : UOk u := by
  have o1 := uok_t o hz
  have row : ∀ {n k tag x m0 m lim new}, E3 e n k tag x m0 m lim new → UOk u := fun {n k tag x m0 m lim new} h3 => by
    cases hw : rowOf t n with
    | none => rw [h3.un t hw] at h; cases h
    | some ws =>
      rw [h3.u t ws hw] at h
      obtain ⟨_, _, hgw⟩ := row_gd o hw
      split at h
      · cases h
      · cases h
        refine uok_put o1 h3.n1 fun w hw => ?_
        rcases List.mem_append.mp hw with hw | hw
        · rcases List.mem_append.mp hw with hw | hw
          · exact hgw w (List.mem_of_mem_take (some_map hw))
          · exact h3.gd.1 w hw
        · exact hgw w (List.mem_of_mem_drop (some_map hw))
  cases e with
  | set n k o => exact row (e3_set ok)
  | ins n k ws => exact row (e3_ins ok)
  | rem n k m => exact row (e3_rem ok)
  | add n ws =>
    simp only [editU] at h
    split at h
    · cases h
    · cases h
      exact uok_put o1 ok.1 fun w hw => ok.2.1 w (some_map hw)
  | drop n =>
    simp only [editU] at h
    split at h
    · cases h
      exact uok_sub o1 List.filter_sublist
    · cases h
theorem badO_name {u : OTb} {no : Str × Option Nat} (h : badO u = some no) : no.1 = "" ∨ ∃ p ∈ u, p.1 = no.1 := by
  unfold badO at h
  split at h
  · obtain ⟨p, hp, e⟩ := List.exists_of_findSome?_eq_some h
    refine .inr ⟨p, (sortW_perm u).mem_iff.mp hp, ?_⟩
    unfold nameBad at e
    split at e
    · rw [Option.map_eq_some_iff] at e
      obtain ⟨o, _, e⟩ := e
      rw [← e]
    · cases e; rfl
  · cases h; exact .inl rfl
theorem er_inv {n : Str} {o : Option Nat} (h : PyData.strOk n = true) : okEq (erD (.inv n o)) = true := by
  cases o with
  | none => exact (OkD.t3 (n := 1) (OkD.str (by decide +kernel)) (OkD.str h) .non).okEq (by decide)
  | some i => exact (OkD.t3 (n := 1) (OkD.str (by decide +kernel)) (OkD.str h) .int).okEq (by decide)
theorem er_two {a n : Str} (ha : PyData.strOk a = true) (h : PyData.strOk n = true) : okEq (.tup [.str a, .str n]) = true := (OkD.t2 (n := 1) (OkD.str ha) (OkD.str h)).okEq (by decide)
theorem er_num {k : Int} : okEq (erD (.num k)) = true := (OkD.t2 (n := 1) (OkD.str (by decide +kernel)) .int).okEq (by decide)
theorem edit_er {t : Tb} {e : Ed} (ok : EdOk e) {er : Er} (h : editU t e = .inl er) : okEq (erD er) = true := by
  have row : ∀ {n k tag x m0 m lim new}, E3 e n k tag x m0 m lim new → okEq (erD er) = true := fun {n k tag x m0 m lim new} h3 => by
    cases hw : rowOf t n with
    | none =>
      rw [h3.un t hw] at h
      cases h
      exact er_two (by decide +kernel) h3.n1.k
    | some ws =>
      rw [h3.u t ws hw] at h
      split at h
      · cases h; exact er_num
      · cases h
  cases e with
  | set n k o => exact row (e3_set ok)
  | ins n k ws => exact row (e3_ins ok)
  | rem n k m => exact row (e3_rem ok)
  | add n ws =>
    simp only [editU] at h
    split at h
    · cases h; exact er_two (by decide +kernel) ok.1.k
    · cases h
  | drop n =>
    simp only [editU] at h
    split at h
    · cases h
    · cases h; exact er_two (by decide +kernel) ok.k
theorem editR_sort {t : Tb} (o : TbOk t) (hz : ∀ p ∈ t, p.1 ≠ "none") {e : Ed} (ok : EdOk e) : (∃ er, editR t e = .inl er ∧ editR (sortW t) e = .inl er ∧ okEq (erD er) = true) ∨ ∃ u', editR t e = .inr (oT u') ∧ TbOk u' ∧ (∀ p ∈ u', p.1 ≠ "none") ∧ ∃ v, editR (sortW t) e = .inr v ∧ sortW (tbOf v) = sortW u' := by
  rcases editU_sort o.nd e with ⟨er, e1, e2⟩ | ⟨u, u', e1, e2, hp⟩
  · refine .inl ⟨er, ?_, ?_, edit_er ok e1⟩
    · simp only [editR, e1]
    · simp only [editR, e2]
  · have hu := edit_ok o hz ok e1
    have hu' : UOk u' := edit_ok o.sort (fun p hp => hz p ((sortW_perm t).mem_iff.mp hp)) ok e2
    cases hb : badO u with
    | some no =>
      refine .inl ⟨.inv no.1 no.2, ?_, ?_, ?_⟩
      · simp only [editR, e1, hb]
      · simp only [editR, e2, badO_perm hu'.nd hp, hb]
      · refine er_inv ?_
        rcases badO_name hb with h | ⟨p, hp, h⟩
        · rw [h]; decide +kernel
        · rw [← h]; exact hu.k p hp
    | none =>
      obtain ⟨g1, g2⟩ := good_of hu.nd hu.g hb
      refine .inr ⟨tbOf u, ?_, g2, fun p hp => ?_, u', ?_, ?_⟩
      · simp only [editR, e1, hb, g1]
      · obtain ⟨q, hq, rfl⟩ := List.mem_map.mp hp
        exact hu.z q hq
      · simp only [editR, e2, badO_perm hu'.nd hp, hb]
      · exact sortW_permE (by rw [tbOf_names]; exact hu'.nd) (hp.map _)
end LK
set_option Elab.async false
set_option linter.all false
set_option maxRecDepth 100000
set_option maxHeartbeats 2000000
set_option pp.maxSteps 300
namespace LK
open PySem PySem.Spec PyProof.Rows L2 DL
abbrev dkA (K : PySem.W.Frag) (x dx : Addr) (w : Nat) : DkA := ⟨x, dx, cDk K, w, none⟩
def wrtD (K : PySem.W.Frag) (t : Tb) (n : Str) (k : Int) : D := match rowOf t n with
  | none => .tup [.str "unknown", .str n]
  | some ws => match getW ws k with
    | some x => wrD K x
    | none => .tup [.str "number", .int k]
def sLwrite {K : PySem.W.Frag} : Spec K := fun I ds P _ => ∃ (x dx : Addr) (w : Nat) (S : DkS) (c : Rc K) (n : Str) (k : Int), ds = [.adr x, .str n, .int k] ∧ I = c.fill (iDk K (dkA K x dx w) S) ∧ TbOk S.t ∧ P (wrtD K S.t n k) I
def sShown {K : PySem.W.Frag} : Spec K := fun I ds P _ => ∃ (x dx : Addr) (w : Nat) (S : DkS) (c : Rc K) (t : Tb), ds = [.adr x, tD t, .int w] ∧ I = c.fill (iDk K (dkA K x dx w) S) ∧ TbOk t ∧ S.t = sortW t ∧ P (.bl true) I
abbrev iLw (K : PySem.W.Frag) (c : Rc K) (x dx : Addr) (w : Nat) (t : Tb) (past later : List Tb) (p q : Addr) : Iv K := (c.fill (iDk K (dkA K x dx w) ⟨sortW t, past.map sortW, later.map sortW⟩)).and ((iLst K p (past.map tD)).and (iLst K q (later.map tD)))
def sTurned {K : PySem.W.Frag} : Spec K := fun I ds P _ => ∃ (x dx : Addr) (w : Nat) (c : Rc K) (t : Tb) (past later : List Tb) (p q : Addr) (back : Bool), ds = [.adr x, tD t, .adr p, .adr q, .bl back] ∧ I = iLw K c x dx w t past later p q ∧ past.length ≤ 400 ∧ later.length ≤ 400 ∧
  if back = true then (past = [] → P (tD t) I) ∧ ∀ p0 u, past = p0 ++ [u] → P (tD u) (iLw K c x dx w u p0 (later ++ [t]) p q)
  else (later = [] → P (tD t) I) ∧ ∀ p0 u, later = p0 ++ [u] → P (tD u) (iLw K c x dx w u (past ++ [t]) p0 p q)
theorem SX.evEq {X : Cx} {W : WX} {R : Rx X.K} {e : Expr} {δ : DEnv} {I I' : Iv X.K} {P : D → Iv X.K → Prop} (h : I = I') (k : EvX X W R e δ I' P) : EvX X W R e δ I P := h ▸ k
section
variable {P : Program} {w : World} {K : PySem.W.Frag} {mg : Str → Option Value} {base : Heap}
theorem pt_ceqK {X : Cx} {I : Iv X.K} {δ : DEnv} {a b : Expr} {pos : Pos} {t u : Tb} {k : Bool} (E : Env X.prog X.w X.K X.mg X.base) (hr : Room 4 X.A) (ha : PV X I a δ (cD X.K t)) (hb : PV X I b δ (cD X.K u)) (nd : (u.map (·.1)).Nodup) (he : castEq t u = k) (hm : behindInMarks .Eq b = false := by first | exact nomark _ | rfl) : PVT X I (.Compare a [.Eq] [b] pos) δ k :=
  pt_cmp (SlX.op_own (fun _ _ => rfl) E.h_Cast_eq.f E.h_Cast_eq.i (M_ceq E) hr takesPF) ha hb (p2_own (z := .bl k) E.k_Cast.nW fun P p => ⟨_, _, rfl, .inl ⟨_, rfl, nd, by rw [he]; exact p⟩⟩) hm
theorem pt_weqS {X : Cx} {I : Iv X.K} {δ : DEnv} {a b : Expr} {pos : Pos} (E : Env X.prog X.w X.K X.mg X.base) (x : Wr) (hr : Room 1 X.A) (ha : PV X I a δ (wrD X.K x)) (hb : PV X I b δ (wrD X.K x)) (hm : behindInMarks .Eq b = false := by first | exact nomark _ | rfl) : PVT X I (.Compare a [.Eq] [b] pos) δ true :=
  pt_cmp (SlX.op_own (fun _ _ => rfl) E.h_Write_eq.f E.h_Write_eq.i (M_weq E) hr takesPF) ha hb (p2_own E.k_Write.nW fun P p => ⟨x.k, x.t, x.l, x.e, .inl ⟨x.k, x.t, x.l, x.e, rfl, by rw [wEq_dec, decide_eq_true rfl]; exact p⟩⟩) hm
theorem D_Lwrite (E : Env P w K mg base) : Def P w K mg base "_law_write" 7 ["_law_d", "_law_name", "_law_k"] [] sLwrite := mk_f_Lwrite E fun fd F => by
  refine fn_d F sc_f_Lwrite (fun I ds P R h => by obtain ⟨x, dx, w, S, c, n, k, rfl, _⟩ := h; rfl) fun cdv Ac outer s H EE hr tk po I ds Q R h => ?_
  obtain ⟨x, dx, w, S, c, n, k, rfl, rfl, o, q⟩ := h
  have nd := sc_f_Lwrite.nd
  have hr6 : Room 6 _ := hr
  have dc := dkc_desk E
  refine s_cons (s_setP 3 pv_non ?_)
  refine s_consI (fun δ' I' => I' = c.fill (iDk K (dkA K x dx w) S) ∧ ∃ o4, δ' = [some (.adr x), some (.str n), some (.int k), some (wrtD K S.t n k), o4]) (s_tryM tk nd (.cons (namesG E.g_NoWrite) (i := 4) (.cons (namesG E.g_UnknownWork) (i := 4) .nil)) fun W' pn xe tk' po' => s_one (s_set 3 (ev_subOwn (C := cDk K) tk' E.h_Desk_getitem.f E.h_Desk_getitem.i E.fn_Desk_getitem (M_dkGet E) hr6 ((pv_v (d := .adr x) 0).ev ((pv_tup (va_cons (pv_v (d := .str n) 1) (va_cons (pv_v (d := .int k) 2) va_nil))).ev ⟨insD_ins c (dk_none (A := dkA K x dx w) (by simp)) dk_ins, dkA K x dx w, S, c, n, k, rfl, rfl, dc, o, ?_⟩))))) ?_
  · unfold wrtD
    cases hw : rowOf S.t n with
    | none =>
      refine ⟨false, E.xm_UnknownWork_NoWrite, (fun h => nomatch h), fun _ => ⟨true, E.xm_UnknownWork_UnknownWork, fun _ a dd oe pn zc hf => ?_, fun h => nomatch h⟩⟩
      refine s_one (s_setP 3 (pv_tup (va_cons pv_str (va_cons (pv_xf E.t_UnknownWork.xf E.f_UnknownWork_name zc hf (pv_v 4) rfl) va_nil))) ?_)
      exact ⟨rfl, _, rfl⟩
    | some ws =>
      cases hg : getW ws k with
      | some z => simp only [hg]; exact ⟨rfl, none, rfl⟩
      | none =>
        simp only [hg]
        refine ⟨true, E.xm_NoWrite_NoWrite, fun _ a dd oe pn zc hf => ?_, fun h => nomatch h⟩
        refine s_one (s_setP 3 (pv_tup (va_cons pv_str (va_cons (pv_xf E.t_NoWrite.xf E.f_NoWrite_number zc hf (pv_v 4) rfl) va_nil))) ?_)
        exact ⟨rfl, _, rfl⟩
  · rintro δ' I' ⟨rfl, o4, rfl⟩
    exact s_one (s_retP (pv_w (d := wrtD K S.t n k) 3 rfl) q)
theorem D_shownD (E : Env P w K mg base) : Def P w K mg base "_law_shown" 8 ["_law_d", "_law_t", "_law_w"] [] sShown := mk_f_Lshown E fun fd F => by
  refine fn_d F sc_f_Lshown (fun I ds P R h => by obtain ⟨x, dx, w, S, c, t, rfl, _⟩ := h; rfl) fun cdv Ac outer s H EE hr tk po I ds Q R h => ?_
  obtain ⟨x, dx, w, ⟨St, past, later⟩, c, t, rfl, rfl, o, rfl, q⟩ := h
  have nd := sc_f_Lshown.nd
  have hu := hr.units
  have hu1 := hr.u1
  have hr1 : Room 1 _ := hr.mono (by decide)
  have hr2 : Room 2 _ := hr.mono (by decide)
  have hr4 : Room 4 _ := hr.mono (by decide)
  have hr5 : Room 5 _ := hr.mono (by decide)
  have hr6 : Room 6 _ := hr.mono (by decide)
  have hr7 : Room 7 _ := hr
  have dc := dkc_desk E
  have o' := o.sort
  obtain ⟨fdC, FC, bC⟩ := M_dkCast E
  obtain ⟨fdW, FW, bW⟩ := M_dkWidth E
  refine s_cons (s_ifP (b := false) (PVT.is (ptw (ww_or (k := false) (l := false) (PVT.is (ptn (pt_ceqK (k := true) E hr4 (pv_propI c E.l_Desk E.p_Desk_cast FC bC hr2 (pv_v (d := .adr x) 0) (fun P pp => ⟨dkA K x dx w, sortW t, _, _, c, rfl, rfl, dc, pp⟩) (eI := dk_ins)) (pv_def (D_built E) hr6 (va_cons (pv_v (d := tD t) 1) va_nil) fun P pp => ⟨t, rfl, o, pp⟩) o'.nd (castEq_self o'.nd))) rfl) fun _ => ww_or1 (PVT.is (pt_ne hu (pv_propI c E.l_Desk E.p_Desk_width FW bW hr2 (pv_v (d := .adr x) 0) (fun P pp => ⟨dkA K x dx w, sortW t, _, _, c, rfl, rfl, dc, pp⟩) (eI := dk_ins)) (pv_v (d := .int w) 2) trivial) (by simp)))) rfl) (fun h => nomatch h) fun _ => s_nil ?_)
  refine s_cons (s_forT (xs := t) (g := fun p => D.str p.1) po (vi_dicT (pv_v (d := tD t) 1)) (fun p δ' I' => I' = c.fill (iDk K (dkA K x dx w) ⟨sortW t, past, later⟩) ∧ ∃ o3 o4, δ' = [some (.adr x), some (tD t), some (.int w), o3, o4]) ⟨rfl, none, none, rfl⟩ ?_ ?_)
  · rintro p y r δ' I' e ⟨rfl, o3, o4, rfl⟩
    have hy : y ∈ t := by rw [e]; simp
    have hrow := o.row y hy
    have hyl := hrow.m
    have hyn := o.nm y hy
    have hw : rowOf (sortW t) y.1 = some y.2 := rowOf_some o'.nd ((sortW_perm t).mem_iff.mpr hy)
    refine ⟨_, [3], bind_name 3, ?_⟩
    refine s_cons (s_forT (xs := List.range y.2.length) (g := fun i : Nat => D.int i) po (PVI.is (vi_range1 E.b_range (PV.is (z := .int (y.2.length : Nat)) (pv_len E.b_len (x := .lst (y.2.map wr4)) (pv_dget hu1 (.inl rfl) (pv_w (d := tD t) 1 rfl) (pv_w (d := .str y.1) 3 rfl) rfl (t_get o.nd hy)) trivial) (by rw [List.length_map])) (by omega) (by omega)) (by rw [Int.toNat_natCast])) (fun p' δ' I' => I' = c.fill (iDk K (dkA K x dx w) ⟨sortW t, past, later⟩) ∧ ∃ o4, δ' = [some (.adr x), some (tD t), some (.int w), some (.str y.1), o4]) ⟨rfl, o4, rfl⟩ ?_ ?_)
    · rintro p' i r' δ' I' e' ⟨rfl, o4, rfl⟩
      obtain ⟨_, hi⟩ := zip_take' e'
      have hg : getW y.2 (i : Int) = some y.2[i] := by
        unfold getW
        rw [if_pos (by omega), Int.toNat_natCast, List.getElem?_eq_getElem hi]
      refine ⟨_, [4], bind_name 4, ?_⟩
      refine s_one (s_ifP (b := false) (PVT.is (ptn (pt_weqS E y.2[i] hr1 (fun W R P pp => EvX.weak (ev_subOwn (C := cDk K) takesF E.h_Desk_getitem.f E.h_Desk_getitem.i E.fn_Desk_getitem (M_dkGet E) hr6 ((pv_w (d := .adr x) 0 rfl).ev ((pv_tup (va_cons (pv_w (d := .str y.1) 3 rfl) (va_cons (pv_w (d := .int (i : Int)) 4 rfl) va_nil))).ev ⟨insD_ins c (dk_none (A := dkA K x dx w) (by simp)) dk_ins, dkA K x dx w, ⟨sortW t, past, later⟩, c, y.1, i, rfl, rfl, dc, o', by simp only [hw, hg]; exact pp⟩)))) (pv_def (D_thing E) hr5 (va_cons (pv_ix (z := wr4 y.2[i]) ix_list (pv_dget (d := .lst (y.2.map wr4)) hu1 (.inl rfl) (pv_w (d := tD t) 1 rfl) (pv_w (d := .str y.1) 3 rfl) rfl (t_get o.nd hy)) (pv_w (d := .int (i : Int)) 4 rfl) (p2_ixL (atI_m (List.getElem?_eq_getElem hi)))) va_nil) fun P pp => ⟨some y.2[i], rfl, fun w e => by cases e; exact hrow.g _ (List.getElem_mem _), pp⟩))) rfl) (fun h => nomatch h) fun _ => s_nil ⟨rfl, _, rfl⟩)
    · rintro δ' I' ⟨rfl, o4, rfl⟩
      have e1 : ∀ z ∈ [((y.2.length : Nat) : Int), -1], wrtD K (sortW t) y.1 z = .tup [.str "number", .int z] := fun z hz => by
        unfold wrtD
        have hg : getW y.2 z = none := by
          unfold getW
          simp only [List.mem_cons, List.not_mem_nil, or_false] at hz
          rcases hz with rfl | rfl
          · rw [if_pos (by omega), Int.toNat_natCast]; exact List.getElem?_eq_none (by omega)
          · rfl
        simp only [hw, hg]
      have ok2 : okEq (.lst ([((y.2.length : Nat) : Int), -1].map fun z => .tup [.str "number", .int z])) = true := (OkD.lst (n := 2) (OkD.map fun z _ => OkD.t2 (n := 1) (OkD.str (by decide +kernel)) .int)).okEq (by decide)
      refine s_one (s_ifP (b := false) (PVT.is (pt_ne hu (x := .lst ([((y.2.length : Nat) : Int), -1].map fun z => .tup [.str "number", .int z])) (y := .lst ([((y.2.length : Nat) : Int), -1].map fun z => .tup [.str "number", .int z])) (PV.is (pv_lcTM (xs := [((y.2.length : Nat) : Int), -1]) (g := D.int) (fun z => wrtD K (sortW t) y.1 z) [("_law_k", 4)] (fun z => [some (.adr x), some (tD t), some (.int w), some (.str y.1), some (.int z)]) (PVI.is (vi_lst (pv_lst (va_cons (pv_len E.b_len (x := .lst (y.2.map wr4)) (pv_dget hu1 (.inl rfl) (pv_w (d := tD t) 1 rfl) (pv_w (d := .str y.1) 3 rfl) rfl (t_get o.nd hy)) trivial) (va_cons (pv_neg pv_int) va_nil)))) (by rw [List.length_map]; rfl)) (by show 2 ≤ 1000000; decide) (fun z s H C cl fp => bind_name 4) (fun z hz J s H C cl fp => pv_def (D_Lwrite E) hr7 (va_cons (pv_w (d := .adr x) 0 rfl) (va_cons (pv_w (d := .str y.1) 3 rfl) (va_cons (pv_w (d := .int z) 4 rfl) va_nil))) fun P pp => ⟨x, dx, w, ⟨sortW t, past, later⟩, .l c J, y.1, z, rfl, rfl, o', pp⟩)) (congrArg D.lst (List.map_congr_left e1))) (PV.is (pv_lst (va_cons (pv_tup (va_cons pv_str (va_cons (pv_len E.b_len (x := .lst (y.2.map wr4)) (pv_dget hu1 (.inl rfl) (pv_w (d := tD t) 1 rfl) (pv_w (d := .str y.1) 3 rfl) rfl (t_get o.nd hy)) trivial) va_nil))) (va_cons (pv_tup (va_cons pv_str (va_cons (pv_neg pv_int) va_nil))) va_nil))) (by rw [List.length_map]; rfl)) ⟨ok2, ok2⟩) (by simp [eqDs])) (fun h => nomatch h) fun _ => s_nil ⟨rfl, _, _, rfl⟩)
  · rintro δ' I' ⟨rfl, o3, o4, rfl⟩
    exact s_one (s_retP pv_bl q)
theorem D_turnedD (E : Env P w K mg base) : Def P w K mg base "_law_turned" 4 ["_law_d", "_law_t", "_law_past", "_law_later", "_law_back"] [] sTurned := mk_f_Lturned E fun fd F => by
  refine fn_d F sc_f_Lturned (fun I ds P R h => by obtain ⟨x, dx, w, c, t, past, later, p, q, back, rfl, _⟩ := h; rfl) fun cdv Ac outer s H EE hr tk po I ds Q R h => ?_
  obtain ⟨x, dx, w, c, t, past, later, p, q', back, rfl, rfl, hz1, hz2, q⟩ := h
  have nd := sc_f_Lturned.nd
  have hu := hr.units0
  have hr3 : Room 3 _ := hr
  have dc := dkc_desk E
  have eL : ∀ (l : List Tb), decide (l.map (tD) = []) = decide (l = []) := fun l => by cases l <;> rfl
  cases back with
  | true =>
    rw [if_pos rfl] at q
    refine s_cons (s_ifT (pt_v (pv_v (d := .bl true) 4)) ?_)
    refine s_cons (s_if (et_cmp op_ne (ev_meth0 (C := cDk K) tk ⟨fun f => E.l_Desk.get f⟩ E.h_Desk_undo.f E.h_Desk_undo.i E.h_Desk_undo.k (M_dkUndo E) hr3 ((pv_v (d := .adr x) 0).ev ⟨insD_ins (.l c _) (dk_none (A := dkA K x dx w) (by simp)) rfl, dkA K x dx w, ⟨sortW t, past.map sortW, later.map sortW⟩, _, _, .l c _, rfl, rfl, dc, (fun fs => LsI.k), (fun fs => LsI.k), by rw [List.length_map]; omega, ?_⟩))))
    rcases List.eq_nil_or_concat past with rfl | ⟨p0, u, e⟩
    · refine .inl ⟨rfl, (pv_neNil hu (pv_v (d := .adr p) 2) (LsI.m (ds := []) (.r (c.fill (iDk K (dkA K x dx w) ⟨sortW t, [], later.map sortW⟩)) (.l .here (iLst K q' (later.map tD)))))).ev (p2_ne (b := false) rfl rfl rfl (by simp) _ ⟨false, rfl, ?_⟩)⟩
      rw [if_neg Bool.false_ne_true]
      refine s_nil ?_
      refine s_cons (s_ifP (b := false) (PVT.is (pt_neNil hu (pv_v (d := .adr p) 2) (LsI.m (ds := []) (.r (c.fill (iDk K (dkA K x dx w) ⟨sortW t, [], later.map sortW⟩)) (.l .here (iLst K q' (later.map tD)))))) (by simp)) (fun h => nomatch h) fun _ => s_nil ?_)
      exact s_one (s_retP (pv_v (d := tD t) 1) (q.1 rfl))
    · have e : past = p0 ++ [u] := by simpa using e
      subst e
      refine .inr ⟨p0.map sortW, sortW u, by rw [List.map_append]; rfl, ?_⟩
      have q := q.2 p0 u rfl
      refine SX.evEq (I' := (c.fill (iDk K (dkA K x dx w) ⟨sortW u, p0.map sortW, (later ++ [t]).map sortW⟩)).and ((iLst K p ((p0 ++ [u]).map tD)).and (iLst K q' (later.map tD)))) (by rw [List.map_append (l₁ := later)]; rfl) ?_
      refine (pv_neNil hu (pv_v (d := .adr p) 2) (LsI.m (ds := (p0 ++ [u]).map tD) (.r (c.fill (iDk K (dkA K x dx w) ⟨sortW u, p0.map sortW, (later ++ [t]).map sortW⟩)) (.l .here (iLst K q' (later.map tD)))))).ev (p2_ne (b := false) rfl rfl rfl (by simp) _ ⟨false, rfl, ?_⟩)
      rw [if_neg Bool.false_ne_true]
      refine s_nil ?_
      refine s_cons (s_ifT (PVT.is (pt_neNil hu (pv_v (d := .adr p) 2) (LsI.m (ds := (p0 ++ [u]).map tD) (.r (c.fill (iDk K (dkA K x dx w) ⟨sortW u, p0.map sortW, (later ++ [t]).map sortW⟩)) (.l .here (iLst K q' (later.map tD)))))) (by simp)) ?_)
      refine s_cons (s_append (.r (c.fill (iDk K (dkA K x dx w) ⟨sortW u, p0.map sortW, (later ++ [t]).map sortW⟩)) (.r (iLst K p ((p0 ++ [u]).map tD)) .here)) (pv_v (d := .adr q') 3) rfl ((pv_v (d := tD t) 1).ev ⟨rfl, by rw [List.length_map]; omega, ?_⟩))
      refine s_one (s_ret (ev_popM (ds := p0.map tD) (d := tD u) (.r (c.fill (iDk K (dkA K x dx w) ⟨sortW u, p0.map sortW, (later ++ [t]).map sortW⟩)) (.l .here (iLst K q' (later.map tD ++ [tD t])))) (pv_v (d := .adr p) 2) (by rw [List.map_append (l₁ := p0) (f := tD)]; rfl) ?_))
      have e2 : later.map tD ++ [tD t] = (later ++ [t]).map tD := by rw [List.map_append]; rfl
      rw [e2]
      exact q
  | false =>
    rw [if_neg Bool.false_ne_true] at q
    refine s_cons (s_ifF (pt_v (pv_v (d := .bl false) 4)) (s_nil ?_))
    refine s_cons (s_if (et_cmp op_ne (ev_meth0 (C := cDk K) tk ⟨fun f => E.l_Desk.get f⟩ E.h_Desk_redo.f E.h_Desk_redo.i E.h_Desk_redo.k (M_dkRedo E) hr3 ((pv_v (d := .adr x) 0).ev ⟨insD_ins (.l c _) (dk_none (A := dkA K x dx w) (by simp)) rfl, dkA K x dx w, ⟨sortW t, past.map sortW, later.map sortW⟩, .l c _, rfl, rfl, dc, by rw [List.length_map]; omega, ?_⟩))))
    rcases List.eq_nil_or_concat later with rfl | ⟨p0, u, e⟩
    · refine .inl ⟨rfl, (pv_neNil hu (pv_v (d := .adr q') 3) (LsI.m (ds := []) (.r (c.fill (iDk K (dkA K x dx w) ⟨sortW t, past.map sortW, []⟩)) (.r (iLst K p (past.map tD)) .here)))).ev (p2_ne (b := false) rfl rfl rfl (by simp) _ ⟨false, rfl, ?_⟩)⟩
      rw [if_neg Bool.false_ne_true]
      refine s_nil ?_
      refine s_cons (s_ifP (b := false) (PVT.is (pt_neNil hu (pv_v (d := .adr q') 3) (LsI.m (ds := []) (.r (c.fill (iDk K (dkA K x dx w) ⟨sortW t, past.map sortW, []⟩)) (.r (iLst K p (past.map tD)) .here)))) (by simp)) (fun h => nomatch h) fun _ => s_nil ?_)
      exact s_one (s_retP (pv_v (d := tD t) 1) (q.1 rfl))
    · have e : later = p0 ++ [u] := by simpa using e
      subst e
      refine .inr ⟨p0.map sortW, sortW u, by rw [List.map_append]; rfl, ?_⟩
      have q := q.2 p0 u rfl
      refine SX.evEq (I' := (c.fill (iDk K (dkA K x dx w) ⟨sortW u, (past ++ [t]).map sortW, p0.map sortW⟩)).and ((iLst K p (past.map tD)).and (iLst K q' ((p0 ++ [u]).map tD)))) (by rw [List.map_append (l₁ := past)]; rfl) ?_
      refine (pv_neNil hu (pv_v (d := .adr q') 3) (LsI.m (ds := (p0 ++ [u]).map tD) (.r (c.fill (iDk K (dkA K x dx w) ⟨sortW u, (past ++ [t]).map sortW, p0.map sortW⟩)) (.r (iLst K p (past.map tD)) .here)))).ev (p2_ne (b := false) rfl rfl rfl (by simp) _ ⟨false, rfl, ?_⟩)
      rw [if_neg Bool.false_ne_true]
      refine s_nil ?_
      refine s_cons (s_ifT (PVT.is (pt_neNil hu (pv_v (d := .adr q') 3) (LsI.m (ds := (p0 ++ [u]).map tD) (.r (c.fill (iDk K (dkA K x dx w) ⟨sortW u, (past ++ [t]).map sortW, p0.map sortW⟩)) (.r (iLst K p (past.map tD)) .here)))) (by simp)) ?_)
      refine s_cons (s_append (.r (c.fill (iDk K (dkA K x dx w) ⟨sortW u, (past ++ [t]).map sortW, p0.map sortW⟩)) (.l .here (iLst K q' ((p0 ++ [u]).map tD)))) (pv_v (d := .adr p) 2) rfl ((pv_v (d := tD t) 1).ev ⟨rfl, by rw [List.length_map]; omega, ?_⟩))
      refine s_one (s_ret (ev_popM (ds := p0.map tD) (d := tD u) (.r (c.fill (iDk K (dkA K x dx w) ⟨sortW u, (past ++ [t]).map sortW, p0.map sortW⟩)) (.r (iLst K p (past.map tD ++ [tD t])) .here)) (pv_v (d := .adr q') 3) (by rw [List.map_append (l₁ := p0) (f := tD)]; rfl) ?_))
      have e2 : past.map tD ++ [tD t] = (past ++ [t]).map tD := by rw [List.map_append]; rfl
      rw [e2]
      exact q
end
end LK
set_option Elab.async false
set_option linter.all false
set_option maxRecDepth 100000
set_option maxHeartbeats 4000000
namespace L2
open PySem PySem.Spec PyProof.Rows NdefX LamX
def LaO (f : Addr) (F : NF) (be : Expr) : HO := .ext fun h => ∃ (od : Option Addr) (sl : Array (Option Value)) (pm ctv : Value), h.get? f = some (⟨.type "function", od, .func (PySem.W.kla_fn F.name F.qual F.params be F.scope F.cl pm (.ref F.c) ctv), sl⟩ : Obj)
section
variable {X : Cx} {pins : List (Addr × Obj)} {z : L2.St} {H : Hp} {s : Shared}
end
structure LOk (P : Program) (w : World) (K : PySem.W.Frag) (mg : Str → Option Value) (base : Heap) (CX : CXT) (k : Nat) (f : Addr) (F : NF) (be : Expr) (ps : List Str) (sp : Sp) : Prop where
  len : ∀ vs H Q E, sp vs H Q E → vs.length = ps.length
  run : ∀ (A : Around) (outer : List Env) (s : Shared) (H : Hp) (us : List Value) (vs : List V) (Q : VK) (E : XK), Room k A → Env0 P w K mg base A outer s H → H f = some (LaO f F be) → H F.c = some (CodeO F.c F.qual) →
    Vals vs us → sp vs H Q E → codeAny (model P w) A (.call (.ref f) ⟨us, []⟩) (CR CX outer P w H s Q E) s
section
variable {CX : CXT} {P : Program} {w : World} {K : PySem.W.Frag} {mg : Str → Option Value} {base : Heap} {N ps : List Str} {F : NF} {be : Expr} {f : Addr} {k j : Nat} {sp : Sp}
end
section
variable {X : Cx} {F : NF} {be : Expr} {ps fr : List Str} {i j k : Nat} {x : Str} {cs : CLs} {as : List Addr} {sp : Sp} {spn : List (Option V) → Sp} {t : TEw} {e : Expr} {p pos : Pos}
end
end L2
set_option Elab.async false
set_option linter.all false
set_option maxRecDepth 100000
set_option maxHeartbeats 4000000
namespace DL
open PySem PySem.Spec PyProof.Rows L2 NdefX LamX
structure wpN (X : Cx) (e : Expr) (σ : L2.St) (H : Hp) (Q : V → L2.St → Hp → Prop) : Prop where
  run : ∀ (pins : List (Addr × Obj)) (s : Shared), Inv X pins σ H s → wpAny (model X.prog X.w) X.A (eval e X.env) (EPw X pins Q) X.xe s
section
variable {X : Cx} {e : Expr} {t : TEw} {σ : L2.St} {H : Hp}
end
def KvN (K : PySem.W.Frag) (Q : V → L2.St → Hp → Prop) (G : Hp) (P : D → DEnv → Iv K → Prop) : Prop := ∀ (v : V) (d : D) (δ : DEnv) (σ : L2.St) (G' H' : Hp) (I' : Iv K), Same G G' → Same G' H' → Hd I' G' H' → EnvR K G' δ σ → Rep K G' d v → P d δ I' → Q v σ H'
theorem KvN.mono {K : PySem.W.Frag} {Q : V → L2.St → Hp → Prop} {G G1 : Hp} {P : D → DEnv → Iv K → Prop} (s : Same G G1) (h : KvN K Q G P) : KvN K Q G1 P := fun v d δ σ G' H' I' s1 => h v d δ σ G' H' I' (s.trans s1)
structure LaI {K : PySem.W.Frag} (I : Iv K) (f : Addr) (F : NF) (be : Expr) : Prop where
  h : ∀ G H, Same G H → Hd I G H → H f = some (LaO f F be) ∧ H F.c = some (CodeO F.c F.qual)
def iLaO (K : PySem.W.Frag) (f : Addr) (F : NF) (be : Expr) : Iv K := iObj K f (fun G o => o = LaO f F be ∧ G F.c = some (CodeO F.c F.qual)) fun _ _ _ s ⟨h1, h2⟩ => ⟨h1, s _ _ h2⟩
theorem LaI.m {K : PySem.W.Frag} {f : Addr} {F : NF} {be : Expr} (c : Rc K) : LaI (c.fill (iLaO K f F be)) f F be := ⟨fun G H s h => by
  obtain ⟨o, ho, e, g⟩ := h.inner.ph
  subst e
  exact ⟨ho, s _ _ g⟩⟩
theorem LaI.andL {K : PySem.W.Frag} {I J : Iv K} {f : Addr} {F : NF} {be : Expr} (h : LaI I f F be) : LaI (I.and J) f F be := ⟨fun G H s hd => h.h G H s hd.left⟩
theorem LaI.andR {K : PySem.W.Frag} {I J : Iv K} {f : Addr} {F : NF} {be : Expr} (h : LaI J f F be) : LaI (I.and J) f F be := ⟨fun G H s hd => h.h G H s hd.right⟩
section
variable {X : Cx} {W : WX} {R : Rx X.K} {P : D → DEnv → Iv X.K → Prop} {δ : DEnv} {I : Iv X.K} {F : NF} {be : Expr} {f : Addr} {ps fr : List Str} {i k : Nat} {x x' : Str} {S : Spec X.K} {e : Expr} {p pos : Pos}
end
section
variable {X : Cx} {W : WX} {R : Rx X.K} {P : D → Iv X.K → Prop} {κ : Ko X.K} {δ : DEnv} {I : Iv X.K} {c : Expr} {sts els : List Stmt} {pos : Pos}
end
section
variable {P : Program} {w : World} {K : PySem.W.Frag} {mg : Str → Option Value} {base : Heap}
end
end DL
set_option Elab.async false
set_option linter.all false
set_option maxRecDepth 100000
set_option maxHeartbeats 4000000
namespace DL
open PySem PySem.Spec PyProof.Rows L2 NdefX LamX
def iTabs (K : PySem.W.Frag) : List (Addr × Str) → Iv K
  | [] => iEmp K
  | [p] => iTab K p.1 p.2
  | p :: q :: r => (iTab K p.1 p.2).and (iTabs K (q :: r))
section
variable {K : PySem.W.Frag} {G H : Hp}
theorem Hd.tab1 {P : Addr} {q : Str} (h : H P = some (.tbl #[])) (g : G P = none) : Hd (iTab K P q) G H := ⟨⟨_, h, #[], rfl, TabA.nil⟩, fun x hx => by rw [show x = P from hx]; exact g⟩
theorem tabs_F : ∀ (L : List (Addr × Str)) (x : Addr), (iTabs K L).F x → x ∈ L.map (·.1)
  | [], _, h => h.elim
  | [p], x, h => by rw [show x = p.1 from h]; simp
  | p :: q :: r, x, h => h.elim (fun h => by rw [show x = p.1 from h]; simp) fun h => List.mem_cons_of_mem _ (tabs_F (q :: r) x h)
theorem hd_tabs : ∀ (L : List (Addr × Str)), (L.map (·.1)).Nodup → (∀ x ∈ L.map (·.1), H x = some (.tbl #[])) → (∀ x ∈ L.map (·.1), G x = none) → Hd (iTabs K L) G H
  | [], _, _, _ => .emp
  | [p], _, h, g => .tab1 (h _ (by simp)) (g _ (by simp))
  | p :: q :: r, nd, h, g => by
    have nd' := List.nodup_cons.mp nd
    exact Hd.mk2 (.tab1 (h _ (by simp)) (g _ (by simp))) (hd_tabs (q :: r) nd'.2 (fun x hx => h x (List.mem_cons_of_mem _ hx)) fun x hx => g x (List.mem_cons_of_mem _ hx)) fun a ⟨h1, h2⟩ => nd'.1 (show p.1 ∈ (q :: r).map (·.1) from (show a = p.1 from h1) ▸ tabs_F (q :: r) a h2)
theorem sp_tabs {S : Spec K} {I0 : Iv K} {a : Addr} {ns : List Int} (as : List Addr) (hI : ∀ G, (∀ x ∈ as, G x = none) → Hd I0 G H) (h0 : ∀ x ∈ as, H x = some (.tbl #[])) (hS : SqL K H a (ns.map V.int)) (h : S I0 [.lsf (ns.map D.int)] (fun d _ => d = .bl true) (fun _ _ _ => False)) : spD K S [.ref a] H (fun v _ => v = .bl true) (fun _ _ _ => False) := by
  have sG : Same (fun x => if x ∈ as then none else H x) H := fun x o h => by
    have h : (if x ∈ as then none else H x) = some o := h
    split at h
    · cases h
    · exact h
  have off : ∀ {x : Addr} {o : HO}, H x = some o → (o ≠ .tbl #[]) → x ∉ as := fun {x o} e n hx => n (Option.some.inj (e.symm.trans (h0 x hx)))
  have hS2 : SqL K (fun x => if x ∈ as then none else H x) a (ns.map V.int) := by
    rcases hS with h | h
    · refine .inl ?_
      rcases h with h | ⟨o, h⟩
      · refine .inl ?_
        show (if a ∈ as then none else H a) = some (HO.lst (ns.map V.int))
        rw [if_neg (off h fun z => nomatch z)]
        exact h
      · refine .inr ⟨o, ?_⟩
        show (if a ∈ as then none else H a) = some (HO.frz o (.lst (ns.map V.int)))
        rw [if_neg (off h fun z => nomatch z)]
        exact h
    · exact .inr h
  refine ⟨I0, fun x => if x ∈ as then none else H x, [.lsf (ns.map D.int)], fun d _ => d = .bl true, fun _ _ _ => False, sG, hI _ fun x hx => ?_, ⟨.ref a, [], rfl, ⟨a, _, rfl, hS2, repsInt ns⟩, rfl⟩, h, fun v d _ _ _ _ _ _ r e => by subst e; exact r, fun _ _ _ _ _ _ _ _ _ _ _ _ z => z⟩
  show (if x ∈ as then none else H x) = none
  rw [if_pos hx]
end
section
variable {P : Program} {w : World} {K : PySem.W.Frag} {mg : Str → Option Value} {base : Heap} {x qual : Str} {params : Arguments} {body : List Stmt} {scope : Scope} {dvs : List V} {kws : List (Str × V)} {f : Addr} {fd : FuncData}
end
end DL
set_option Elab.async false
set_option linter.all false
set_option maxRecDepth 100000
set_option maxHeartbeats 1000000
namespace LK
open PySem PySem.Spec PyProof.Rows L2 DL LamX
abbrev tab_tallied (K : PySem.W.Frag) : Addr := (He.cT K ("tallied", none)).2
abbrev q_tallied : Str := "tallied.<locals>.tell"
abbrev iT_tallied (K : PySem.W.Frag) : Iv K := iTab K (tab_tallied K) q_tallied
abbrev tab_first_garbled (K : PySem.W.Frag) : Addr := (He.cT K ("first_garbled", none)).2
abbrev q_first_garbled : Str := "first_garbled.<locals>.<lambda>"
abbrev iT_first_garbled (K : PySem.W.Frag) : Iv K := iTab K (tab_first_garbled K) q_first_garbled
abbrev tab_Desk_watch (K : PySem.W.Frag) : Addr := (He.cT K ("Desk", some "watch")).2
abbrev q_Desk_watch : Str := "Desk.watch.<locals>.end"
abbrev iT_Desk_watch (K : PySem.W.Frag) : Iv K := iTab K (tab_Desk_watch K) q_Desk_watch
abbrev iTA (K : PySem.W.Frag) : Iv K := (iT_tallied K).and ((iT_first_garbled K).and (iT_Desk_watch K))
theorem hd_TA {K : PySem.W.Frag} {G H : Hp} (hn : (tfL.map fun p => (He.cT K p).2).Nodup) (h0 : ∀ x ∈ tfL.map (fun p => (He.cT K p).2), H x = some (.tbl #[])) (g : ∀ x ∈ tfL.map (fun p => (He.cT K p).2), G x = none) : Hd (iTA K) G H := hd_tabs [(tab_tallied K, q_tallied), (tab_first_garbled K, q_first_garbled), (tab_Desk_watch K, q_Desk_watch)] hn h0 g
def sLawT {K : PySem.W.Frag} : Spec K := fun I ds P R => ∃ ns : List Int, ds = [.lsf (ns.map D.int)] ∧ ns.length ≤ 63 ∧ I = iTA K ∧ ∀ I', P (.bl true) I'
theorem sp_lawT {K : PySem.W.Frag} {H : Hp} {a : Addr} {ns : List Int} (hk : lkL K = true) (hT : ∀ p ∈ tfL.map (He.cT K), H p.2 = some (.tbl #[])) (hl : ns.length ≤ 63) (hS : SqL K H a (ns.map V.int)) : spD K sLawT [.ref a] H (fun v _ => v = .bl true) (fun _ _ _ => False) := by
  have h0 : ∀ x ∈ tfL.map (fun p => (He.cT K p).2), H x = some (.tbl #[]) := fun x hx => by
    obtain ⟨p, hp, rfl⟩ := List.mem_map.mp hx
    exact hT _ (List.mem_map_of_mem hp)
  exact sp_tabs (tfL.map fun p => (He.cT K p).2) (fun G g => hd_TA (tnd_of hk) h0 g) h0 hS ⟨ns, rfl, hl, rfl, fun _ => rfl⟩
end LK
set_option Elab.async false
set_option linter.all false
set_option maxRecDepth 100000
set_option maxHeartbeats 4000000
set_option pp.maxSteps 300
namespace LK
open PySem PySem.Spec PyProof.Rows L2 DL LamX
structure TbN (t : Tb) : Prop where
  o : TbOk t
  z : ∀ p ∈ t, p.1 ≠ "none"
theorem tD_O (t : Tb) : tOD (oT t) = tD t := by
  show dicD _ = dicD _
  rw [entM_O]
abbrev iW (K : PySem.W.Frag) (a b x dx : Addr) (w : Nat) (t : Tb) (past later : List Tb) (p q : Addr) : Iv K := iLw K (.r ((iTA K).and (iDr K a b)) .here) x dx w t past later p q
theorem wk_later {K : PySem.W.Frag} {J L M N : Iv K} : Wk ((J.and (L.and M)).and N) (J.and (L.and N)) :=
  (Wk.and (Wk.andR Wk.dropR) .refl).trans Wk.assoc
theorem SX.dEq {X : Cx} {W : WX} {sts : List Stmt} {δ δ' : DEnv} {I : Iv X.K} {κ : Ko X.K} (h : δ = δ') (k : SX X W sts δ' I κ) : SX X W sts δ I κ := h ▸ k
section
variable {P : Program} {w : World} {K : PySem.W.Frag} {mg : Str → Option Value} {base : Heap}
abbrev LVL : Nat := 10
theorem ok_law (E : Env P w K mg base) (fd : FuncData) (F : FunD K "law" "law" (defArgs f_law) (defBody f_law) (defScope f_law) [] [] (He.ga K "law") fd) : FnOk P w K mg base (L2.CX P w) LVL (He.ga K "law") fd ["_law_script"] (spD K sLawT) := by
  refine fn_d F sc_f_law (fun I ds P R h => by obtain ⟨ns, rfl, _⟩ := h; rfl) fun cdv A outer s H EE hr tk po I ds Q R h => ?_
  obtain ⟨ns, rfl, hl, rfl, q⟩ := h
  have nd := sc_f_law.nd
  have hu := hr.units
  have hu1 := hr.u1
  have hr1 : Room 1 _ := hr.mono (by decide)
  have hr2 : Room 2 _ := hr.mono (by decide)
  have hr4 : Room 4 _ := hr.mono (by decide)
  have hr5 : Room 5 _ := hr.mono (by decide)
  have hr6 : Room 6 _ := hr.mono (by decide)
  have hr7 : Room 7 _ := hr.mono (by decide)
  have hr8 : Room 8 _ := hr.mono (by decide)
  have hr9 : Room 9 _ := hr
  have dc := dkc_desk E
  obtain ⟨fdI, FI, bI⟩ := M_dkInit E
  refine s_cons (s_set 1 (ev_def tk (D_mix E) hr1 (ea_cons ((pv_v 0).ev (ea_cons (pv_int.ev (ea_nil ⟨ns, 37, rfl, hl, fun a b => ?_⟩)))))))
  refine s_cons (s_set 2 (ev_freezeD (ev_def tk (D_table E) hr5 (ea_cons ((pv_v 1).ev (ea_cons (pv_int.ev (ea_cons (pv_int.ev (ea_cons (pv_int.ev (ea_nil ⟨a, b, .r (iTA K) .here, 4, 8, 3, rfl, rfl, by decide, by decide, by decide, by decide, by decide, by decide, fun t g p => ⟨p, _, _, rfl, rfl, ?_⟩⟩))))))))))))
  have o := g.ok (by decide)
  have tn : TbN t := ⟨o, fun p hp => by
    have h9 : ∀ y ∈ nm6, y ≠ "none" := by decide +kernel
    exact h9 _ (g.sub.subset (List.mem_map_of_mem hp))⟩
  refine s_cons (s_set 3 (ev_def tk (D_widthW E) hr2 (ea_cons ((pv_v 1).ev (ea_nil ⟨a, b, .r (iTA K) .here, rfl, rfl, fun w w1 w99 => ?_⟩)))))
  refine s_cons (s_set 4 (ev_makeI tk E.m_Desk FI hr4 E.g_Desk bI (ea_cons (PV.ev (d := cD K (sortW t)) (pv_def (D_built E) hr6 (va_cons (pv_w (d := tD t) 2 rfl) va_nil) fun P pp => ⟨t, rfl, o, pp⟩) (ea_cons ((pv_w (d := .int w) 3 rfl).ev (ea_nil fun x dx _ => ⟨x, dx, cDk K, (iTA K).and (iDr K a b), sortW t, w, rfl, rfl, dc, w1, w99, fun lp lq => ⟨rfl, ?_⟩⟩)))))))
  refine fz_home.sx ?_
  refine s_cons (s_set 5 (ev_lstM' va_nil (by simp) fun pp => ?_))
  refine s_cons (s_set 6 (ev_lstM' va_nil (by simp) fun pq => ?_))
  refine SX.k ?_
  refine SX.wk Wk.assoc ?_
  refine SX.eq (I' := iW K a b x dx w t [] [] pp pq) rfl ?_
  refine s_cons (s_forE po (ei_range1 E.b_range (ev_nextP tk (D_next E) hr1 (.l (.l (.r (iTA K) .here) (iDk K (dkA K x dx w) ⟨sortW t, [], []⟩)) ((iLst K pp []).and (iLst K pq []))) (pv_w (d := .adr a) 1 rfl) pv_int rfl (by decide) fun k k0 k1 => ⟨k, rfl, by omega, by omega, Nat, List.range k.toNat, (fun i => D.int (0 + (i : Nat))), (fun p δ' I' => ∃ (t : Tb) (past later : List Tb) (pq : Addr) (o7 o8 o9 o10 o11 o12 : Option D), TbN t ∧ (∀ u ∈ past, TbN u) ∧ (∀ u ∈ later, TbN u) ∧ past.length + later.length ≤ p.length ∧ I' = iW K a b x dx w t past later pp pq ∧ δ' = [some (.lsf (ns.map D.int)), some (.adr a), some (tD t), some (.int w), some (.adr x), some (.adr pp), some (.adr pq), o7, o8, o9, o10, o11, o12]), rfl, ?_, ?_, ?_⟩)))
  · exact ⟨t, [], [], pq, none, none, none, none, none, none, tn, (fun u hu => nomatch hu), (fun u hu => nomatch hu), by simp, rfl, rfl⟩
  · rintro p i r δ' I' e ⟨t, past, later, pq, o7, o8, o9, o10, o11, o12, tn, hP, hL, hlen, rfl, rfl⟩
    have hpl : p.length ≤ 15 := by
      have := congrArg List.length e
      rw [List.length_range, List.length_append, List.length_cons] at this
      omega
    have o := tn.o
    refine ⟨_, [7], bind_name 7, ?_⟩
    refine s_cons (s_set 8 (ev_nextP tk (D_next E) hr1 (.l (.l (.r (iTA K) .here) (iDk K (dkA K x dx w) ⟨sortW t, past.map sortW, later.map sortW⟩)) ((iLst K pp (past.map tD)).and (iLst K pq (later.map tD)))) (pv_w (d := .adr a) 1 rfl) pv_int rfl (by decide) fun z z0 z1 => ?_))
    refine s_consI (fun δ' I' => ∃ (t : Tb) (past later : List Tb) (pq : Addr) (o7 o8 o9 o10 o11 o12 : Option D), TbN t ∧ (∀ u ∈ past, TbN u) ∧ (∀ u ∈ later, TbN u) ∧ past.length + later.length ≤ p.length + 1 ∧ I' = iW K a b x dx w t past later pp pq ∧ δ' = [some (.lsf (ns.map D.int)), some (.adr a), some (tD t), some (.int w), some (.adr x), some (.adr pp), some (.adr pq), o7, o8, o9, o10, o11, o12]) (s_ifP (DL.pt_cmp op_lt (pv_w (d := .int z) 8 rfl) pv_int p2_lt) (fun hz => ?_) fun hz => ?_) ?_
    · refine s_cons (s_set 2 (ev_def tk (D_turnedD E) hr4 (ea_cons ((pv_w (d := .adr x) 4 rfl).ev (ea_cons ((pv_w (d := tD t) 2 rfl).ev (ea_cons ((pv_w (d := .adr pp) 5 rfl).ev (ea_cons ((pv_w (d := .adr pq) 6 rfl).ev (ea_cons (PV.ev (d := .bl (decide (z = 0))) (pv_eq hu (pv_w (d := .int z) 8 rfl) pv_int trivial) (ea_nil ⟨x, dx, w, .r ((iTA K).and (iDr K a b)) .here, t, past, later, pp, pq, decide (z = 0), rfl, rfl, by omega, by omega, ?_⟩)))))))))))))
      by_cases hk : z = 0
      · rw [if_pos (decide_eq_true hk)]
        refine ⟨fun e => ?_, fun p0 u e => ?_⟩
        · refine s_one (s_ifP (b := false) (PVT.is (pt_isN (pv_w (d := tD t) 2 rfl)) rfl) (fun h => nomatch h) fun _ => s_nil ?_)
          exact ⟨t, past, later, pq, _, _, _, _, _, _, tn, hP, hL, by omega, rfl, rfl⟩
        · subst e
          rw [List.length_append, List.length_singleton] at hlen
          refine s_one (s_ifP (b := false) (PVT.is (pt_isN (pv_w (d := tD u) 2 rfl)) rfl) (fun h => nomatch h) fun _ => s_nil ?_)
          exact ⟨u, p0, later ++ [t], pq, _, _, _, _, _, _, hP u (by simp), fun v hv => hP v (by simp [hv]), fun v hv => (List.mem_append.mp hv).elim (hL v) fun h => (List.mem_singleton.mp h) ▸ tn, by rw [List.length_append, List.length_singleton]; omega, rfl, rfl⟩
      · rw [if_neg (by simpa using hk)]
        refine ⟨fun e => ?_, fun p0 u e => ?_⟩
        · refine s_one (s_ifP (b := false) (PVT.is (pt_isN (pv_w (d := tD t) 2 rfl)) rfl) (fun h => nomatch h) fun _ => s_nil ?_)
          exact ⟨t, past, later, pq, _, _, _, _, _, _, tn, hP, hL, by omega, rfl, rfl⟩
        · subst e
          rw [List.length_append, List.length_singleton] at hlen
          refine s_one (s_ifP (b := false) (PVT.is (pt_isN (pv_w (d := tD u) 2 rfl)) rfl) (fun h => nomatch h) fun _ => s_nil ?_)
          exact ⟨u, past ++ [t], p0, pq, _, _, _, _, _, _, hL u (by simp), fun v hv => (List.mem_append.mp hv).elim (hP v) fun h => (List.mem_singleton.mp h) ▸ tn, fun v hv => hL v (by simp [hv]), by rw [List.length_append, List.length_singleton]; omega, rfl, rfl⟩
    · refine s_cons (s_set 9 (ev_def tk (D_edit E) hr5 (ea_cons ((pv_w (d := .adr a) 1 rfl).ev (ea_cons ((pv_w (d := tD t) 2 rfl).ev (ea_nil ⟨a, b, .l (.l (.r (iTA K) .here) (iDk K (dkA K x dx w) ⟨sortW t, past.map sortW, later.map sortW⟩)) ((iLst K pp (past.map tD)).and (iLst K pq (later.map tD))), t, rfl, rfl, o, tn.z, fun ed hok => ?_⟩)))))))
      refine s_cons (s_setP (d := resD (editR t ed)) 10 (pv_def (D_edited E) hr2 (va_cons (pv_w (d := tD t) 2 rfl) (va_cons (pv_w (d := edD ed) 9 rfl) va_nil)) fun P pp => ⟨t, ed, rfl, o, hok, pp⟩) ?_)
      rcases editR_sort o tn.z hok with ⟨er, e1, e2, hok2⟩ | ⟨u, e1, ou, zu, v, e2, ev⟩
      · rw [e1]
        have hty : tyD (erD er) = some "tuple" := by cases er <;> rfl
        refine SX.dEq (δ' := [some (.lsf (ns.map D.int)), some (.adr a), some (tD t), some (.int w), some (.adr x), some (.adr pp), some (.adr pq), some (.int (0 + (i : Nat))), some (.int z), some (edD ed), some (erD er), o11, o12]) rfl ?_
        refine s_cons (s_ifP (b := false) (ptw (ww_andF (pt_v (pv_cb call_isi E.b_isinstance (va_cons (pv_w (d := erD er) 10 rfl) (va_cons (pv_gty (n := "dict") E.b_dict) va_nil)) (pn_isi (t := "tuple") (b := false) hty))))) (fun h => nomatch h) fun _ => s_nil ?_)
        refine s_cons (s_set 11 (ev_def tk (D_change E) hr9 (ea_cons ((pv_w (d := .adr x) 4 rfl).ev (ea_cons ((pv_w (d := edD ed) 9 rfl).ev (ea_nil ⟨dkA K x dx w, ⟨sortW t, past.map sortW, later.map sortW⟩, .l (.r ((iTA K).and (iDr K a b)) .here) ((iLst K pp (past.map tD)).and (iLst K pq (later.map tD))), ed, rfl, rfl, dc, dkd_desk E, o.sort, by rw [List.length_map]; omega, hok, ?_⟩)))))))
        simp only [e2]
        refine s_cons (s_ifP (b := false) (PVT.is (pt_ne hu (x := erD er) (y := erD er) (pv_w (d := erD er) 11 rfl) (pv_if (k := true) (pt_v (pv_cb call_isi E.b_isinstance (va_cons (pv_w (d := erD er) 10 rfl) (va_cons (pv_gty (n := "tuple") E.b_tuple) va_nil)) (pn_isi (t := "tuple") (b := true) hty))) (fun _ => pv_w (d := erD er) 10 rfl) fun h => nomatch h) ⟨hok2, hok2⟩ (E := EqC.data)) (by cases er <;> simp [erD, eqDs] <;> (rename_i o; cases o <;> simp [nD]))) (fun h => nomatch h) fun _ => s_nil ?_)
        refine s_one (s_ifP (b := false) (pt_v (pv_cb call_isi E.b_isinstance (va_cons (pv_w (d := erD er) 10 rfl) (va_cons (pv_gty (n := "dict") E.b_dict) va_nil)) (pn_isi (t := "tuple") (b := false) hty))) (fun h => nomatch h) fun _ => s_nil ?_)
        exact ⟨t, past, later, pq, _, _, _, _, _, _, tn, hP, hL, by omega, rfl, rfl⟩
      · rw [e1]
        have hm6 := ou.m
        refine SX.dEq (δ' := [some (.lsf (ns.map D.int)), some (.adr a), some (tD t), some (.int w), some (.adr x), some (.adr pp), some (.adr pq), some (.int (0 + (i : Nat))), some (.int z), some (edD ed), some (tD u), o11, o12]) (by rw [show resD (.inr (oT u)) = tD u from tD_O u]; rfl) ?_
        refine SX.k ?_
        refine s_cons (s_ifP (b := decide ((14 : Int) < (u.map fun p => (p.2.length : Int)).sum)) (PVT.is (ptw (ww_and (k := true) (l := decide ((14 : Int) < (u.map fun p => (p.2.length : Int)).sum)) (pt_v (pv_cb call_isi E.b_isinstance (va_cons (pv_w (d := tD u) 10 rfl) (va_cons (pv_gty (n := "dict") E.b_dict) va_nil)) (pn_isi (t := "dict") (b := true) rfl))) fun _ => ww_and1 (DL.pt_cmp op_gt ?_ pv_int p2_gt))) (by simp)) (fun hb => ?_) fun hb => s_nil ?_)
        · exact pv_cb (cr_sum rfl) E.b_sum (va_cons (PV.is (pv_lcTM (xs := u) (g := fun p => D.str p.1) (fun p => .int p.2.length) [("_law_name", 12)] (fun p => [some (.lsf (ns.map D.int)), some (.adr a), some (tD t), some (.int w), some (.adr x), some (.adr pp), some (.adr pq), some (.int (0 + (i : Nat))), some (.int z), some (edD ed), some (tD u), o11, some (.str p.1)]) (vi_dicT (pv_w (d := tD u) 10 rfl)) (by omega) (fun p s H C cl fp => bind_name 12) fun p hp J s H C cl fp => PV.is (pv_len E.b_len (pv_dget hu1 (.inl rfl) (pv_w (d := tD u) 10 rfl) (pv_w (d := .str p.1) 12 rfl) rfl (t_get ou.nd hp)) trivial) (by rw [List.length_map])) (z := .lst ((u.map fun p => (p.2.length : Int)).map D.int)) (by rw [List.map_map]; rfl)) va_nil) pn_sum
        · refine s_one (s_continue ?_)
          exact ⟨_, Wk.refl, t, past, later, pq, _, _, _, _, _, _, tn, hP, hL, by rw [List.length_append, List.length_singleton]; omega, rfl, rfl⟩
        refine s_cons (s_set 11 (ev_def tk (D_change E) hr9 (ea_cons ((pv_w (d := .adr x) 4 rfl).ev (ea_cons ((pv_w (d := edD ed) 9 rfl).ev (ea_nil ⟨dkA K x dx w, ⟨sortW t, past.map sortW, later.map sortW⟩, .l (.r ((iTA K).and (iDr K a b)) .here) ((iLst K pp (past.map tD)).and (iLst K pq (later.map tD))), ed, rfl, rfl, dc, dkd_desk E, o.sort, by rw [List.length_map]; omega, hok, ?_⟩)))))))
        simp only [e2, ev]
        refine SX.eq (I' := (((iTA K).and (iDr K a b)).and (iDk K (dkA K x dx w) ⟨sortW u, (past ++ [t]).map sortW, []⟩)).and ((iLst K pp (past.map tD)).and (iLst K pq (later.map tD)))) (by rw [List.map_append]; rfl) ?_
        refine s_cons (s_ifP (b := false) (DL.pt_cmp op_ne (pv_w (d := .non) 11 rfl) (pv_if (k := false) (pt_v (pv_cb call_isi E.b_isinstance (va_cons (pv_w (d := tD u) 10 rfl) (va_cons (pv_gty (n := "tuple") E.b_tuple) va_nil)) (pn_isi (t := "dict") (b := false) rfl))) (fun h => nomatch h) fun _ => pv_non) (p2_ne (v := .non) (u := .non) rfl rfl rfl (by simp))) (fun h => nomatch h) fun _ => s_nil ?_)
        refine s_one (s_ifT (pt_v (pv_cb call_isi E.b_isinstance (va_cons (pv_w (d := tD u) 10 rfl) (va_cons (pv_gty (n := "dict") E.b_dict) va_nil)) (pn_isi (t := "dict") (b := true) rfl))) ?_)
        refine s_cons (s_append (.r (((iTA K).and (iDr K a b)).and (iDk K (dkA K x dx w) ⟨sortW u, (past ++ [t]).map sortW, []⟩)) (.l .here (iLst K pq (later.map tD)))) (pv_w (d := .adr pp) 5 rfl) rfl ((pv_w (d := tD t) 2 rfl).ev ⟨rfl, by rw [List.length_map]; omega, ?_⟩))
        rw [show past.map tD ++ [tD t] = (past ++ [t]).map tD by rw [List.map_append]; rfl]
        refine s_cons (s_set 6 (ev_lstM' va_nil (by simp) fun pq' => ?_))
        refine s_one (s_setP (d := tD u) 2 (pv_w (d := tD u) 10 rfl) ?_)
        exact ⟨_, wk_later, u, past ++ [t], [], pq', _, _, _, _, _, _, ⟨ou, zu⟩, fun v hv => (List.mem_append.mp hv).elim (hP v) fun h => (List.mem_singleton.mp h) ▸ tn, (fun v hv => nomatch hv), by rw [List.length_append, List.length_singleton]; show _ + 0 ≤ _; omega, rfl, rfl⟩
    · rintro δ' I' ⟨t, past, later, pq, o7, o8, o9, o10, o11, o12, tn, hP, hL, hlen, rfl, rfl⟩
      refine s_one (s_ifP (b := false) (PVT.is (ptn (pt_v (k := true) (pv_def (D_shownD E) hr8 (va_cons (pv_w (d := .adr x) 4 rfl) (va_cons (pv_w (d := tD t) 2 rfl) (va_cons (pv_w (d := .int w) 3 rfl) va_nil))) fun P pp => ⟨x, dx, w, ⟨sortW t, past.map sortW, later.map sortW⟩, .l (.r ((iTA K).and (iDr K a b)) .here) _, t, rfl, rfl, tn.o, rfl, pp⟩))) rfl) (fun h => nomatch h) fun _ => s_nil ?_)
      exact ⟨t, past, later, pq, _, _, _, _, _, _, tn, hP, hL, by rw [List.length_append, List.length_singleton]; omega, rfl, rfl⟩
  · rintro δ' I' ⟨t, past, later, pq, o7, o8, o9, o10, o11, o12, tn, hP, hL, hlen, rfl, rfl⟩
    have hno : wrtD K (sortW t) "none" 0 = .tup [.str "unknown", .str "none"] := by
      have : rowOf (sortW t) "none" = none := rowOf_none.mpr fun hm => by
        obtain ⟨y, hy, e⟩ := List.mem_map.mp hm
        exact tn.z y ((sortW_perm t).mem_iff.mp hy) e
      unfold wrtD
      rw [this]
    have ok2 : okEq (.tup [.str "unknown", .str "none"]) = true := er_two (by decide +kernel) (by decide +kernel)
    refine s_one (s_retP (PV.is (pv_eq hu (x := .tup [.str "unknown", .str "none"]) (y := .tup [.str "unknown", .str "none"]) (PV.is (pv_def (D_Lwrite E) hr7 (va_cons (pv_w (d := .adr x) 4 rfl) (va_cons (d := .str "none") pv_str (va_cons (d := .int 0) pv_int va_nil))) fun P pp => ⟨x, dx, w, ⟨sortW t, past.map sortW, later.map sortW⟩, .l (.r ((iTA K).and (iDr K a b)) .here) _, "none", 0, rfl, rfl, tn.o.sort, pp⟩) hno) (pv_tup (va_cons pv_str (va_cons pv_str va_nil))) ⟨ok2, ok2⟩) (z := .bl true) (by simp [eqDs])) ⟨_, Wk.refl, q _⟩)
end
end LK
set_option Elab.async false
set_option linter.all false
set_option maxRecDepth 100000
set_option maxHeartbeats 0
namespace LK
open PySem PySem.Spec PyProof.Rows L2 DL
theorem facts {P : Program} {w : World} {K : PySem.W.Frag} {h : Heap} {mg : Str → Option Value} {f : Addr} (X : K.In h) (G : h.Ns mainGlobals mg) (hfa : mg ("law" : Str) = some (.ref f)) (c0 : SaysS fn gs tfL ex w h K) :
    ∃ fd : FuncData, (∀ (s : Shared) (v : Value), BindsTo s fd ⟨[v], []⟩ [("_law_script", v)]) ∧ ∀ base : Heap, K.In base → base.Ns mainGlobals mg → (∀ p ∈ tfL, LamX.TabB base mg (He.cT K p).1 (He.cT K p).2) → FnOk P w K mg base (L2.CX P w) LVL f fd ["_law_script"] (spD K sLawT) := by
  have c := c0.p
  have EE : ∀ base, (∀ p ∈ tfL, LamX.TabB base mg (He.cT K p).1 (He.cT K p).2) → Env P w K mg base := fun base tb => ⟨c.more, ⟨h, X, G⟩, fun d hd => c.has hd, fun d hd => c.hasG hd, tb⟩
  obtain ⟨fd, F⟩ := c.has in_f_law
  have F : FunD K "law" "law" (defArgs f_law) (defBody f_law) (defScope f_law) [] [] (He.ga K "law") fd := F
  have b := FunD.bindsA (ps := ["_law_script"]) F fun _ _ _ _ _ _ us hl => match us, hl with | [_], _ => rfl
  exact ⟨fd, fun s v => b s [v] rfl, fun base _ _ tb => by
    have e := hfa.symm.trans (EE base tb).g_law
    cases e
    exact ok_law (EE base tb) fd F⟩
end LK
open PySem PySem.W PySem.Calls PyProof.Rows
theorem PySem.Challenge.cw_linesharing_k37_desks_changed_holds : PySem.Challenge.rw_linesharing_k37_desks_changed.Holds := by
  w_on; o_law
  refine HandSHeadRun.head_any (r := OpenLaw.row PySem.Challenge.rw_linesharing_k37_desks_changed) (q := view (OpenLaw.row PySem.Challenge.rw_linesharing_k37_desks_changed).prog [72]) (H := LK.hk) (ob := LK.ob) (M := 30000) (loose := LK.loose) (d := HandSHeadRun.topDef (OpenLaw.row PySem.Challenge.rw_linesharing_k37_desks_changed).prog 72) (kwd := []) LK.ob_eq
    (by kernel_rfl) (fun s => by kernel_rfl) LK.run (by kernel_rfl) (by kernel_rfl) (by kernel_rfl) (by rfl) (by first | assumption | decide +kernel) (by decide +kernel) ⟨rfl, rfl, rfl, rfl, rfl, by decide +kernel⟩ ?hw ?hc
  case hw => w_witness2
  case hc =>
    refine LamX.walk_ofTsE (l := PySem.Challenge.rw_linesharing_k37_desks_changed) (n := 63) (k := LK.LVL) (x := "_law_script") (CX := fun w => L2.CX (PySem.Challenge.rw_linesharing_k37_desks_changed).prog w) rfl (by decide) (by kernel_rfl) ⟨rfl, by decide, by decide⟩ ?F ?E
    case F =>
      intro w mg fa h Y G hmg0
      obtain ⟨K, KX, c⟩ := Y
      have hmg : mg ("law" : PySem.Str) = some (.ref fa) := by
        have e : (HandSHeadRun.topDef (OpenLaw.row PySem.Challenge.rw_linesharing_k37_desks_changed).prog 72).name = ("law" : PySem.Str) := by kernel_rfl
        rw [← e]
        exact hmg0
      obtain ⟨fd, hb, hF⟩ := LK.facts (P := (PySem.Challenge.rw_linesharing_k37_desks_changed).prog) (w := w) KX G hmg c
      refine ⟨K, KX, fd, LK.tfL.map (He.cT K), _, (fun p hp => ?_), (fun p hp => ?_), (fun p hp => ?_), hb, fun H a ns hl hbits hT hS => LK.sp_lawT c.p.more hT hl hS, fun base h1 h2 hB => hF base h1 h2 fun p hp => hB _ (List.mem_map_of_mem hp)⟩
      all_goals obtain ⟨z, hz, rfl⟩ := List.mem_map.mp hp
      · exact c.x.empty z hz
      · exact c.x.out z hz
      · exact PySem.W.codeHd_of_K KX (c.x.hd z hz)
    case E =>
      intro w H s e s' z
      exact DL.cx0 z
