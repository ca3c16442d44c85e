import PyProof.Rows.All
import Wide.All
import OpenK.AllK
import Wide.FinOn
import HandS.ForMost
import HandS.ForExc
import HandS.Exc
import HandS.ExcOwn
import HandS.ExcInit
import HandS.ExcField
import HandS.ExcIs
import KE.KExcIs
import HandS.TryOnly
import HandS.IsInst
import HandS.Slots
import HandS.SlotsOwn
import HandS.Defaults
import HandS.MakeKw
import HandS.MakeKwOnly
import HandS.CallSlots
import HandS.Walk
import HandS.Evl
import HandS.HeadWalk
import HandS.HeadHook4
import KE.KStateDown
import HandS.Head0
import HandS.Head1
import HandS.Head2
import HandS.HeadEnd
import HandS.Dict
import HandS.Iter
import HandS.WordsDict
import KE.GoesEnum
import HandS.Deep
import HandS.TupAny
import HandS.DictComp
import HandS.Finally
import HandS.Zip
import HandS.Conv
import KE.KDictList
import HandS.OwnEq
import KE.KEqDict
import KE.KIndexOf
import KE.DataFind
import HandS.TupMul
import HandS.Star
import HandS.More
import PyProof.WalksMore
import PyProof.SumWalkG
import PyProof.FactsAll.tuple_2
import KE.KDictKeyed
import HandS.Flow
import HandS.Nested
import KE.DataCmp
import PyProof.RulesMatch
import HandS.Property
import HandS.Strs
import PyProof.Rows.SetFrom
import KE.SortData
import HandS.Style
import PyProof.FactsAll.list_3
import KE.KDictDisplayH
import HandS.Rev
import KE.KOpsOwn
import KE.KWithOwn
import HandS.HotCalls
import PyProof.DictUpdate
import KE.KDictLaws
import HandS.TryMany
import PyProof.NeKinds
import HandS.RevTup
import PySem.Challenge.RW_linesharing_k03_casts_refused
set_option Elab.async false
set_option linter.all false
set_option maxRecDepth 100000
set_option maxHeartbeats 4000000
namespace DL
open PySem PySem.Spec PyProof.Rows L2

inductive D where
  | non | bl (b : Bool) | int (i : Int) | str (x : Str) | ty (n : String) | adr (a : Addr)
  | tup (ds : List D) | lst (ds : List D) | lsf (ds : List D) | slo (C : Addr) (ds : List D)
  | exc (a C dd : Addr) (ks : List Str) (ds : List D) | dic (ks : List Key) (ds : List D) | tub (ds : List D)

mutual
def Rep (K : PySem.W.Frag) (G : Hp) : D → V → Prop
  | .non, v => v = .non
  | .bl b, v => v = .bl b
  | .int i, v => v = .int i
  | .str x, v => v = .str x
  | .ty n, v => v = .ty n
  | .adr a, v => v = .ref a
  | .tup ds, v => ∃ (a : Addr) (vs : List V), v = .ref a ∧ SqT K G a vs ∧ Reps K G ds vs
  | .lst ds, v => ∃ (a : Addr) (vs : List V), v = .ref a ∧ G a = some (.lst vs) ∧ Reps K G ds vs
  | .lsf ds, v => ∃ (a : Addr) (vs : List V), v = .ref a ∧ SqL K G a vs ∧ Reps K G ds vs
  | .slo C ds, v => ∃ (a dx : Addr) (vs : List V), v = .ref a ∧ SlX.Slt G a C dx (vs.map some) ∧ Reps K G ds vs
  | .exc a _ dd ks ds, v => v = .ref a ∧ ∃ vs : List V, G dd = some (.xd (ks.zip vs)) ∧ Reps K G ds vs
  | .dic ks ds, v => ∃ (a : Addr) (od : Obj) (vs : List V), v = .ref a ∧ G a = some (.frz od (.dK (ks.zip vs))) ∧ ks.length = ds.length ∧ Reps K G ds vs
  | .tub ds, v => ∃ (a : Addr) (od : Obj) (vs : List V), v = .ref a ∧ G a = some (.frz od (.tup vs)) ∧ od.dict = none ∧ Reps K G ds vs
def Reps (K : PySem.W.Frag) (G : Hp) : List D → List V → Prop
  | [], vs => vs = []
  | d :: ds, vs => ∃ (v : V) (r : List V), vs = v :: r ∧ Rep K G d v ∧ Reps K G ds r
end

section
variable {K : PySem.W.Frag} {G G' H H' : Hp}
theorem sqT_mono {a : Addr} {xs : List V} (e : Same G H) (h : SqT K G a xs) : SqT K H a xs := Evl.ex_t e h
theorem sqL_mono {a : Addr} {xs : List V} (e : Same G H) (h : SqL K G a xs) : SqL K H a xs := e.seq h
theorem slt_mono {a C dx : Addr} {vs : List (Option V)} (e : Same G H) (h : SlX.Slt G a C dx vs) : SlX.Slt H a C dx vs := by
  rcases h with ⟨h1, h2⟩ | ⟨h1, h2⟩
  · exact .inl ⟨e _ _ h1, h2⟩
  · exact .inr ⟨e _ _ h1, e _ _ h2⟩
mutual
theorem Rep.mono (e : Same G H) : ∀ {d : D} {v : V}, Rep K G d v → Rep K H d v
  | .non, _, h => h
  | .bl _, _, h => h
  | .int _, _, h => h
  | .str _, _, h => h
  | .ty _, _, h => h
  | .adr _, _, h => h
  | .tup _, _, ⟨a, vs, h1, h2, h3⟩ => ⟨a, vs, h1, sqT_mono e h2, Reps.mono e h3⟩
  | .lst _, _, ⟨a, vs, h1, h2, h3⟩ => ⟨a, vs, h1, e _ _ h2, Reps.mono e h3⟩
  | .lsf _, _, ⟨a, vs, h1, h2, h3⟩ => ⟨a, vs, h1, sqL_mono e h2, Reps.mono e h3⟩
  | .slo _ _, _, ⟨a, dx, vs, h1, h2, h3⟩ => ⟨a, dx, vs, h1, slt_mono e h2, Reps.mono e h3⟩
  | .exc _ _ _ _ _, _, ⟨h1, vs, h2, h3⟩ => ⟨h1, vs, e _ _ h2, Reps.mono e h3⟩
  | .dic _ _, _, ⟨a, od, vs, h1, h2, h4, h3⟩ => ⟨a, od, vs, h1, e _ _ h2, h4, Reps.mono e h3⟩
  | .tub _, _, ⟨a, od, vs, h1, h2, h4, h3⟩ => ⟨a, od, vs, h1, e _ _ h2, h4, Reps.mono e h3⟩
theorem Reps.mono (e : Same G H) : ∀ {ds : List D} {vs : List V}, Reps K G ds vs → Reps K H ds vs
  | [], _, h => h
  | _ :: _, _, ⟨v, r, h1, h2, h3⟩ => ⟨v, r, h1, Rep.mono e h2, Reps.mono e h3⟩
end
theorem Reps.length : ∀ {ds : List D} {vs : List V}, Reps K G ds vs → vs.length = ds.length
  | [], _, h => by
    have h' : _ = [] := h
    subst h'
    rfl
  | _ :: _, _, ⟨v, r, h1, _, h3⟩ => by rw [h1, List.length_cons, List.length_cons, Reps.length h3]
theorem Reps.get : ∀ {ds : List D} {vs : List V} {i : Nat} {d : D}, Reps K G ds vs → ds[i]? = some d → ∃ v, vs[i]? = some v ∧ Rep K G d v
  | [], _, _, _, _, e => by simp at e
  | d :: ds, _, 0, d', ⟨v, r, h1, h2, h3⟩, e => by
    have e2 : d = d' := by simpa using e
    subst e2
    exact ⟨v, by rw [h1]; rfl, h2⟩
  | d :: ds, _, i + 1, d', ⟨v, r, h1, h2, h3⟩, e => by
    obtain ⟨w, e1, e2⟩ := Reps.get (i := i) h3 (by simpa using e)
    exact ⟨w, by rw [h1]; simpa using e1, e2⟩
theorem Reps.nil : Reps K G [] [] := rfl
theorem Reps.cons {d : D} {v : V} {ds : List D} {vs : List V} (h : Rep K G d v) (t : Reps K G ds vs) : Reps K G (d :: ds) (v :: vs) := ⟨v, vs, rfl, h, t⟩
theorem Reps.append : ∀ {ds es : List D} {vs ws : List V}, Reps K G ds vs → Reps K G es ws → Reps K G (ds ++ es) (vs ++ ws)
  | [], _, _, _, h, t => by rw [show _ = [] from h]; exact t
  | d :: ds, es, _, ws, ⟨v, r, h1, h2, h3⟩, t => by rw [h1]; exact ⟨v, r ++ ws, rfl, h2, Reps.append h3 t⟩
theorem Reps.one {d : D} {v : V} (h : Rep K G d v) : Reps K G [d] [v] := .cons h .nil
theorem Reps.set : ∀ {ds : List D} {vs : List V} {i : Nat} {d : D} {v : V}, Reps K G ds vs → Rep K G d v → Reps K G (ds.set i d) (vs.set i v)
  | [], _, _, _, _, h, _ => by rw [show _ = [] from h]; exact rfl
  | _ :: _, _, 0, d, v, ⟨w, r, h1, h2, h3⟩, q => by rw [h1]; exact ⟨v, r, rfl, q, h3⟩
  | _ :: _, _, i + 1, d, v, ⟨w, r, h1, h2, h3⟩, q => by rw [h1]; exact ⟨w, r.set i v, rfl, h2, Reps.set h3 q⟩

abbrev DEnv := List (Option D)
def EnvR (K : PySem.W.Frag) (G : Hp) (δ : DEnv) (σ : L2.St) : Prop := σ.length = δ.length ∧ ∀ (i : Nat) (d : D), δ[i]? = some (some d) → ∃ v, σ[i]? = some (some v) ∧ Rep K G d v
theorem EnvR.mono {δ : DEnv} {σ : L2.St} (e : Same G H) (h : EnvR K G δ σ) : EnvR K H δ σ := ⟨h.1, fun i d hd => by
  obtain ⟨v, h1, h2⟩ := h.2 i d hd
  exact ⟨v, h1, h2.mono e⟩⟩
theorem EnvR.set {δ : DEnv} {σ : L2.St} {i : Nat} {d : D} {v : V} (h : EnvR K G δ σ) (r : Rep K G d v) : EnvR K G (δ.set i (some d)) (σ.set i (some v)) := by
  refine ⟨by simp [h.1], fun j e he => ?_⟩
  by_cases hj : i = j
  · subst hj
    have hl : i < δ.length := by
      have := (List.getElem?_eq_some_iff.mp he).1
      simpa using this
    rw [List.getElem?_set_self hl] at he
    have e2 : d = e := by simpa using he
    subst e2
    exact ⟨v, List.getElem?_set_self (by rw [h.1]; exact hl), r⟩
  · rw [List.getElem?_set_ne hj] at he
    obtain ⟨w, h1, h2⟩ := h.2 j e he
    exact ⟨w, by rw [List.getElem?_set_ne hj]; exact h1, h2⟩
theorem EnvR.drop {δ : DEnv} {σ : L2.St} {i : Nat} (h : EnvR K G δ σ) (o : Option V) : EnvR K G (δ.set i none) (σ.set i o) := by
  refine ⟨by simp [h.1], fun j e he => ?_⟩
  by_cases hj : i = j
  · subst hj
    rw [List.getElem?_set] at he
    simp at he
  · rw [List.getElem?_set_ne hj] at he
    obtain ⟨w, h1, h2⟩ := h.2 j e he
    exact ⟨w, by rw [List.getElem?_set_ne hj]; exact h1, h2⟩
def dstart (N : List Str) (ds : List D) : DEnv := ds.map some ++ List.replicate (N.length - ds.length) none
theorem EnvR.start {N : List Str} {ds : List D} {vs : List V} (r : Reps K G ds vs) : EnvR K G (dstart N ds) (L2.start N vs) := by
  have hl := r.length
  refine ⟨by unfold L2.start dstart; simp [hl], fun i d hd => ?_⟩
  unfold dstart at hd
  by_cases hi : i < ds.length
  · rw [List.getElem?_append_left (by simpa using hi), List.getElem?_map] at hd
    have hd2 : ds[i]? = some d := by
      cases e : ds[i]? with
      | none => rw [e] at hd; cases hd
      | some x => rw [e] at hd; simpa using hd
    obtain ⟨v, h1, h2⟩ := r.get hd2
    refine ⟨v, ?_, h2⟩
    unfold L2.start
    rw [List.getElem?_append_left (by rw [List.length_map, hl]; exact hi), List.getElem?_map, h1]
    rfl
  · rw [List.getElem?_append_right (by simpa using hi), List.getElem?_replicate] at hd
    split at hd <;> cases hd
end

structure Iv (K : PySem.W.Frag) where
  F : Addr → Prop
  φ : Hp → Hp → Prop
  loc : ∀ G G' H H', Same G G' → (∀ a, F a → H' a = H a) → φ G H → φ G' H'
  dom : ∀ G H, φ G H → ∀ a, F a → H a ≠ none
structure Hd {K : PySem.W.Frag} (I : Iv K) (G H : Hp) : Prop where
  ph : I.φ G H
  fr : ∀ a, I.F a → G a = none
def iEmp (K : PySem.W.Frag) : Iv K := ⟨fun _ => False, fun _ _ => True, fun _ _ _ _ _ _ _ => trivial, fun _ _ _ _ h => h.elim⟩
def Iv.and {K : PySem.W.Frag} (I J : Iv K) : Iv K where
  F := fun a => I.F a ∨ J.F a
  φ := fun G H => I.φ G H ∧ J.φ G H ∧ ∀ a, ¬ (I.F a ∧ J.F a)
  loc := fun G G' H H' s k h => ⟨I.loc G G' H H' s (fun a ha => k a (.inl ha)) h.1, J.loc G G' H H' s (fun a ha => k a (.inr ha)) h.2.1, h.2.2⟩
  dom := fun G H h a ha => ha.elim (I.dom G H h.1 a) (J.dom G H h.2.1 a)
def iObj (K : PySem.W.Frag) (p : Addr) (R : Hp → HO → Prop) (mono : ∀ G G' o, Same G G' → R G o → R G' o) : Iv K where
  F := fun a => a = p
  φ := fun G H => ∃ o, H p = some o ∧ R G o
  loc := fun G G' H H' s k ⟨o, h1, h2⟩ => ⟨o, by rw [k p rfl]; exact h1, mono G G' o s h2⟩
  dom := fun G H ⟨o, h1, _⟩ a ha => by rw [show a = p from ha, h1]; simp
def iLst (K : PySem.W.Frag) (p : Addr) (ds : List D) : Iv K := iObj K p (fun G o => ∃ vs, o = .lst vs ∧ Reps K G ds vs) fun _ _ _ s ⟨vs, h1, h2⟩ => ⟨vs, h1, h2.mono s⟩
section
variable {K : PySem.W.Frag} {I J : Iv K} {G G' H H' : Hp}
theorem Hd.emp : Hd (iEmp K) G H := ⟨trivial, fun _ h => h.elim⟩
theorem Hd.left (h : Hd (I.and J) G H) : Hd I G H := ⟨h.ph.1, fun a ha => h.fr a (.inl ha)⟩
theorem Hd.right (h : Hd (I.and J) G H) : Hd J G H := ⟨h.ph.2.1, fun a ha => h.fr a (.inr ha)⟩
theorem Hd.apart (h : Hd (I.and J) G H) : ∀ a, ¬ (I.F a ∧ J.F a) := h.ph.2.2
theorem Hd.mk2 (h1 : Hd I G H) (h2 : Hd J G H) (d : ∀ a, ¬ (I.F a ∧ J.F a)) : Hd (I.and J) G H := ⟨⟨h1.ph, h2.ph, d⟩, fun a ha => ha.elim (h1.fr a) (h2.fr a)⟩
theorem Hd.dom (h : Hd I G H) {a : Addr} (ha : I.F a) : H a ≠ none := I.dom G H h.ph a ha
theorem Hd.keep (h : Hd I G H) {q : Addr} {o : HO} (hq : H q = none) (sG : Same G H) : Hd I (upd G q o) (upd H q o) := by
  have hg : G q = none := sG.free hq
  have nq : ∀ a, I.F a → a ≠ q := fun a ha e => h.dom ha (by rw [e]; exact hq)
  exact ⟨I.loc G _ H _ (Evl.Ex.new hg) (fun a ha => upd_ne (nq a ha)) h.ph, fun a ha => by rw [upd_ne (nq a ha)]; exact h.fr a ha⟩
theorem Hd.newp (h : Hd I G H) {q : Addr} {o : HO} (hq : H q = none) : Hd I G (upd H q o) := by
  have nq : ∀ a, I.F a → a ≠ q := fun a ha e => h.dom ha (by rw [e]; exact hq)
  exact ⟨I.loc G G H _ (Same.refl G) (fun a ha => upd_ne (nq a ha)) h.ph, h.fr⟩
theorem Hd.chg (h : Hd I G H) {q : Addr} {o : HO} (hq : ¬ I.F q) : Hd I G (upd H q o) :=
  ⟨I.loc G G H _ (Same.refl G) (fun a ha => upd_ne fun e => hq (by rw [← e]; exact ha)) h.ph, h.fr⟩
theorem same_upd {q : Addr} {o : HO} (s : Same G H) (hq : G q = none) : Same G (upd H q o) := fun a u e => by
  rw [upd_ne (ne_of_none e hq)]
  exact s a u e
theorem same_upd2 {q : Addr} {o : HO} (s : Same G H) : Same (upd G q o) (upd H q o) := fun a u e => by
  by_cases h : a = q
  · rw [h, upd_same] at e
    rw [h, upd_same]
    exact e
  · rw [upd_ne h] at e
    rw [upd_ne h]
    exact s a u e
theorem same_freeze {q : Addr} {o : HO} (s : Same G H) (hq : H q = some o) : Same (upd G q o) H := fun a u e => by
  by_cases h : a = q
  · rw [h, upd_same] at e
    rw [h, hq]
    exact e
  · rw [upd_ne h] at e
    exact s a u e
end

inductive Rc (K : PySem.W.Frag) where
  | here
  | l (c : Rc K) (J : Iv K)
  | r (J : Iv K) (c : Rc K)
def Rc.fill {K : PySem.W.Frag} : Rc K → Iv K → Iv K
  | .here, I => I
  | .l c J, I => (c.fill I).and J
  | .r J c, I => J.and (c.fill I)
structure Sub {K : PySem.W.Frag} (I I' : Iv K) : Prop where
  F : ∀ a, I'.F a ↔ I.F a
  φ : ∀ G H, I.φ G H → I'.φ G H
section
variable {K : PySem.W.Frag} {I I' J : Iv K} {G G' H H' : Hp}
theorem Hd.sub (s : Sub I I') (h : Hd I G H) : Hd I' G H := ⟨s.φ _ _ h.ph, fun a ha => h.fr a ((s.F a).mp ha)⟩
theorem Sub.refl : Sub I I := ⟨fun _ => Iff.rfl, fun _ _ h => h⟩
theorem Sub.andL (s : Sub I I') : Sub (I.and J) (I'.and J) := ⟨fun a => ⟨fun h => h.imp (s.F a).mp id, fun h => h.imp (s.F a).mpr id⟩, fun G H h => ⟨s.φ _ _ h.1, h.2.1, fun a ha => h.2.2 a ⟨(s.F a).mp ha.1, ha.2⟩⟩⟩
theorem Sub.andR (s : Sub I I') : Sub (J.and I) (J.and I') := ⟨fun a => ⟨fun h => h.imp id (s.F a).mp, fun h => h.imp id (s.F a).mpr⟩, fun G H h => ⟨h.1, s.φ _ _ h.2.1, fun a ha => h.2.2 a ⟨ha.1, (s.F a).mp ha.2⟩⟩⟩
theorem Sub.fill (s : Sub I I') : ∀ c : Rc K, Sub (c.fill I) (c.fill I')
  | .here => s
  | .l c J => (Sub.fill s c).andL
  | .r J c => (Sub.fill s c).andR
theorem Hd.inner : ∀ {c : Rc K}, Hd (c.fill I) G H → Hd I G H
  | .here, h => h
  | .l _ _, h => Hd.inner h.left
  | .r _ _, h => Hd.inner h.right
theorem fill_F (e : ∀ a, I'.F a ↔ I.F a) : ∀ (c : Rc K) (a : Addr), (c.fill I').F a ↔ (c.fill I).F a
  | .here, a => e a
  | .l c J, a => ⟨fun h => h.imp (fill_F e c a).mp id, fun h => h.imp (fill_F e c a).mpr id⟩
  | .r J c, a => ⟨fun h => h.imp id (fill_F e c a).mp, fun h => h.imp id (fill_F e c a).mpr⟩
theorem fill_in : ∀ (c : Rc K) (a : Addr), I.F a → (c.fill I).F a
  | .here, _, h => h
  | .l c _, a, h => .inl (fill_in c a h)
  | .r _ c, a, h => .inr (fill_in c a h)
theorem Hd.change (e : ∀ a, I'.F a ↔ I.F a) (k : ∀ a, ¬ I.F a → H' a = H a) (h' : Hd I' G H') : ∀ {c : Rc K}, Hd (c.fill I) G H → Hd (c.fill I') G H'
  | .here, _ => h'
  | .l c J, h => by
    have q := Hd.change e k h' h.left
    refine Hd.mk2 q ⟨J.loc G G H H' (Same.refl G) (fun a ha => k a fun z => h.apart a ⟨fill_in c a z, ha⟩) h.right.ph, h.right.fr⟩ fun a ha => h.apart a ⟨(fill_F e c a).mp ha.1, ha.2⟩
  | .r J c, h => by
    have q := Hd.change e k h' h.right
    refine Hd.mk2 ⟨J.loc G G H H' (Same.refl G) (fun a ha => k a fun z => h.apart a ⟨ha, fill_in c a z⟩) h.left.ph, h.left.fr⟩ q fun a ha => h.apart a ⟨ha.1, (fill_F e c a).mp ha.2⟩
theorem Hd.opens {α : Type} {f : α → Iv K} (e : ∀ x a, (f x).F a ↔ I.F a) (o : ∀ G H, I.φ G H → ∃ x, (f x).φ G H) : ∀ {c : Rc K}, Hd (c.fill I) G H → ∃ x, Hd (c.fill (f x)) G H
  | .here, h => by
    obtain ⟨x, hx⟩ := o _ _ h.ph
    exact ⟨x, hx, fun a ha => h.fr a ((e x a).mp ha)⟩
  | .l c J, h => by
    obtain ⟨x, hx⟩ := Hd.opens e o h.left
    exact ⟨x, Hd.mk2 hx h.right fun a ha => h.apart a ⟨(fill_F (e x) c a).mp ha.1, ha.2⟩⟩
  | .r J c, h => by
    obtain ⟨x, hx⟩ := Hd.opens e o h.right
    exact ⟨x, Hd.mk2 h.left hx fun a ha => h.apart a ⟨ha.1, (fill_F (e x) c a).mp ha.2⟩⟩
end
end DL
set_option Elab.async false
set_option linter.all false
set_option maxRecDepth 100000
set_option maxHeartbeats 4000000
namespace DL
open PySem PySem.Spec PyProof.Rows L2

structure wpE (X : Cx) (e : Expr) (σ : L2.St) (H : Hp) (Q : VK) : Prop where
  run : ∀ (pins : List (Addr × Obj)) (s : Shared), Inv X pins σ H s → wpAny (model X.prog X.w) X.A (eval e X.env) (EP X pins σ Q) X.xe s
structure wpT (X : Cx) (e : Expr) (σ : L2.St) (H : Hp) (Q : Bool → Hp → Prop) : Prop where
  run : ∀ (pins : List (Addr × Obj)) (s : Shared), Inv X pins σ H s → wpAny (model X.prog X.w) X.A (isTrue e X.env (eval e X.env)) (TP X pins σ Q) X.xe s
structure wpW (X : Cx) (e : Expr) (σ : L2.St) (H : Hp) (Q : Bool → Hp → Prop) : Prop where
  run : ∀ (whole : Sem Value) (pins : List (Addr × Obj)) (s : Shared), Inv X pins σ H s → wpAny (model X.prog X.w) X.A (isTrue e X.env whole) (TP X pins σ Q) X.xe s
structure wpA (X : Cx) (es : List Expr) (σ : L2.St) (H : Hp) (Q : List V → Hp → Prop) : Prop where
  run : ∀ (pos : Pos) (pins : List (Addr × Obj)) (s : Shared), Inv X pins σ H s → wpAny (model X.prog X.w) X.A (spliced (backTo pos (starEach es X.env))) (AP X pins σ Q) X.xe s
structure wpS (X : Cx) (st : Stmt) (D : Ends) (σ : L2.St) (H : Hp) : Prop where
  run : ∀ (pins : List (Addr × Obj)) (s : Shared), Inv X pins σ H s → wpAny (model X.prog X.w) X.A (exec st X.env) (SP X pins D) X.xe s
structure wpB (X : Cx) (sts : List Stmt) (D : Ends) (σ : L2.St) (H : Hp) : Prop where
  run : ∀ (pins : List (Addr × Obj)) (s : Shared), Inv X pins σ H s → wpAny (model X.prog X.w) X.A (execs sts X.env) (SP X pins D) X.xe s
section
variable {X : Cx} {e : Expr} {es : List Expr} {st : Stmt} {sts : List Stmt} {te : TE} {tt : TT} {ta : TA} {ts : TS} {σ : L2.St} {H : Hp}
theorem peC : PE X e (wpE X e) := ⟨fun pins s σ H Q I h => h.run pins s I⟩
theorem ptC : PT X e (wpT X e) := ⟨fun pins s σ H Q I h => h.run pins s I⟩
theorem pwC : PW X e (wpW X e) := ⟨fun whole pins s σ H Q I h => h.run whole pins s I⟩
theorem paC : PA X es (wpA X es) := ⟨fun pos pins s σ H Q I h => h.run pos pins s I⟩
theorem psC : PS X st (wpS X st) := ⟨fun pins s σ H D I h => h.run pins s I⟩
theorem pssC : PSs X sts (wpB X sts) := ⟨fun pins s σ H D I h => h.run pins s I⟩
theorem PE.wp (h : PE X e te) {Q : VK} (q : te σ H Q) : wpE X e σ H Q := ⟨fun pins s I => h.run pins s σ H Q I q⟩
theorem PT.wp (h : PT X e tt) {Q : Bool → Hp → Prop} (q : tt σ H Q) : wpT X e σ H Q := ⟨fun pins s I => h.run pins s σ H Q I q⟩
theorem PW.wp (h : PW X e tt) {Q : Bool → Hp → Prop} (q : tt σ H Q) : wpW X e σ H Q := ⟨fun w pins s I => h.run w pins s σ H Q I q⟩
theorem PA.wp (h : PA X es ta) {Q : List V → Hp → Prop} (q : ta σ H Q) : wpA X es σ H Q := ⟨fun pos pins s I => h.run pos pins s σ H Q I q⟩
theorem PS.wp (h : PS X st ts) {D : Ends} (q : ts D σ H) : wpS X st D σ H := ⟨fun pins s I => h.run pins s σ H D I q⟩
theorem PSs.wp (h : PSs X sts ts) {D : Ends} (q : ts D σ H) : wpB X sts D σ H := ⟨fun pins s I => h.run pins s σ H D I q⟩
end

section
variable {K : PySem.W.Frag}
def Kv (K : PySem.W.Frag) (Q : VK) (G : Hp) (P : D → Iv K → Prop) : Prop := ∀ (v : V) (d : D) (G' H' : Hp) (I' : Iv K), Same G G' → Same G' H' → Hd I' G' H' → Rep K G' d v → P d I' → Q v H'
def Kb (K : PySem.W.Frag) (Q : Bool → Hp → Prop) (G : Hp) (P : Bool → Iv K → Prop) : Prop := ∀ (b : Bool) (G' H' : Hp) (I' : Iv K), Same G G' → Same G' H' → Hd I' G' H' → P b I' → Q b H'
def Ka (K : PySem.W.Frag) (Q : List V → Hp → Prop) (G : Hp) (P : List D → Iv K → Prop) : Prop := ∀ (vs : List V) (ds : List D) (G' H' : Hp) (I' : Iv K), Same G G' → Same G' H' → Hd I' G' H' → Reps K G' ds vs → P ds I' → Q vs H'
theorem Kv.mono {Q : VK} {G G1 : Hp} {P : D → Iv K → Prop} (s : Same G G1) (h : Kv K Q G P) : Kv K Q G1 P := fun v d G' H' I' s1 => h v d G' H' I' (s.trans s1)
theorem Kb.mono {Q : Bool → Hp → Prop} {G G1 : Hp} {P : Bool → Iv K → Prop} (s : Same G G1) (h : Kb K Q G P) : Kb K Q G1 P := fun b G' H' I' s1 => h b G' H' I' (s.trans s1)
theorem Ka.mono {Q : List V → Hp → Prop} {G G1 : Hp} {P : List D → Iv K → Prop} (s : Same G G1) (h : Ka K Q G P) : Ka K Q G1 P := fun v d G' H' I' s1 => h v d G' H' I' (s.trans s1)
def Op2 (K : PySem.W.Frag) (r : R2) (x y : D) (I : Iv K) (P : D → Iv K → Prop) : Prop := ∀ (G H : Hp) (v w : V) (Q : VK), Same G H → Hd I G H → Rep K G x v → Rep K G y w → Kv K Q G P → r v w H Q
def Op1 (K : PySem.W.Frag) (r : V → Hp → VK → Prop) (x : D) (I : Iv K) (P : D → Iv K → Prop) : Prop := ∀ (G H : Hp) (v : V) (Q : VK), Same G H → Hd I G H → Rep K G x v → Kv K Q G P → r v H Q
def OpN (K : PySem.W.Frag) (r : List V → Hp → VK → Prop) (xs : List D) (I : Iv K) (P : D → Iv K → Prop) : Prop := ∀ (G H : Hp) (vs : List V) (Q : VK), Same G H → Hd I G H → Reps K G xs vs → Kv K Q G P → r vs H Q
end
abbrev Rx (K : PySem.W.Frag) := Addr → List (Str × D) → Iv K → Prop
def FRep (K : PySem.W.Frag) (G : Hp) : List (Str × D) → List (Str × V) → Prop
  | [], l => l = []
  | p :: ps, l => ∃ v r, l = (p.1, v) :: r ∧ Rep K G p.2 v ∧ FRep K G ps r
def Kx (K : PySem.W.Frag) (W : WX) (σ : L2.St) (G : Hp) (R : Rx K) : Prop := ∀ (C dd : Addr) (fs : List (Str × D)) (l : List (Str × V)) (G' H' : Hp) (I' : Iv K), Same G G' → Same G' H' → Hd I' G' H' → FRep K G' fs l → G' dd = some (.xd l) → R C fs I' → W (.ref C) (some dd) σ H'
theorem Kx.mono {K : PySem.W.Frag} {W : WX} {σ : L2.St} {G G1 : Hp} {R : Rx K} (s : Same G G1) (h : Kx K W σ G R) : Kx K W σ G1 R := fun C dd fs l G' H' I' s1 => h C dd fs l G' H' I' (s.trans s1)
def EvX (X : Cx) (W : WX) (R : Rx X.K) (e : Expr) (δ : DEnv) (I : Iv X.K) (P : D → Iv X.K → Prop) : Prop := ∀ (σ : L2.St) (G H : Hp) (Q : VK), EnvR X.K G δ σ → Same G H → Hd I G H → Kx X.K W σ G R → Kv X.K Q G P → wpE X e σ H Q
def EvT (X : Cx) (W : WX) (R : Rx X.K) (e : Expr) (δ : DEnv) (I : Iv X.K) (P : Bool → Iv X.K → Prop) : Prop := ∀ (σ : L2.St) (G H : Hp) (Q : Bool → Hp → Prop), EnvR X.K G δ σ → Same G H → Hd I G H → Kx X.K W σ G R → Kb X.K Q G P → wpT X e σ H Q
def EvW (X : Cx) (W : WX) (R : Rx X.K) (e : Expr) (δ : DEnv) (I : Iv X.K) (P : Bool → Iv X.K → Prop) : Prop := ∀ (σ : L2.St) (G H : Hp) (Q : Bool → Hp → Prop), EnvR X.K G δ σ → Same G H → Hd I G H → Kx X.K W σ G R → Kb X.K Q G P → wpW X e σ H Q
def EvA (X : Cx) (W : WX) (R : Rx X.K) (es : List Expr) (δ : DEnv) (I : Iv X.K) (P : List D → Iv X.K → Prop) : Prop := ∀ (σ : L2.St) (G H : Hp) (Q : List V → Hp → Prop), EnvR X.K G δ σ → Same G H → Hd I G H → Kx X.K W σ G R → Ka X.K Q G P → wpA X es σ H Q
def PV (X : Cx) (I : Iv X.K) (e : Expr) (δ : DEnv) (d : D) : Prop := ∀ (W : WX) (R : Rx X.K) (P : D → Iv X.K → Prop), P d I → EvX X W R e δ I P
def PVT (X : Cx) (I : Iv X.K) (e : Expr) (δ : DEnv) (b : Bool) : Prop := ∀ (W : WX) (R : Rx X.K) (P : Bool → Iv X.K → Prop), P b I → EvT X W R e δ I P
def PVW (X : Cx) (I : Iv X.K) (e : Expr) (δ : DEnv) (b : Bool) : Prop := ∀ (W : WX) (R : Rx X.K) (P : Bool → Iv X.K → Prop), P b I → EvW X W R e δ I P
def PVA (X : Cx) (I : Iv X.K) (es : List Expr) (δ : DEnv) (ds : List D) : Prop := ∀ (W : WX) (R : Rx X.K) (P : List D → Iv X.K → Prop), P ds I → EvA X W R es δ I P
def P2 (K : PySem.W.Frag) (I : Iv K) (r : R2) (x y z : D) : Prop := ∀ (P : D → Iv K → Prop), P z I → Op2 K r x y I P
def P1 (K : PySem.W.Frag) (I : Iv K) (r : V → Hp → VK → Prop) (x z : D) : Prop := ∀ (P : D → Iv K → Prop), P z I → Op1 K r x I P
def PN (K : PySem.W.Frag) (I : Iv K) (r : List V → Hp → VK → Prop) (xs : List D) (z : D) : Prop := ∀ (P : D → Iv K → Prop), P z I → OpN K r xs I P

section
variable {X : Cx} {a b c e : Expr} {es rest : List Expr} {δ : DEnv} {I : Iv X.K} {W : WX} {R : Rx X.K} {P P' : D → Iv X.K → Prop} {PB PB' : Bool → Iv X.K → Prop} {PA' : List D → Iv X.K → Prop} {pos p : Pos} {d x y z : D} {x' : Str}
theorem EvX.imp (h : EvX X W R e δ I P) (k : ∀ d I', P d I' → P' d I') : EvX X W R e δ I P' := fun σ G H Q hE s hI qx q => h σ G H Q hE s hI qx fun v d G' H' I' s1 s2 h1 r p => q v d G' H' I' s1 s2 h1 r (k d I' p)
theorem EvT.imp (h : EvT X W R e δ I PB) (k : ∀ d I', PB d I' → PB' d I') : EvT X W R e δ I PB' := fun σ G H Q hE s hI qx q => h σ G H Q hE s hI qx fun d G' H' I' s1 s2 h1 p => q d G' H' I' s1 s2 h1 (k d I' p)
theorem PV.is (h : PV X I e δ d) (q : d = z) : PV X I e δ z := q ▸ h
theorem PVT.is {b c : Bool} (h : PVT X I e δ b) (q : b = c) : PVT X I e δ c := q ▸ h
theorem P2.is {K : PySem.W.Frag} {I : Iv K} {r : R2} {x y z z' : D} (h : P2 K I r x y z) (q : z = z') : P2 K I r x y z' := q ▸ h
theorem pv_t {v : V} (h : PE X e (tC v)) (hr : ∀ G, Rep X.K G d v) : PV X I e δ d := fun W R P p σ G H Q _ s hI _ q => PE.wp h (q v d G H I (Same.refl G) s hI (hr G) p)
theorem pv_int {i : Int} {j} : PV X I (.Constant (.int i) j pos) δ (.int i) := pv_t pe_int fun _ => rfl
theorem pv_str {w : Str} {j} : PV X I (.Constant (.str w) j pos) δ (.str w) := pv_t pe_str fun _ => rfl
theorem pv_bl {k : Bool} {j} : PV X I (.Constant (.bool k) j pos) δ (.bl k) := pv_t pe_bl fun _ => rfl
theorem pv_non {j} : PV X I (.Constant .none j pos) δ .non := pv_t pe_non fun _ => rfl
theorem pv_v (i : Nat) (hd : δ[i]? = some (some d) := by rfl) (hN : X.N[i]? = some x' := by rfl) (hv : Vis X.env.scope x' := by first | exact Or.inl rfl | exact Or.inr (Or.inl rfl) | exact Or.inr (Or.inr rfl)) (hdb : (x' == ("__debug__" : Str)) = false := by decide)
    (hcd : (x' == ("__classdict__" : Str)) = false := by decide) : PV X I (.Name x' pos) δ d := fun W R P p σ G H Q hE s hI qx q => by
  obtain ⟨v, h1, h2⟩ := hE.2 i d hd
  exact PE.wp (pe_var hN hv hdb hcd) ⟨v, h1, q v d G H I (Same.refl G) s hI h2 p⟩
theorem pv_g {v : V} {u : Value} (hm : X.mg x' = some u) (r : RelV v u) (hr : ∀ G, Rep X.K G d v) (hg : Gl X x' := by rfl) (hdb : (x' == ("__debug__" : Str)) = false := by decide) : PV X I (.Name x' pos) δ d := pv_t (pe_glob hg hm r hdb) hr
theorem pv_gty {n : String} (hm : X.mg x' = none) (hv : bootBuiltins x' = some (.type n) := by decide +kernel) (hg : Gl X x' := by rfl) (hn : x' ≠ "__name__" := by decide) (hdb : (x' == ("__debug__" : Str)) = false := by decide) : PV X I (.Name x' pos) δ (.ty n) :=
  pv_t (v := .ty n) (pe_bltn hg hm hv rfl hn hdb) fun _ => rfl
theorem ev_op {op : Operator} {r : R2} (ho : OpR X (binaryOp op) r) (h : EvX X W R a δ I fun x I1 => EvX X W R b δ I1 fun y I2 => Op2 X.K r x y I2 P) : EvX X W R (.BinOp a op b pos) δ I P := fun σ G H Q hE s hI qx q =>
  PE.wp (pe_op ho peC peC) (h σ G H _ hE s hI qx fun v x G1 H1 I1 s1 t1 h1 r1 k1 => k1 σ G1 H1 _ (hE.mono s1) t1 h1 (qx.mono s1) fun w y G2 H2 I2 s2 t2 h2 r2 k2 => k2 G2 H2 v w Q t2 h2 (r1.mono s2) r2 (q.mono (s1.trans s2)))
theorem ev_cmp {op : CmpOp} {r : R2} (ho : OpR X (compareOp op) r) (h : EvX X W R a δ I fun x I1 => EvX X W R b δ I1 fun y I2 => Op2 X.K r x y I2 P) (hm : behindInMarks op b = false := by first | exact nomark _ | rfl) : EvX X W R (.Compare a [op] [b] pos) δ I P := fun σ G H Q hE s hI qx q =>
  PE.wp (pe_cmpR ho peC peC hm) (h σ G H _ hE s hI qx fun v x G1 H1 I1 s1 t1 h1 r1 k1 => k1 σ G1 H1 _ (hE.mono s1) t1 h1 (qx.mono s1) fun w y G2 H2 I2 s2 t2 h2 r2 k2 => k2 G2 H2 v w Q t2 h2 (r1.mono s2) r2 (q.mono (s1.trans s2)))
theorem et_cmp {op : CmpOp} {r : R2} (ho : OpR X (compareOp op) r) (h : EvX X W R a δ I fun x I1 => EvX X W R b δ I1 fun y I2 => Op2 X.K r x y I2 fun z I3 => ∃ k, z = .bl k ∧ PB k I3) (hm : behindInMarks op b = false := by first | exact nomark _ | rfl) : EvT X W R (.Compare a [op] [b] pos) δ I PB := fun σ G H Q hE s hI qx q =>
  PT.wp (pt_cmpR ho peC peC hm) (h σ G H _ hE s hI qx fun v x G1 H1 I1 s1 t1 h1 r1 k1 => k1 σ G1 H1 _ (hE.mono s1) t1 h1 (qx.mono s1) fun w y G2 H2 I2 s2 t2 h2 r2 k2 => k2 G2 H2 v w _ t2 h2 (r1.mono s2) r2 fun z d G3 H3 I3 s3 t3 h3 r3 ⟨k, e, p⟩ => ⟨k, by subst e; exact r3, q k G3 H3 I3 ((s1.trans s2).trans s3) t3 h3 p⟩)
theorem pv_op {op : Operator} {r : R2} (ho : OpR X (binaryOp op) r) (ha : PV X I a δ x) (hb : PV X I b δ y) (h : P2 X.K I r x y z) : PV X I (.BinOp a op b pos) δ z := fun W R P p => ev_op ho (ha W R _ (hb W R _ (h P p)))
theorem pv_cmp {op : CmpOp} {r : R2} (ho : OpR X (compareOp op) r) (ha : PV X I a δ x) (hb : PV X I b δ y) (h : P2 X.K I r x y z) (hm : behindInMarks op b = false := by first | exact nomark _ | rfl) : PV X I (.Compare a [op] [b] pos) δ z := fun W R P p => ev_cmp ho (ha W R _ (hb W R _ (h P p))) hm
theorem pt_cmp {op : CmpOp} {r : R2} {k : Bool} (ho : OpR X (compareOp op) r) (ha : PV X I a δ x) (hb : PV X I b δ y) (h : P2 X.K I r x y (.bl k)) (hm : behindInMarks op b = false := by first | exact nomark _ | rfl) : PVT X I (.Compare a [op] [b] pos) δ k := fun W R P p => et_cmp ho (ha W R _ (hb W R _ (h _ ⟨k, rfl, p⟩))) hm
theorem ev_ix {r : R2} (ho : IxR X r) (h : EvX X W R a δ I fun x I1 => EvX X W R b δ I1 fun y I2 => Op2 X.K r x y I2 P) (hs : PlainIx b := by exact fun _ _ => rfl) : EvX X W R (.Subscript a b pos) δ I P := fun σ G H Q hE s hI qx q =>
  PE.wp (pe_ix ho peC peC hs) (h σ G H _ hE s hI qx fun v x G1 H1 I1 s1 t1 h1 r1 k1 => k1 σ G1 H1 _ (hE.mono s1) t1 h1 (qx.mono s1) fun w y G2 H2 I2 s2 t2 h2 r2 k2 => k2 G2 H2 v w Q t2 h2 (r1.mono s2) r2 (q.mono (s1.trans s2)))
theorem pv_ix {r : R2} (ho : IxR X r) (ha : PV X I a δ x) (hb : PV X I b δ y) (h : P2 X.K I r x y z) (hs : PlainIx b := by exact fun _ _ => rfl) : PV X I (.Subscript a b pos) δ z := fun W R P p => ev_ix ho (ha W R _ (hb W R _ (h P p))) hs
theorem ev_un {op : UnaryOp} {r : V → Hp → VK → Prop} (ho : UnR X (unaryOp op) r) (h : EvX X W R a δ I fun x I1 => Op1 X.K r x I1 P) : EvX X W R (.UnaryOp op a pos) δ I P := fun σ G H Q hE s hI qx q =>
  PE.wp (pe_un ho peC) (h σ G H _ hE s hI qx fun v x G1 H1 I1 s1 t1 h1 r1 k1 => k1 G1 H1 v Q t1 h1 r1 (q.mono s1))
theorem pv_un {op : UnaryOp} {r : V → Hp → VK → Prop} (ho : UnR X (unaryOp op) r) (ha : PV X I a δ x) (h : P1 X.K I r x z) : PV X I (.UnaryOp op a pos) δ z := fun W R P p => ev_un ho (ha W R _ (h P p))
theorem et_val (h : EvX X W R e δ I fun z I1 => ∃ k, z = .bl k ∧ PB k I1) (he : ∀ whole, isTrue e X.env whole = (do let v ← whole; standAt e.pos; holding [v] (truthy v)) := by intro _; rfl) : EvT X W R e δ I PB := fun σ G H Q hE s hI qx q =>
  PT.wp (pt_val peC he) (h σ G H _ hE s hI qx fun v d G1 H1 I1 s1 t1 h1 r1 ⟨k, ek, p⟩ => ⟨k, by subst ek; exact r1, q k G1 H1 I1 s1 t1 h1 p⟩)
theorem pt_v {k : Bool} (h : PV X I e δ (.bl k)) (he : ∀ whole, isTrue e X.env whole = (do let v ← whole; standAt e.pos; holding [v] (truthy v)) := by intro _; rfl) : PVT X I e δ k := fun W R P p => et_val (h W R _ ⟨k, rfl, p⟩) he
theorem et_not (h : EvT X W R a δ I fun k I1 => PB (!k) I1) : EvT X W R (.UnaryOp .Not a pos) δ I PB := fun σ G H Q hE s hI qx q =>
  PT.wp (L2.pt_not ptC) (h σ G H _ hE s hI qx fun k G1 H1 I1 s1 t1 h1 p => q (!k) G1 H1 I1 s1 t1 h1 p)
theorem ptn {k : Bool} (h : PVT X I a δ k) : PVT X I (.UnaryOp .Not a pos) δ (!k) := fun W R P p => et_not (h W R _ p)
theorem ew_and (h : EvT X W R a δ I fun k I1 => if k = true then EvW X W R (.BoolOp .And (b :: rest) pos) δ I1 PB else PB false I1) : EvW X W R (.BoolOp .And (a :: b :: rest) pos) δ I PB := fun σ G H Q hE s hI qx q =>
  PW.wp (pw_and ptC pwC) (h σ G H _ hE s hI qx fun k G1 H1 I1 s1 t1 h1 p => by
    cases k with
    | true => exact (show EvW X W R (.BoolOp .And (b :: rest) pos) δ I1 PB from p) σ G1 H1 Q (hE.mono s1) t1 h1 (qx.mono s1) (q.mono s1)
    | false => exact q false G1 H1 I1 s1 t1 h1 p)
theorem ew_or (h : EvT X W R a δ I fun k I1 => if k = true then PB true I1 else EvW X W R (.BoolOp .Or (b :: rest) pos) δ I1 PB) : EvW X W R (.BoolOp .Or (a :: b :: rest) pos) δ I PB := fun σ G H Q hE s hI qx q =>
  PW.wp (pw_or ptC pwC) (h σ G H _ hE s hI qx fun k G1 H1 I1 s1 t1 h1 p => by
    cases k with
    | false => exact (show EvW X W R (.BoolOp .Or (b :: rest) pos) δ I1 PB from p) σ G1 H1 Q (hE.mono s1) t1 h1 (qx.mono s1) (q.mono s1)
    | true => exact q true G1 H1 I1 s1 t1 h1 p)
theorem ew_and1 (h : EvT X W R a δ I PB) : EvW X W R (.BoolOp .And [a] pos) δ I PB := fun σ G H Q hE s hI qx q => PW.wp (pw_and1 ptC) (h σ G H _ hE s hI qx q)
theorem ew_or1 (h : EvT X W R a δ I PB) : EvW X W R (.BoolOp .Or [a] pos) δ I PB := fun σ G H Q hE s hI qx q => PW.wp (pw_or1 ptC) (h σ G H _ hE s hI qx q)
theorem et_w (h : EvW X W R e δ I PB) : EvT X W R e δ I PB := fun σ G H Q hE s hI qx q => ⟨fun pins s1 J => (h σ G H Q hE s hI qx q).run _ pins s1 J⟩
theorem ww_and {k l : Bool} (h1 : PVT X I a δ k) (h2 : k = true → PVW X I (.BoolOp .And (b :: rest) pos) δ l) : PVW X I (.BoolOp .And (a :: b :: rest) pos) δ (k && l) := fun W R P p => ew_and (h1 W R _ (by
  cases k with
  | true => exact h2 rfl W R P p
  | false => exact p))
theorem ww_or {k l : Bool} (h1 : PVT X I a δ k) (h2 : k = false → PVW X I (.BoolOp .Or (b :: rest) pos) δ l) : PVW X I (.BoolOp .Or (a :: b :: rest) pos) δ (k || l) := fun W R P p => ew_or (h1 W R _ (by
  cases k with
  | false => exact h2 rfl W R P p
  | true => exact p))
theorem ww_and1 {k : Bool} (h : PVT X I a δ k) : PVW X I (.BoolOp .And [a] pos) δ k := fun W R P p => ew_and1 (h W R P p)
theorem ww_or1 {k : Bool} (h : PVT X I a δ k) : PVW X I (.BoolOp .Or [a] pos) δ k := fun W R P p => ew_or1 (h W R P p)
theorem ptw {k : Bool} (h : PVW X I e δ k) : PVT X I e δ k := fun W R P p => et_w (h W R P p)
theorem pv_and {k : Bool} (h1 : PV X I a δ (.bl k)) (h2 : k = true → PV X I (.BoolOp .And (b :: rest) pos) δ z) (h3 : k = false → z = .bl false) : PV X I (.BoolOp .And (a :: b :: rest) pos) δ z := fun W R P p σ G H Q hE s hI qx q =>
  PE.wp (pe_and peC peC) (h1 W R (fun z I1 => z = .bl k ∧ I1 = I) ⟨rfl, rfl⟩ σ G H _ hE s hI qx fun v d G1 H1 I1 s1 t1 e1 r1 ⟨ed, ei⟩ => by
    subst ed ei
    refine ⟨k, r1, ?_⟩
    cases k with
    | true => exact h2 rfl W R P p σ G1 H1 Q (hE.mono s1) t1 e1 (qx.mono s1) (q.mono s1)
    | false =>
      have ez := h3 rfl
      subst ez
      exact q (.bl false) (.bl false) G1 H1 _ s1 t1 e1 rfl p)
theorem pv_one {op} (h : PV X I a δ z) : PV X I (.BoolOp op [a] pos) δ z := fun W R P p σ G H Q hE s hI qx q => PE.wp (pe_one peC) (h W R P p σ G H Q hE s hI qx q)
theorem pv_andB {k l : Bool} (h1 : PV X I a δ (.bl k)) (h2 : k = true → PV X I (.BoolOp .And (b :: rest) pos) δ (.bl l)) : PV X I (.BoolOp .And (a :: b :: rest) pos) δ (.bl (k && l)) := by
  cases k with
  | true => exact pv_and h1 h2 (fun z => nomatch z)
  | false => exact pv_and h1 (fun z => nomatch z) (fun _ => rfl)
theorem pv_if {k : Bool} (h : PVT X I c δ k) (h1 : k = true → PV X I a δ z) (h2 : k = false → PV X I b δ z) : PV X I (.IfExp c a b pos) δ z := fun W R P p σ G H Q hE s hI qx q =>
  PE.wp (pe_ifExp ptC peC peC) (h W R (fun l I1 => l = k ∧ I1 = I) ⟨rfl, rfl⟩ σ G H _ hE s hI qx fun l G1 H1 I1 s1 t1 e1 ⟨el, ei⟩ => by
    subst el ei
    cases l with
    | true => exact h1 rfl W R P p σ G1 H1 Q (hE.mono s1) t1 e1 (qx.mono s1) (q.mono s1)
    | false => exact h2 rfl W R P p σ G1 H1 Q (hE.mono s1) t1 e1 (qx.mono s1) (q.mono s1))
theorem ea_nil (p : PA' [] I) : EvA X W R [] δ I PA' := fun σ G H Q hE s hI qx q => PA.wp pa_nil (q [] [] G H I (Same.refl G) s hI rfl p)
theorem ea_cons (h : EvX X W R e δ I fun d I1 => EvA X W R es δ I1 fun ds I2 => PA' (d :: ds) I2) (hs : starEach (e :: es) X.env = (false, eval e X.env) :: starEach es X.env := by rfl) : EvA X W R (e :: es) δ I PA' := fun σ G H Q hE s hI qx q =>
  PA.wp (pa_cons peC paC hs) (h σ G H _ hE s hI qx fun v d G1 H1 I1 s1 t1 h1 r1 k => k σ G1 H1 _ (hE.mono s1) t1 h1 (qx.mono s1) fun vs ds G2 H2 I2 s2 t2 h2 r2 k2 => q (v :: vs) (d :: ds) G2 H2 I2 (s1.trans s2) t2 h2 ⟨v, vs, rfl, r1.mono s2, r2⟩ k2)
theorem va_nil : PVA X I [] δ [] := fun W R P p => ea_nil p
theorem va_cons {ds : List D} (h : PV X I e δ d) (t : PVA X I es δ ds) (hs : starEach (e :: es) X.env = (false, eval e X.env) :: starEach es X.env := by rfl) : PVA X I (e :: es) δ (d :: ds) := fun W R P p => ea_cons (h W R _ (t W R _ p)) hs
theorem ev_tup {x1} (h : EvA X W R es δ I fun ds I1 => ds.length ≤ 1000 ∧ P (.tup ds) I1) : EvX X W R (.Tuple es x1 pos) δ I P := fun σ G H Q hE s hI qx q =>
  PE.wp (pe_tup paC) (h σ G H _ hE s hI qx fun vs ds G1 H1 I1 s1 t1 h1 r1 ⟨hl, k⟩ => ⟨by rw [r1.length, sizeLine_eq]; omega, fun p hp => by
    have hg : G1 p = none := t1.free hp
    exact q (.ref p) (.tup ds) (upd G1 p (.tup vs)) _ I1 (s1.trans (Evl.Ex.new hg)) (same_upd2 t1) (h1.keep hp t1) ⟨p, vs, rfl, SqT.of upd_same, r1.mono (Evl.Ex.new hg)⟩ k⟩)
theorem ev_lst (h : EvA X W R es δ I fun ds I1 => ds.length ≤ 1000 ∧ P (.lst ds) I1) : EvX X W R (.List es pos) δ I P := fun σ G H Q hE s hI qx q =>
  PE.wp (pe_lst paC) (h σ G H _ hE s hI qx fun vs ds G1 H1 I1 s1 t1 h1 r1 ⟨hl, k⟩ => ⟨by rw [r1.length, sizeLine_eq]; omega, fun p hp => by
    have hg : G1 p = none := t1.free hp
    exact q (.ref p) (.lst ds) (upd G1 p (.lst vs)) _ I1 (s1.trans (Evl.Ex.new hg)) (same_upd2 t1) (h1.keep hp t1) ⟨p, vs, rfl, upd_same, r1.mono (Evl.Ex.new hg)⟩ k⟩)
theorem pv_tup {x1} {ds : List D} (h : PVA X I es δ ds) (hl : ds.length ≤ 1000 := by first | decide | simp) : PV X I (.Tuple es x1 pos) δ (.tup ds) := fun W R P p => ev_tup (h W R _ ⟨hl, p⟩)
theorem pv_lst {ds : List D} (h : PVA X I es δ ds) (hl : ds.length ≤ 1000 := by first | decide | simp) : PV X I (.List es pos) δ (.lst ds) := fun W R P p => ev_lst (h W R _ ⟨hl, p⟩)
theorem ev_lstM {ds : List D} (h : PVA X I es δ ds) (hl : ds.length ≤ 1000) (hp : ∀ p, (∀ a, ¬ (I.F a ∧ a = p)) → P (.adr p) (I.and (iLst X.K p ds))) : EvX X W R (.List es pos) δ I P := fun σ G H Q hE s hI qx q =>
  PE.wp (pe_lst paC) (h W R (fun es I1 => es = ds ∧ I1 = I) ⟨rfl, rfl⟩ σ G H _ hE s hI qx fun vs es G1 H1 I1 s1 t1 h1 r1 ⟨ee, ei⟩ => ⟨by rw [r1.length, ee, sizeLine_eq]; omega, fun p hq => by
    subst ee ei
    have hg : G1 p = none := t1.free hq
    have na : ∀ a, ¬ (I1.F a ∧ a = p) := fun a ha => h1.dom ha.1 (by rw [ha.2]; exact hq)
    exact q (.ref p) (.adr p) G1 _ (I1.and (iLst X.K p es)) s1 (same_upd t1 hg) (Hd.mk2 (h1.newp hq) ⟨⟨_, upd_same, vs, rfl, r1⟩, fun a ha => by rw [show a = p from ha]; exact hg⟩ na) rfl (hp p na)⟩)
theorem ev_cb {r : List V → Hp → VK → Prop} {id : String} (hc : CallR X (.builtin id) r) (hm : X.mg x' = none) (h : EvA X W R (e :: es) δ I fun ds I1 => OpN X.K r ds I1 P) (hv : bootBuiltins x' = some (.builtin id) := by decide +kernel) (hg : Gl X x' := by rfl) (hn : x' ≠ "__name__" := by decide) (hdb : (x' == ("__debug__" : Str)) = false := by decide)
    (he : starEach (e :: es) X.env = (false, eval e X.env) :: starEach es X.env := by rfl) (hpl : (backTo pos (starEach es X.env)).any (·.1) = false := by rfl) : EvX X W R (.Call (.Name x' p) (e :: es) [] pos) δ I P := fun σ G H Q hE s hI qx q =>
  PE.wp (pe_callB hc hg hm hv paC hn hdb he hpl) (h σ G H _ hE s hI qx fun vs ds G1 H1 I1 s1 t1 h1 r1 k => k G1 H1 vs Q t1 h1 r1 (q.mono s1))
theorem ev_ct {r : List V → Hp → VK → Prop} {T : String} (hc : CallR X (.type T) r) (hm : X.mg x' = none) (h : EvA X W R (e :: es) δ I fun ds I1 => OpN X.K r ds I1 P) (hv : bootBuiltins x' = some (.type T) := by decide +kernel) (hg : Gl X x' := by rfl) (hn : x' ≠ "__name__" := by decide) (hdb : (x' == ("__debug__" : Str)) = false := by decide)
    (he : starEach (e :: es) X.env = (false, eval e X.env) :: starEach es X.env := by rfl) (hpl : (backTo pos (starEach es X.env)).any (·.1) = false := by rfl) : EvX X W R (.Call (.Name x' p) (e :: es) [] pos) δ I P := fun σ G H Q hE s hI qx q =>
  PE.wp (pe_callTy hc hg hm hv paC hn hdb he hpl) (h σ G H _ hE s hI qx fun vs ds G1 H1 I1 s1 t1 h1 r1 k => k G1 H1 vs Q t1 h1 r1 (q.mono s1))
theorem pv_cb {r : List V → Hp → VK → Prop} {id : String} {ds : List D} (hc : CallR X (.builtin id) r) (hm : X.mg x' = none) (h : PVA X I (e :: es) δ ds) (k : PN X.K I r ds z) (hv : bootBuiltins x' = some (.builtin id) := by decide +kernel) (hg : Gl X x' := by rfl) (hn : x' ≠ "__name__" := by decide) (hdb : (x' == ("__debug__" : Str)) = false := by decide)
    (he : starEach (e :: es) X.env = (false, eval e X.env) :: starEach es X.env := by rfl) (hpl : (backTo pos (starEach es X.env)).any (·.1) = false := by rfl) : PV X I (.Call (.Name x' p) (e :: es) [] pos) δ z := fun W R P p => ev_cb hc hm (h W R _ (k P p)) hv hg hn hdb he hpl
theorem pv_ct {r : List V → Hp → VK → Prop} {T : String} {ds : List D} (hc : CallR X (.type T) r) (hm : X.mg x' = none) (h : PVA X I (e :: es) δ ds) (k : PN X.K I r ds z) (hv : bootBuiltins x' = some (.type T) := by decide +kernel) (hg : Gl X x' := by rfl) (hn : x' ≠ "__name__" := by decide) (hdb : (x' == ("__debug__" : Str)) = false := by decide)
    (he : starEach (e :: es) X.env = (false, eval e X.env) :: starEach es X.env := by rfl) (hpl : (backTo pos (starEach es X.env)).any (·.1) = false := by rfl) : PV X I (.Call (.Name x' p) (e :: es) [] pos) δ z := fun W R P p => ev_ct hc hm (h W R _ (k P p)) hv hg hn hdb he hpl
end
end DL
set_option Elab.async false
set_option linter.all false
set_option maxRecDepth 100000
set_option maxHeartbeats 4000000
namespace DL
open PySem PySem.Spec PyProof.Rows L2

structure Ko (K : PySem.W.Frag) where
  nx : DEnv → Iv K → Prop
  rt : D → Iv K → Prop
  bk : DEnv → Iv K → Prop := fun _ _ => False
  ct : DEnv → Iv K → Prop := fun _ _ => False
  ex : Addr → List (Str × D) → DEnv → Iv K → Prop := fun _ _ _ _ => False
def Ks (K : PySem.W.Frag) (N : L2.St → Hp → Prop) (G : Hp) (n : DEnv → Iv K → Prop) : Prop := ∀ (δ : DEnv) (σ : L2.St) (G' H' : Hp) (I' : Iv K), Same G G' → Same G' H' → Hd I' G' H' → EnvR K G' δ σ → n δ I' → N σ H'
def Ke (K : PySem.W.Frag) (W : WX) (G : Hp) (x : Addr → List (Str × D) → DEnv → Iv K → Prop) : Prop := ∀ (C dd : Addr) (fs : List (Str × D)) (l : List (Str × V)) (δ : DEnv) (σ : L2.St) (G' H' : Hp) (I' : Iv K), Same G G' → Same G' H' → Hd I' G' H' → EnvR K G' δ σ → FRep K G' fs l → G' dd = some (.xd l) → x C fs δ I' → W (.ref C) (some dd) σ H'
structure KoLe (K : PySem.W.Frag) (W : WX) (E : Ends) (G : Hp) (κ : Ko K) : Prop where
  nx : Ks K E.nx G κ.nx
  rt : Kv K E.rt G κ.rt
  bk : Ks K E.bk G κ.bk
  ct : Ks K E.ct G κ.ct
  ex : Ke K W G κ.ex
section
variable {K : PySem.W.Frag} {W : WX} {E : Ends} {G G1 : Hp} {κ : Ko K}
theorem Ks.mono {N : L2.St → Hp → Prop} {n : DEnv → Iv K → Prop} (s : Same G G1) (h : Ks K N G n) : Ks K N G1 n := fun δ σ G' H' I' s1 => h δ σ G' H' I' (s.trans s1)
theorem Ke.mono {x : Addr → List (Str × D) → DEnv → Iv K → Prop} (s : Same G G1) (h : Ke K W G x) : Ke K W G1 x := fun C dd fs l δ σ G' H' I' s1 => h C dd fs l δ σ G' H' I' (s.trans s1)
theorem KoLe.mono (s : Same G G1) (h : KoLe K W E G κ) : KoLe K W E G1 κ := ⟨h.nx.mono s, h.rt.mono s, h.bk.mono s, h.ct.mono s, h.ex.mono s⟩
theorem KoLe.kx {δ : DEnv} {σ : L2.St} (h : KoLe K W E G κ) (hE : EnvR K G δ σ) : Kx K W σ G (fun C fs I' => κ.ex C fs δ I') := fun C dd fs l G' H' I' s1 s2 h1 r hd p => h.ex C dd fs l δ σ G' H' I' s1 s2 h1 (hE.mono s1) r hd p
end
def SX (X : Cx) (W : WX) (sts : List Stmt) (δ : DEnv) (I : Iv X.K) (κ : Ko X.K) : Prop := ∀ (σ : L2.St) (G H : Hp) (E : Ends), EnvR X.K G δ σ → Same G H → Hd I G H → KoLe X.K W E G κ → wpB X sts E σ H
def S1 (X : Cx) (W : WX) (st : Stmt) (δ : DEnv) (I : Iv X.K) (κ : Ko X.K) : Prop := ∀ (σ : L2.St) (G H : Hp) (E : Ends), EnvR X.K G δ σ → Same G H → Hd I G H → KoLe X.K W E G κ → wpS X st E σ H
abbrev Ko.r {K : PySem.W.Frag} (κ : Ko K) (δ : DEnv) : Rx K := fun C fs I' => κ.ex C fs δ I'
structure wpG (X : Cx) (tg : Expr) (v : V) (σ : L2.St) (H : Hp) (Q : L2.St → Hp → Prop) : Prop where
  run : ∀ (pins : List (Addr × Obj)) (s : Shared) (u : Value), Inv X pins σ H s → RelV v u → wpAny (model X.prog X.w) X.A (assign tg X.env u) (fun _ s' => ∃ σ' H', Inv X pins σ' H' s' ∧ Q σ' H') X.xe s
def BindD (X : Cx) (tg : Expr) (d : D) (δ δ' : DEnv) (vs : List Nat) : Prop := ∀ (v : V) (σ : L2.St) (G H : Hp) (Q : L2.St → Hp → Prop), EnvR X.K G δ σ → Same G H → Rep X.K G d v → (∀ σ', EnvR X.K G δ' σ' → wipe σ' vs = wipe σ vs → Q σ' H) → wpG X tg v σ H Q
structure wpI (X : Cx) (tg iter : Expr) (σ : L2.St) (H : Hp) (RR : It → Hp → Prop) : Prop where
  run : ∀ (pins : List (Addr × Obj)) (s : Shared), Inv X pins σ H s → wpAny (model X.prog X.w) X.A (eval iter X.env) (fun v s1 => wpAny (model X.prog X.w) X.A (pyIter v) (PIE X pins σ tg RR) X.xe s1) X.xe s
structure WalkD (K : PySem.W.Frag) (J : It) (ds : List D) (G : Hp) : Prop where
  go : ∀ i G' H', Same G G' → Same G' H' → i < ds.length → J.go i H'
  stop : ∀ G' H', Same G G' → Same G' H' → J.stop ds.length H'
  yld : ∀ i G' H' (I : Iv K) x H'', Same G G' → Same G' H' → Hd I G' H' → i < ds.length → J.yld i H' x H'' → ∃ G'', Same G' G'' ∧ Same G'' H'' ∧ Hd I G'' H'' ∧ (∀ a o, H' a = some o → H'' a = some o) ∧ ∃ d, ds[i]? = some d ∧ Rep K G'' d x
theorem WalkD.mono {K : PySem.W.Frag} {J : It} {ds : List D} {G G1 : Hp} (h : WalkD K J ds G) (s : Same G G1) : WalkD K J ds G1 :=
  ⟨fun i G' H' s1 => h.go i G' H' (s.trans s1), fun G' H' s1 => h.stop G' H' (s.trans s1), fun i G' H' I x H'' s1 => h.yld i G' H' I x H'' (s.trans s1)⟩
def EvI (X : Cx) (W : WX) (R : Rx X.K) (tg iter : Expr) (δ : DEnv) (I : Iv X.K) (P : List D → Iv X.K → Prop) : Prop := ∀ (σ : L2.St) (G H : Hp) (RR : It → Hp → Prop), EnvR X.K G δ σ → Same G H → Hd I G H → Kx X.K W σ G R →
  (∀ (J : It) (ds : List D) (G' H' : Hp) (I' : Iv X.K), Same G G' → Same G' H' → Hd I' G' H' → WalkD X.K J ds G' → P ds I' → RR J H') → wpI X tg iter σ H RR
def PVI (X : Cx) (I : Iv X.K) (tg iter : Expr) (δ : DEnv) (ds : List D) : Prop := ∀ (W : WX) (R : Rx X.K) (P : List D → Iv X.K → Prop), P ds I → EvI X W R tg iter δ I P
section
variable {X : Cx} {tg iter : Expr} {wi : TI} {g : TG}
theorem piC : PI X tg iter (wpI X tg iter) := ⟨fun pins s σ H R I h => h.run pins s I⟩
theorem PI.wp (h : PI X tg iter wi) {σ : L2.St} {H : Hp} {RR : It → Hp → Prop} (q : wi σ H RR) : wpI X tg iter σ H RR := ⟨fun pins s I => h.run pins s σ H RR I q⟩
theorem pgC : PG X tg (wpG X tg) := ⟨fun pins s σ H v u Q I r h => h.run pins s u I r⟩
theorem PG.wp (h : PG X tg g) {v : V} {σ : L2.St} {H : Hp} {Q : L2.St → Hp → Prop} (q : g v σ H Q) : wpG X tg v σ H Q := ⟨fun pins s u I r => h.run pins s σ H v u Q I r q⟩
end
def wipeD (δ : DEnv) : List Nat → DEnv
  | [] => δ
  | v :: vs => (wipeD δ vs).set v none
theorem EnvR.wipe {K : PySem.W.Frag} {G : Hp} {δ : DEnv} {σ : L2.St} (h : EnvR K G δ σ) : ∀ vs, EnvR K G (wipeD δ vs) (L2.wipe σ vs)
  | [] => h
  | _ :: vs => (EnvR.wipe h vs).drop none
theorem wipe_get (σ : L2.St) (j : Nat) : ∀ vs : List Nat, (L2.wipe σ vs)[j]? = if j ∈ vs then (if j < σ.length then some none else none) else σ[j]?
  | [] => by simp [L2.wipe]
  | v :: vs => by
    unfold L2.wipe
    by_cases h : v = j
    · subst h
      rw [List.getElem?_set, wipe_length]
      simp
    · rw [List.getElem?_set_ne h, wipe_get σ j vs]
      have e : (j ∈ v :: vs) ↔ (j ∈ vs) := by
        simp only [List.mem_cons]
        exact ⟨fun z => z.elim (fun z => absurd z.symm h) id, .inr⟩
      by_cases q : j ∈ vs
      · rw [if_pos q, if_pos (e.mpr q)]
      · rw [if_neg q, if_neg (fun z => q (e.mp z))]
theorem wipe_set (σ : L2.St) {i : Nat} {x : Option V} {vs : List Nat} (h : i ∈ vs) : L2.wipe (σ.set i x) vs = L2.wipe σ vs := by
  apply List.ext_getElem?
  intro j
  rw [wipe_get, wipe_get]
  by_cases q : j ∈ vs
  · simp [q]
  · rw [if_neg q, if_neg q, List.getElem?_set_ne]
    intro e
    exact q (e ▸ h)
theorem wipe_wipe (σ : L2.St) (vs : List Nat) : L2.wipe (L2.wipe σ vs) vs = L2.wipe σ vs := by
  apply List.ext_getElem?
  intro j
  rw [wipe_get]
  by_cases q : j ∈ vs
  · rw [if_pos q, wipe_get, if_pos q, wipe_length]
  · rw [if_neg q]

section
variable {X : Cx} {W : WX} {a b c e : Expr} {es : List Expr} {st : Stmt} {sts rest : List Stmt} {δ : DEnv} {I : Iv X.K} {κ : Ko X.K} {pos p : Pos} {d x y z : D} {x' : Str} {i : Nat}
theorem s_nil (h : κ.nx δ I) : SX X W [] δ I κ := fun σ G H E hE s hI k => PSs.wp pss_nil (k.nx δ σ G H I (Same.refl G) s hI hE h)
theorem s_cons (h : S1 X W st δ I { κ with nx := fun δ' I' => SX X W rest δ' I' κ }) : SX X W (st :: rest) δ I κ := fun σ G H E hE s hI k =>
  PSs.wp (pss_cons psC pssC) (h σ G H _ hE s hI ⟨fun δ' σ' G' H' I' s1 t1 h1 r p => p σ' G' H' E r t1 h1 (k.mono s1), k.rt, k.bk, k.ct, k.ex⟩)
theorem s_one (h : S1 X W st δ I κ) : SX X W [st] δ I κ := fun σ G H E hE s hI k => PSs.wp (pss_one psC) (h σ G H E hE s hI k)
theorem S1.imp {κ' : Ko X.K} (h : S1 X W st δ I κ') (n : ∀ δ I, κ'.nx δ I → κ.nx δ I) (r : ∀ d I, κ'.rt d I → κ.rt d I) (b : ∀ δ I, κ'.bk δ I → κ.bk δ I) (c : ∀ δ I, κ'.ct δ I → κ.ct δ I) (x : ∀ C fs δ I, κ'.ex C fs δ I → κ.ex C fs δ I) : S1 X W st δ I κ := fun σ G H E hE s hI k =>
  h σ G H E hE s hI ⟨fun δ' σ' G' H' I' s1 t1 h1 r p => k.nx δ' σ' G' H' I' s1 t1 h1 r (n _ _ p), fun v d G' H' I' s1 t1 h1 r1 p => k.rt v d G' H' I' s1 t1 h1 r1 (r _ _ p), fun δ' σ' G' H' I' s1 t1 h1 r p => k.bk δ' σ' G' H' I' s1 t1 h1 r (b _ _ p), fun δ' σ' G' H' I' s1 t1 h1 r p => k.ct δ' σ' G' H' I' s1 t1 h1 r (c _ _ p),
    fun C dd fs l δ' σ' G' H' I' s1 t1 h1 r q hd p => k.ex C dd fs l δ' σ' G' H' I' s1 t1 h1 r q hd (x _ _ _ _ p)⟩
theorem SX.imp {κ' : Ko X.K} (h : SX X W sts δ I κ') (n : ∀ δ I, κ'.nx δ I → κ.nx δ I) (r : ∀ d I, κ'.rt d I → κ.rt d I) (b : ∀ δ I, κ'.bk δ I → κ.bk δ I) (c : ∀ δ I, κ'.ct δ I → κ.ct δ I) (x : ∀ C fs δ I, κ'.ex C fs δ I → κ.ex C fs δ I) : SX X W sts δ I κ := fun σ G H E hE s hI k =>
  h σ G H E hE s hI ⟨fun δ' σ' G' H' I' s1 t1 h1 r p => k.nx δ' σ' G' H' I' s1 t1 h1 r (n _ _ p), fun v d G' H' I' s1 t1 h1 r1 p => k.rt v d G' H' I' s1 t1 h1 r1 (r _ _ p), fun δ' σ' G' H' I' s1 t1 h1 r p => k.bk δ' σ' G' H' I' s1 t1 h1 r (b _ _ p), fun δ' σ' G' H' I' s1 t1 h1 r p => k.ct δ' σ' G' H' I' s1 t1 h1 r (c _ _ p),
    fun C dd fs l δ' σ' G' H' I' s1 t1 h1 r q hd p => k.ex C dd fs l δ' σ' G' H' I' s1 t1 h1 r q hd (x _ _ _ _ p)⟩
theorem s_set (i : Nat) (h : EvX X W (κ.r δ) e δ I fun d I1 => κ.nx (δ.set i (some d)) I1) {pos' : Pos} (hN : X.N.Nodup := by assumption) (hi : X.N[i]? = some x' := by rfl) (hx : Loc X.env.scope x' := by first | exact Or.inl rfl | exact Or.inr rfl) (hs : swapsWith e (some (.Name x' pos')) pos.line X.env = pure false := by rfl)
    (hf : X.fn x' = true ∨ X.env.scope.names.lookup x' = some .local := by first | exact .inl rfl | exact .inr rfl) : S1 X W (.Assign [.Name x' pos'] e pos) δ I κ := fun σ G H E hE s hI k =>
  PS.wp (ps_set hN hi hx peC hs hf) (h σ G H _ hE s hI (k.kx hE) fun v d G1 H1 I1 s1 t1 h1 r1 p => k.nx _ _ G1 H1 I1 s1 t1 h1 ((hE.mono s1).set r1) p)
theorem s_setP (i : Nat) (h : PV X I e δ d) (q : κ.nx (δ.set i (some d)) I) {pos' : Pos} (hN : X.N.Nodup := by assumption) (hi : X.N[i]? = some x' := by rfl) (hx : Loc X.env.scope x' := by first | exact Or.inl rfl | exact Or.inr rfl) (hs : swapsWith e (some (.Name x' pos')) pos.line X.env = pure false := by rfl)
    (hf : X.fn x' = true ∨ X.env.scope.names.lookup x' = some .local := by first | exact .inl rfl | exact .inr rfl) : S1 X W (.Assign [.Name x' pos'] e pos) δ I κ := s_set i (h W _ _ q) hN hi hx hs hf
theorem s_ret (h : EvX X W (κ.r δ) e δ I κ.rt) : S1 X W (.Return (some e) pos) δ I κ := fun σ G H E hE s hI k => PS.wp (ps_ret peC) (h σ G H _ hE s hI (k.kx hE) k.rt)
theorem s_retP (h : PV X I e δ d) (q : κ.rt d I) : S1 X W (.Return (some e) pos) δ I κ := s_ret (h W _ _ q)
theorem s_retN (q : κ.rt .non I) : S1 X W (.Return none pos) δ I κ := fun σ G H E hE s hI k => PS.wp ps_retN (k.rt .non .non G H I (Same.refl G) s hI rfl q)
theorem s_if (h : EvT X W (κ.r δ) c δ I fun b I1 => if b = true then SX X W sts δ I1 κ else SX X W rest δ I1 κ) : S1 X W (.If c sts rest pos) δ I κ := fun σ G H E hE s hI k =>
  PS.wp (ps_if ptC pssC pssC) (h σ G H _ hE s hI (k.kx hE) fun b G1 H1 I1 s1 t1 h1 p => by
    cases b with
    | true => exact (show SX X W sts δ I1 κ from p) σ G1 H1 E (hE.mono s1) t1 h1 (k.mono s1)
    | false => exact (show SX X W rest δ I1 κ from p) σ G1 H1 E (hE.mono s1) t1 h1 (k.mono s1))
theorem s_ifP {b : Bool} (h : PVT X I c δ b) (h1 : b = true → SX X W sts δ I κ) (h2 : b = false → SX X W rest δ I κ) : S1 X W (.If c sts rest pos) δ I κ := s_if (h W _ _ (by
  cases b with
  | true => exact h1 rfl
  | false => exact h2 rfl))
theorem s_expr (h : EvX X W (κ.r δ) e δ I fun _ I1 => κ.nx δ I1) (hs : swapsWith e none pos.line X.env = pure false := by rfl) : S1 X W (.Expr e pos) δ I κ := fun σ G H E hE s hI k =>
  PS.wp (ps_expr peC hs) (h σ G H _ hE s hI (k.kx hE) fun v d G1 H1 I1 s1 t1 h1 r1 p => k.nx _ _ G1 H1 I1 s1 t1 h1 (hE.mono s1) p)
theorem bind_name (i : Nat) {vs : List Nat} {pos' : Pos} (hv : i ∈ vs := by decide) (hN : X.N.Nodup := by assumption) (hi : X.N[i]? = some x' := by rfl) (hx : Loc X.env.scope x' := by first | exact Or.inl rfl | exact Or.inr rfl) (hf : X.fn x' = true ∨ X.env.scope.names.lookup x' = some .local := by first | exact .inl rfl | exact .inr rfl) :
    BindD X (.Name x' pos') d δ (δ.set i (some d)) vs := fun v σ G H Q hE s r q => PG.wp (pg_name hN hi hx hf) (q _ (hE.set r) (wipe_set σ hv))
theorem s_for {iter tg : Expr} {body : List Stmt} (po : PassesOwn (model X.prog X.w) X.A X.env X.xe) (h : EvI X W (κ.r δ) tg iter δ I fun ds I1 => ∃ Nv : Nat → DEnv → Iv X.K → Prop, Nv 0 δ I1 ∧
      (∀ i d δ' I', ds[i]? = some d → Nv i δ' I' → ∃ δ'' vs, BindD X tg d δ' δ'' vs ∧ SX X W body δ'' I' { κ with nx := Nv (i + 1), ct := Nv (i + 1), bk := κ.nx }) ∧ ∀ δ' I', Nv ds.length δ' I' → κ.nx δ' I')
    (hc : X.calm = true := by rfl) (hs : ∀ x, foldedSetIterable iter X.env x = pure x := by intro _; rfl) : S1 X W (.For tg iter body [] pos) δ I κ := fun σ G H E hE s hI k =>
  PS.wp (ps_for po hc piC pgC pssC hs) (h σ G H _ hE s hI (k.kx hE) fun J ds G1 H1 I1 s1 t1 h1 wk ⟨Nv, i0, step, fin⟩ => by
    refine ⟨fun i m σ' H' => m = ds.length - i ∧ i ≤ ds.length ∧ ∃ δ' G' I', Same G1 G' ∧ Same G' H' ∧ Hd I' G' H' ∧ EnvR X.K G' δ' σ' ∧ Nv i δ' I', ⟨_, rfl, Nat.zero_le _, δ, G1, I1, Same.refl G1, t1, h1, hE.mono s1, i0⟩, ?_⟩
    rintro i m σ' H' ⟨rfl, hi, δ', G', I', s2, t2, h2, e2, iv⟩
    by_cases hlt : i < ds.length
    · refine .inr ⟨wk.go i G' H' s2 t2 hlt, fun σ3 H3 => ∃ δ3 G3 I3, Same G1 G3 ∧ Same G3 H3 ∧ Hd I3 G3 H3 ∧ EnvR X.K G3 δ3 σ3 ∧ Nv (i + 1) δ3 I3, fun σ3 H3 ⟨δ3, G3, I3, q1, q2, q3, q4, q5⟩ => ⟨ds.length - (i + 1), by omega, rfl, hlt, δ3, G3, I3, q1, q2, q3, q4, q5⟩, fun x H3 hy => ?_⟩
      obtain ⟨G3, s3, t3, h3, _, d, hd, rd⟩ := wk.yld i G' H' I' x H3 s2 t2 h2 hlt hy
      obtain ⟨δ'', vs, bd, bs⟩ := step i d δ' I' hd iv
      refine bd x σ' G3 H3 _ (e2.mono s3) t3 rd fun σ4 e4 _ => ?_
      have s13 : Same G1 G3 := s2.trans s3
      exact bs σ4 G3 H3 _ e4 t3 h3 ⟨fun δ5 σ5 G5 H5 I5 s5 t5 h5 r5 p5 => ⟨δ5, G5, I5, s13.trans s5, t5, h5, r5, p5⟩, k.rt.mono (s1.trans s13), k.nx.mono (s1.trans s13), fun δ5 σ5 G5 H5 I5 s5 t5 h5 r5 p5 => ⟨δ5, G5, I5, s13.trans s5, t5, h5, r5, p5⟩, k.ex.mono (s1.trans s13)⟩
    · have ei : i = ds.length := by omega
      subst ei
      exact .inl ⟨wk.stop G' H' s2 t2, k.nx δ' σ' G' H' I' (s1.trans s2) t2 h2 e2 (fin δ' I' iv)⟩)
theorem s_while {body : List Stmt} (po : PassesOwn (model X.prog X.w) X.A X.env X.xe) (Nv : Nat → DEnv → Iv X.K → Prop) (m : Nat) (i0 : Nv m δ I)
    (step : ∀ m δ' I', Nv m δ' I' → EvT X W (κ.r δ') c δ' I' fun b I1 => if b = true then SX X W body δ' I1 { κ with nx := fun δ'' I'' => ∃ m', m' < m ∧ Nv m' δ'' I'', ct := fun δ'' I'' => ∃ m', m' < m ∧ Nv m' δ'' I'', bk := κ.nx } else κ.nx δ' I1) : S1 X W (.While c body [] pos) δ I κ := fun σ G H E hE s hI k =>
  PS.wp (ps_while po ptC pssC) (by
    refine ⟨fun m σ' H' => ∃ δ' G' I', Same G G' ∧ Same G' H' ∧ Hd I' G' H' ∧ EnvR X.K G' δ' σ' ∧ Nv m δ' I', ⟨m, δ, G, I, Same.refl G, s, hI, hE, i0⟩, ?_⟩
    rintro m σ' H' ⟨δ', G', I', s2, t2, h2, e2, iv⟩
    refine step m δ' I' iv σ' G' H' _ e2 t2 h2 ((k.mono s2).kx e2) fun b G3 H3 I3 s3 t3 h3 p => ?_
    cases b with
    | true =>
      have s13 := s2.trans s3
      refine ⟨fun σ5 H5 => ∃ m', m' < m ∧ ∃ δ5 G5 I5, Same G G5 ∧ Same G5 H5 ∧ Hd I5 G5 H5 ∧ EnvR X.K G5 δ5 σ5 ∧ Nv m' δ5 I5, fun σ5 H5 q => q, ?_⟩
      exact (show SX X W body δ' I3 _ from p) σ' G3 H3 _ (e2.mono s3) t3 h3 ⟨fun δ5 σ5 G5 H5 I5 s5 t5 h5 r5 ⟨m', hm, p5⟩ => ⟨m', hm, δ5, G5, I5, s13.trans s5, t5, h5, r5, p5⟩, k.rt.mono s13, k.nx.mono s13, fun δ5 σ5 G5 H5 I5 s5 t5 h5 r5 ⟨m', hm, p5⟩ => ⟨m', hm, δ5, G5, I5, s13.trans s5, t5, h5, r5, p5⟩, k.ex.mono s13⟩
    | false => exact k.nx δ' σ' G3 H3 I3 (s2.trans s3) t3 h3 (e2.mono s3) p)
end
end DL
set_option Elab.async false
set_option linter.all false
set_option maxRecDepth 100000
set_option maxHeartbeats 4000000
namespace DL
open PySem PySem.Spec PyProof.Rows L2

abbrev Spec (K : PySem.W.Frag) := Iv K → List D → (D → Iv K → Prop) → Rx K → Prop
def spD (K : PySem.W.Frag) (S : Spec K) : Sp := fun vs H Q E => ∃ (I : Iv K) (G : Hp) (ds : List D) (P : D → Iv K → Prop) (R : Rx K), Same G H ∧ Hd I G H ∧ Reps K G ds vs ∧ S I ds P R ∧ Kv K Q G P ∧
  ∀ (C dd : Addr) (fs : List (Str × D)) (l : List (Str × V)) (G' H' : Hp) (I' : Iv K), Same G G' → Same G' H' → Hd I' G' H' → FRep K G' fs l → G' dd = some (.xd l) → R C fs I' → E (.ref C) (some dd) H'
section
variable {P : Program} {w : World} {K : PySem.W.Frag} {mg : Str → Option Value} {base : Heap} {x qual : Str} {params : Arguments} {body : List Stmt} {scope : Scope} {dvs : List V} {kws : List (Str × V)} {f : Addr} {fd : FuncData}
theorem fn_d {N ps : List Str} {k : Nat} {S : Spec K} (F : FunD K x qual params body scope dvs kws f fd) (sc : FnScope N ps scope) (len : ∀ I ds P R, S I ds P R → ds.length = ps.length)
    (h : ∀ (cdv : Value) (A : Around) (outer : List Env) (s : Shared) (H : Hp) (E : XK), Room k (A.deeper (envOfC qual scope s.heap.objs.size f cdv)) →
      Takes (cxOf (L2.CX P w) P w K mg base N qual scope f cdv A outer s H E) (fun cls d _ H => E cls d H) →
      PassesOwn (model P w) (A.deeper (envOfC qual scope s.heap.objs.size f cdv)) (envOfC qual scope s.heap.objs.size f cdv) (cxOf (L2.CX P w) P w K mg base N qual scope f cdv A outer s H E).xe →
      ∀ (I : Iv K) (ds : List D) (Q : D → Iv K → Prop) (R : Rx K), S I ds Q R →
      SX (cxOf (L2.CX P w) P w K mg base N qual scope f cdv A outer s H E) (fun cls d _ H => E cls d H) body (dstart N ds) I { nx := fun _ I' => Q .non I', rt := Q, ex := fun C fs _ I' => R C fs I' }) :
    FnOk P w K mg base (L2.CX P w) (k + 1) f fd ps (spD K S) := by
  refine F.ok sc (fun vs H Q E h => ?_) (fun cdv A outer s H vs Q E hr hq => ?_)
  · obtain ⟨I, G, ds, P', R, _, _, r, hS, _, _⟩ := h
    rw [r.length]
    exact len _ _ _ _ hS
  · obtain ⟨I, G, ds, P', R, sm, hI, r, hS, kv, ke⟩ := hq
    refine ⟨_, pssC, h cdv A outer s H E hr (takes_of rfl rfl rfl rfl) (passes_of rfl) I ds P' R hS _ G H _ (EnvR.start r) sm hI ?_⟩
    exact ⟨fun δ σ G' H' I' s1 s2 h1 _ p => kv .non .non G' H' I' s1 s2 h1 rfl p, kv, fun _ _ _ _ _ _ _ _ _ p => p.elim, fun _ _ _ _ _ _ _ _ _ p => p.elim,
      fun C dd fs l δ σ G' H' I' s1 s2 h1 _ r2 hd p => ke C dd fs l G' H' I' s1 s2 h1 r2 hd p⟩
end
section
variable {X : Cx} {W : WX} {R : Rx X.K} {e : Expr} {es : List Expr} {δ : DEnv} {I : Iv X.K} {P : D → Iv X.K → Prop} {pos p : Pos} {x : Str} {f : Addr} {fd : FuncData} {ps : List Str} {k : Nat} {S : Spec X.K} {dvs : List V} {dds : List D} {us : List Value} {d : D}
theorem ev_callD (tk : Takes X W) (F : FnOk X.prog X.w X.K X.mg X.base (L2.CX X.prog X.w) k f fd ps (spD X.K S)) (hr : Room k X.A) (hm : X.mg x = some (.ref f)) (hk : PySem.W.keepIn X.K (.ref f) = true) (hb : Binds X.K fd ps us) (hd : Vals dvs us) (hdd : ∀ G, Reps X.K G dds dvs)
    (h : EvA X W R (e :: es) δ I fun ds I1 => S I1 (ds ++ dds) P R) (hg : Gl X x := by rfl) (hdb : (x == ("__debug__" : Str)) = false := by decide)
    (he : starEach (e :: es) X.env = (false, eval e X.env) :: starEach es X.env := by rfl) (hpl : (backTo pos (starEach es X.env)).any (·.1) = false := by rfl) : EvX X W R (.Call (.Name x p) (e :: es) [] pos) δ I P := fun σ G H Q hE s hI qx q =>
  PE.wp (pe_callSD F hr hg hm hk hb hd (fun σ => passAt tk σ) paC hdb he hpl) (h σ G H _ hE s hI qx fun vs ds G1 H1 I1 s1 t1 h1 r1 k1 =>
    ⟨I1, G1, ds ++ dds, P, R, t1, h1, r1.append (hdd G1), k1, q.mono s1, fun C dd fs l G' H' I' s2 t2 h2 r2 hx p => qx C dd fs l G' H' I' (s1.trans s2) t2 h2 r2 hx p⟩)
end
theorem takesF {X : Cx} : Takes X (fun _ _ _ _ => False) := takes0
section
variable {X : Cx} {I : Iv X.K} {e : Expr} {es : List Expr} {δ : DEnv} {pos p : Pos} {x : Str} {f : Addr} {fd : FuncData} {ps : List Str} {k : Nat} {S : Spec X.K} {dvs : List V} {ds dds : List D} {us : List Value} {d : D}
theorem EvX.weak {W : WX} {R : Rx X.K} {P : D → Iv X.K → Prop} (h : EvX X (fun _ _ _ _ => False) (fun _ _ _ => False) e δ I P) : EvX X W R e δ I P := fun σ G H Q hE s hI qx q => h σ G H Q hE s hI (fun _ _ _ _ _ _ _ _ _ _ _ _ z => z.elim) q
theorem pv_callD (F : FnOk X.prog X.w X.K X.mg X.base (L2.CX X.prog X.w) k f fd ps (spD X.K S)) (hr : Room k X.A) (hm : X.mg x = some (.ref f)) (hk : PySem.W.keepIn X.K (.ref f) = true) (hb : Binds X.K fd ps us) (hd : Vals dvs us) (hdd : ∀ G, Reps X.K G dds dvs)
    (ha : PVA X I (e :: es) δ ds) (hS : ∀ (P : D → Iv X.K → Prop), P d I → S I (ds ++ dds) P (fun _ _ _ => False)) (hg : Gl X x := by rfl) (hdb : (x == ("__debug__" : Str)) = false := by decide)
    (he : starEach (e :: es) X.env = (false, eval e X.env) :: starEach es X.env := by rfl) (hpl : (backTo pos (starEach es X.env)).any (·.1) = false := by rfl) : PV X I (.Call (.Name x p) (e :: es) [] pos) δ d := fun W R P q =>
  EvX.weak (ev_callD takesF F hr hm hk hb hd hdd (ha _ _ _ (hS P q)) hg hdb he hpl)
end

section
variable {K : PySem.W.Frag} {I : Iv K} {x y z d : D} {i j : Int}
theorem p2_I0 {g : Int → Int → V} {z : D} (h : ∀ G, Rep K G z (g i j)) : P2 K I (rI0 g) (.int i) (.int j) z := fun P p G H v w Q s hI r1 r2 q => ⟨i, j, r1, r2, q _ z G H I (Same.refl G) s hI (h G) p⟩
theorem p2_I {C : Int → Int → Prop} {g : Int → Int → V} {z : D} (h : ∀ G, Rep K G z (g i j)) (c : C i j) : P2 K I (rI C g) (.int i) (.int j) z := fun P p G H v w Q s hI r1 r2 q => ⟨i, j, r1, r2, c, q _ z G H I (Same.refl G) s hI (h G) p⟩
theorem p2_add : P2 K I (rI0 fun i j => .int (i + j)) (.int i) (.int j) (.int (i + j)) := p2_I0 fun _ => rfl
theorem p2_sub : P2 K I (rI0 fun i j => .int (i - j)) (.int i) (.int j) (.int (i - j)) := p2_I0 fun _ => rfl
theorem p2_mul (h : CMul i j) : P2 K I (rI CMul fun i j => .int (i * j)) (.int i) (.int j) (.int (i * j)) := p2_I (fun _ => rfl) h
theorem p2_fdiv (h : CDivN i j) : P2 K I (rI CDivN fun i j => .int (i.fdiv j)) (.int i) (.int j) (.int (i.fdiv j)) := p2_I (fun _ => rfl) h
theorem p2_mod (h : j ≠ 0) : P2 K I (rI (fun _ j => j ≠ 0) fun i j => .int (i.fmod j)) (.int i) (.int j) (.int (i.fmod j)) := p2_I (fun _ => rfl) h
theorem p2_pow (h : CPow i j) : P2 K I (rI CPow fun i j => .int (i ^ j.toNat)) (.int i) (.int j) (.int (i ^ j.toNat)) := p2_I (fun _ => rfl) h
theorem p2_lt : P2 K I (rI0 fun i j => .bl (decide (i < j))) (.int i) (.int j) (.bl (decide (i < j))) := p2_I0 fun _ => rfl
theorem p2_le : P2 K I (rI0 fun i j => .bl (decide (i ≤ j))) (.int i) (.int j) (.bl (decide (i ≤ j))) := p2_I0 fun _ => rfl
theorem p2_gt : P2 K I (rI0 fun i j => .bl (decide (j < i))) (.int i) (.int j) (.bl (decide (j < i))) := p2_I0 fun _ => rfl
theorem p2_ge : P2 K I (rI0 fun i j => .bl (decide (j ≤ i))) (.int i) (.int j) (.bl (decide (j ≤ i))) := p2_I0 fun _ => rfl
def flatD : D → Option V
  | .non => some .non
  | .bl b => some (.bl b)
  | .int i => some (.int i)
  | .str s => some (.str s)
  | .ty n => some (.ty n)
  | _ => none
theorem Rep.flat {G : Hp} {v u : V} : ∀ {d : D}, Rep K G d v → flatD d = some u → v = u
  | .non, r, h => by cases h; exact r
  | .bl _, r, h => by cases h; exact r
  | .int _, r, h => by cases h; exact r
  | .str _, r, h => by cases h; exact r
  | .ty _, r, h => by cases h; exact r
  | .adr _, _, h => by cases h
  | .tup _, _, h => by cases h
  | .lst _, _, h => by cases h
  | .lsf _, _, h => by cases h
  | .tub _, _, h => by cases h
  | .slo _ _, _, h => by cases h
  | .exc _ _ _ _ _, _, h => by cases h
  | .dic _ _, _, h => by cases h
theorem p2_eq {v u : V} {b : Bool} (hx : flatD x = some v) (hy : flatD y = some u) (hs : scal v u = true) (hb : decide (v = u) = b) : P2 K I rEq x y (.bl b) := fun P p G H v' w Q s hI r1 r2 q => by
  rw [r1.flat hx, r2.flat hy]
  exact ⟨hs, by rw [hb]; exact q _ (.bl b) G H I (Same.refl G) s hI rfl p⟩
theorem p2_ne {v u : V} {b : Bool} (hx : flatD x = some v) (hy : flatD y = some u) (hs : scal v u = true) (hb : (!decide (v = u)) = b) : P2 K I rNe x y (.bl b) := fun P p G H v' w Q s hI r1 r2 q => by
  rw [r1.flat hx, r2.flat hy]
  exact ⟨hs, by rw [hb]; exact q _ (.bl b) G H I (Same.refl G) s hI rfl p⟩
theorem eqV_str (s t : Str) : P2 K I rEq (.str s) (.str t) (.bl (decide (s = t))) := p2_eq rfl rfl rfl (by simp)
theorem neV_str (s t : Str) : P2 K I rNe (.str s) (.str t) (.bl (!decide (s = t))) := p2_ne rfl rfl rfl (by simp)
theorem eqV_int (s t : Int) : P2 K I rEq (.int s) (.int t) (.bl (decide (s = t))) := p2_eq rfl rfl rfl (by simp)
theorem atI_rep {G : Hp} {ds : List D} {vs : List V} (r : Reps K G ds vs) (h : atI ds i = some d) : ∃ v, atI vs i = some v ∧ Rep K G d v := by
  unfold atI at h ⊢
  rw [r.length]
  cases e : ixN ds.length i with
  | none => rw [e] at h; cases h
  | some j =>
    rw [e] at h
    exact r.get (show ds[j]? = some d from h)
theorem p2_ixL {ds : List D} (h : atI ds i = some d) : P2 K I (rIxL K) (.lst ds) (.int i) d := fun P p G H v w Q s hI ⟨a, vs, e1, e2, e3⟩ r2 q => by
  obtain ⟨u, h1, h2⟩ := atI_rep e3 h
  exact ⟨a, vs, i, u, e1, r2, SqL.of (s _ _ e2), h1, q u d G H I (Same.refl G) s hI h2 p⟩
theorem p2_ixT {ds : List D} (h : atI ds i = some d) : P2 K I (rIxT K) (.tup ds) (.int i) d := fun P p G H v w Q s hI ⟨a, vs, e1, e2, e3⟩ r2 q => by
  obtain ⟨u, h1, h2⟩ := atI_rep e3 h
  exact ⟨a, vs, i, u, e1, r2, sqT_mono s e2, h1, q u d G H I (Same.refl G) s hI h2 p⟩
theorem p2_ixS {z : Str} {c : Nat} (hl : z.length ≤ sizeLine) (h : atI z.cps.toList i = some c) : P2 K I rIxS (.str z) (.int i) (.str ⟨#[c]⟩) := fun P p G H v w Q s hI r1 r2 q =>
  ⟨z, i, c, r1, r2, hl, h, q _ (.str ⟨#[c]⟩) G H I (Same.refl G) s hI rfl p⟩
def flatDs : List D → Option (List V)
  | [] => some []
  | d :: ds => match flatD d, flatDs ds with
    | some v, some vs => some (v :: vs)
    | _, _ => none
theorem Reps.flat {G : Hp} : ∀ {ds : List D} {vs us : List V}, Reps K G ds vs → flatDs ds = some us → vs = us
  | [], vs, us, r, h => by
    have e : ([] : List V) = us := Option.some.inj h
    rw [← e]
    exact r
  | d :: ds, vs, us, ⟨v, r, e1, e2, e3⟩, h => by
    unfold flatDs at h
    cases h1 : flatD d with
    | none => rw [h1] at h; cases h
    | some u =>
      cases h2 : flatDs ds with
      | none => rw [h1, h2] at h; cases h
      | some us' =>
        rw [h1, h2] at h
        have e := Option.some.inj h
        rw [← e, e1, e2.flat h1, Reps.flat e3 h2]
theorem p2_in {ds : List D} {v : V} {us : List V} {neg b : Bool} (hx : flatD x = some v) (hy : flatDs ds = some us) (h1 : flatV v = true) (h2 : us.all flatV = true) (hb : (if neg then !inV v us else inV v us) = b) (hc : y = .lst ds ∨ y = .tup ds) : P2 K I (rIn K neg) x y (.bl b) := fun P p G H v' w Q s hI r1 r2 q => by
  have e1 := r1.flat hx
  subst e1
  have r3 : ∃ a, w = .ref a ∧ (SqL K G a us ∨ SqT K G a us) := by
    rcases hc with e | e
    · subst e
      obtain ⟨a, vs, e1, e2, e3⟩ := r2
      rw [e3.flat hy] at e2
      exact ⟨a, e1, .inl (SqL.of e2)⟩
    · subst e
      obtain ⟨a, vs, e1, e2, e3⟩ := r2
      rw [e3.flat hy] at e2
      exact ⟨a, e1, .inr e2⟩
  obtain ⟨a, ea, sq⟩ := r3
  exact ⟨a, us, ea, sq.elim (fun z => .inl (sqL_mono s z)) (fun z => .inr (sqT_mono s z)), h1, h2, by rw [hb]; exact q _ (.bl b) G H I (Same.refl G) s hI rfl p⟩
theorem pn_int : PN K I (fun xs H Q => (∃ i, xs = [.int i] ∧ Q (.int i) H) ∨ ∃ k, xs = [.bl k] ∧ Q (.int (if k then 1 else 0)) H) [.int i] (.int i) := fun P p G H vs Q s hI ⟨v, r, e1, e2, e3⟩ q =>
  .inl ⟨i, by rw [e1, show v = .int i from e2, show r = [] from e3], q _ (.int i) G H I (Same.refl G) s hI rfl p⟩
theorem pn_max2 : PN K I (fun xs H Q => ∃ i j, xs = [.int i, .int j] ∧ Q (.int (if j > i then j else i)) H) [.int i, .int j] (.int (if j > i then j else i)) := fun P p G H vs Q s hI ⟨v, r, e1, e2, v2, r2, e3, e4, e5⟩ q =>
  ⟨i, j, by rw [e1, e3, show v = .int i from e2, show v2 = .int j from e4, show r2 = [] from e5], q _ (.int (if j > i then j else i)) G H I (Same.refl G) s hI rfl p⟩
theorem pn_lenL {ds : List D} : PN K I (fun xs H Q => ∃ p ys, xs = [.ref p] ∧ (SqL K H p ys ∨ SqT K H p ys) ∧ Q (.int ys.length) H) [.lst ds] (.int ds.length) := fun P p G H vs Q s hI ⟨v, r, e1, ⟨a, ws, e2, e3, e4⟩, e5⟩ q =>
  ⟨a, ws, by rw [e1, e2, show r = [] from e5], .inl (SqL.of (s _ _ e3)), by rw [e4.length]; exact q _ (.int ds.length) G H I (Same.refl G) s hI rfl p⟩
theorem pn_lenT {ds : List D} : PN K I (fun xs H Q => ∃ p ys, xs = [.ref p] ∧ (SqL K H p ys ∨ SqT K H p ys) ∧ Q (.int ys.length) H) [.tup ds] (.int ds.length) := fun P p G H vs Q s hI ⟨v, r, e1, ⟨a, ws, e2, e3, e4⟩, e5⟩ q =>
  ⟨a, ws, by rw [e1, e2, show r = [] from e5], .inr (sqT_mono s e3), by rw [e4.length]; exact q _ (.int ds.length) G H I (Same.refl G) s hI rfl p⟩
theorem pn_all {bs : List Bool} : PN K I (rAll K) [.lst (bs.map D.bl)] (.bl (bs.all id)) := fun P p G H vs Q s hI ⟨v, r, e1, ⟨a, ws, e2, e3, e4⟩, e5⟩ q => by
  have e6 : ∀ {bs : List Bool} {ws : List V}, Reps K G (bs.map D.bl) ws → ws = bs.map V.bl := by
    intro bs
    induction bs with
    | nil => intro ws h; exact h
    | cons b bs ih =>
      intro ws ⟨v, r, h1, h2, h3⟩
      rw [h1, show v = .bl b from h2, ih h3]
      rfl
  refine ⟨a, bs, by rw [e1, e2, show r = [] from e5], ?_, q _ (.bl (bs.all id)) G H I (Same.refl G) s hI rfl p⟩
  rw [e6 e4] at e3
  exact SqL.of (s _ _ e3)
def tyD : D → Option String
  | .non => some "NoneType"
  | .bl _ => some "bool"
  | .int _ => some "int"
  | .str _ => some "str"
  | .tup _ => some "tuple"
  | .lst _ => some "list"
  | .lsf _ => some "list"
  | .dic _ _ => some "dict"
  | _ => none
theorem tyX_of {G H : Hp} {v : V} {t : String} (s : Same G H) : ∀ {d : D}, Rep K G d v → tyD d = some t → TyX K H v (.type t)
  | .non, r, h => by cases h; rw [show v = .non from r]; exact .base .non
  | .bl _, r, h => by cases h; rw [show v = .bl _ from r]; exact .base (.bl _)
  | .int _, r, h => by cases h; rw [show v = .int _ from r]; exact .base (.int _)
  | .str _, r, h => by cases h; rw [show v = .str _ from r]; exact .base (.str _)
  | .ty _, _, h => by cases h
  | .adr _, _, h => by cases h
  | .slo _ _, _, h => by cases h
  | .tub _, _, h => by cases h
  | .exc _ _ _ _ _, _, h => by cases h
  | .dic _ _, ⟨a, od, vs, e1, e2, _, _⟩, h => by
    cases h
    rw [e1]
    exact .fDict (s _ _ e2)
  | .tup _, ⟨a, vs, e1, e2, _⟩, h => by
    cases h
    rw [e1]
    rcases e2 with (e2 | ⟨o, e2⟩) | ⟨o, its, n, e2, e3, _⟩
    · exact .base (.tup (s _ _ e2))
    · exact .fTuple (s _ _ e2)
    · exact .kTuple e2 e3
  | .lst _, ⟨a, vs, e1, e2, _⟩, h => by
    cases h
    rw [e1]
    exact .base (.lst (s _ _ e2))
  | .lsf _, ⟨a, vs, e1, e2, _⟩, h => by
    cases h
    rw [e1]
    rcases e2 with (e2 | ⟨o, e2⟩) | ⟨o, its, n, e2, e3, _⟩
    · exact .base (.lst (s _ _ e2))
    · exact .base (.frz (s _ _ e2))
    · exact .kList e2 e3
theorem pn_isi {t u : String} {b : Bool} (h : tyD d = some t) (hb : kitB t u = some b := by decide +kernel) : PN K I (rIsi K) [d, .ty u] (.bl b) := fun P p G H vs Q s hI ⟨v, r, e1, e2, v2, r2, e3, e4, e5⟩ q =>
  ⟨v, .ty u, .type t, .type u, b, by rw [e1, e3, show v2 = .ty u from e4, show r2 = [] from e5], .ty u, tyX_of s e2 h, kit_ty hb, q _ (.bl b) G H I (Same.refl G) s hI rfl p⟩
end
end DL
set_option Elab.async false
set_option linter.all false
set_option maxRecDepth 100000
set_option maxHeartbeats 4000000
namespace DL
open PySem PySem.Spec PyProof.Rows L2

def rAddS' : R2 := fun x y H Q => ∃ i j, x = .str i ∧ y = .str j ∧ i.length + j.length ≤ sizeLine ∧ Q (.str (i ++ j)) H
theorem op_addT {X : Cx} : OpR X (binaryOp .Add) rAddS' := op_add_str
def rSignIn : R2 := fun x y H Q => ∃ (c : Nat) (z : Str), x = .str ⟨#[c]⟩ ∧ y = .str z ∧ Q (.bl (decide (c ∈ z.cps.toList))) H
theorem op_signIn {X : Cx} : OpR X (compareOp .In) rSignIn := op_in_sign
section
variable {K : PySem.W.Frag} {I : Iv K} {x y z d : D} {i j : Int}
theorem p2_addT {s t : Str} (h : s.length + t.length ≤ 100000) : P2 K I rAddS' (.str s) (.str t) (.str (s ++ t)) := fun P p G H v w Q sm hI r1 r2 q => ⟨s, t, r1, r2, by rw [sizeLine_eq]; omega, q _ (.str (s ++ t)) G H I (Same.refl G) sm hI rfl p⟩
theorem p2_signIn {c : Nat} {s : Str} : P2 K I rSignIn (.str ⟨#[c]⟩) (.str s) (.bl (decide (c ∈ s.cps.toList))) := fun P p G H v w Q sm hI r1 r2 q => ⟨c, s, r1, r2, q _ (.bl (decide (c ∈ s.cps.toList))) G H I (Same.refl G) sm hI rfl p⟩
theorem pn_lenS {s : Str} (h : s.length ≤ 100000) : PN K I (fun xs H Q => ∃ z, xs = [.str z] ∧ z.length ≤ sizeLine ∧ Q (.int z.length) H) [.str s] (.int s.length) := fun P p G H vs Q sm hI ⟨v, r, e1, e2, e5⟩ q =>
  ⟨s, by rw [e1, show v = .str s from e2, show r = [] from e5], by rw [sizeLine_eq]; omega, q _ (.int s.length) G H I (Same.refl G) sm hI rfl p⟩
end
section
variable {X : Cx} {W : WX} {R : Rx X.K} {a b e o tg iter : Expr} {es : List Expr} {δ : DEnv} {I : Iv X.K} {P : D → Iv X.K → Prop} {pos p apos : Pos} {x : Str} {d z : D}
theorem repsStr {K : PySem.W.Frag} {G : Hp} : ∀ {ss : List Str} {vs : List V}, Reps K G (ss.map D.str) vs → vs = ss.map V.str
  | [], vs, h => h
  | s :: ss, vs, ⟨v, r, e1, e2, e3⟩ => by rw [e1, show v = .str s from e2, repsStr e3]; rfl
theorem ev_join {sep : Str} (ho : PV X I o δ (.str sep)) (h : EvX X W R e δ I fun d I1 => ∃ ss : List Str, d = .lst (ss.map D.str) ∧ (ss.map (·.length)).sum + ss.length * sep.length ≤ 16777216 ∧ P (.str (Txt.join sep ss)) I1)
    (hs : starEach [e] X.env = [(false, eval e X.env)] := by rfl) (hbase : attributeBase o "join" X.env (eval o X.env) = eval o X.env := by rfl) (hline : (apos.endLine == pos.line) = true := by rfl) : EvX X W R (.Call (.Attribute o "join" apos) [e] [] pos) δ I P := fun σ G H Q hE s hI qx q =>
  PE.wp (pe_join peC peC hs hbase hline) (ho W R (fun z I1 => z = .str sep ∧ I1 = I) ⟨rfl, rfl⟩ σ G H _ hE s hI qx fun v d G1 H1 I1 s1 t1 h1 r1 ⟨ed, ei⟩ => by
    subst ed ei
    obtain rfl : v = .str sep := r1
    refine ⟨⟨sep, rfl⟩, h σ G1 H1 _ (hE.mono s1) t1 h1 (qx.mono s1) fun w d2 G2 H2 I2 s2 t2 h2 r2 ⟨ss, e2, hz, p2⟩ => ?_⟩
    subst e2
    obtain ⟨a, vs, e3, e4, e5⟩ := r2
    have e6 := repsStr e5
    subst e6
    exact ⟨sep, a, ss, rfl, by rw [e3], .inl (SqL.of (t2 _ _ e4)), hz, q _ (.str (Txt.join sep ss)) G2 H2 I2 (s1.trans s2) t2 h2 rfl p2⟩)
theorem walk_dL {K : PySem.W.Frag} {a : Addr} {ds : List D} {vs : List V} {G : Hp} (h : SqL K G a vs) (r : Reps K G ds vs) : WalkD K (Itl K a) ds G := by
  have hl := r.length
  refine ⟨fun i G' H' s1 s2 hi => (walk_list (K := K) (a := a) (xs := vs)).goes i H' (by omega) (sqL_mono (s1.trans s2) h), fun G' H' s1 s2 => by rw [← hl]; exact walk_list.stops H' (sqL_mono (s1.trans s2) h), fun i G' H' I x H'' s1 s2 hI hi y => ?_⟩
  obtain ⟨eH, ex⟩ := (walk_list (K := K) (a := a) (xs := vs)).yields i H' x H'' (by omega) (sqL_mono (s1.trans s2) h) y
  subst eH
  obtain ⟨d, hd⟩ : ∃ d, ds[i]? = some d := ⟨ds[i], by simp [hi]⟩
  obtain ⟨v, h1, h2⟩ := r.get hd
  rw [ex] at h1
  cases h1
  exact ⟨G', Same.refl _, s2, hI, fun _ _ z => z, d, hd, h2.mono s1⟩
theorem walk_dT {K : PySem.W.Frag} {a : Addr} {ds : List D} {vs : List V} {G : Hp} (h : SqT K G a vs) (r : Reps K G ds vs) : WalkD K (Itt K a) ds G := by
  have hl := r.length
  refine ⟨fun i G' H' s1 s2 hi => (walk_tup (K := K) (a := a) (xs := vs)).goes i H' (by omega) (sqT_mono (s1.trans s2) h), fun G' H' s1 s2 => by rw [← hl]; exact walk_tup.stops H' (sqT_mono (s1.trans s2) h), fun i G' H' I x H'' s1 s2 hI hi y => ?_⟩
  obtain ⟨eH, ex⟩ := (walk_tup (K := K) (a := a) (xs := vs)).yields i H' x H'' (by omega) (sqT_mono (s1.trans s2) h) y
  subst eH
  obtain ⟨d, hd⟩ : ∃ d, ds[i]? = some d := ⟨ds[i], by simp [hi]⟩
  obtain ⟨v, h1, h2⟩ := r.get hd
  rw [ex] at h1
  cases h1
  exact ⟨G', Same.refl _, s2, hI, fun _ _ z => z, d, hd, h2.mono s1⟩
theorem ei_lst (h : EvX X W R iter δ I fun d I1 => ∃ ds, (d = .lst ds ∨ d = .lsf ds) ∧ PP ds I1) : EvI X W R tg iter δ I PP := fun σ G H RR hE s hI qx q =>
  PI.wp (pi_list peC) (h σ G H _ hE s hI qx fun v d G1 H1 I1 s1 t1 h1 r1 ⟨ds, ed, pp⟩ => by
    have k : ∃ a vs, v = .ref a ∧ SqL X.K G1 a vs ∧ Reps X.K G1 ds vs := by
      rcases ed with e | e
      · subst e
        obtain ⟨a, vs, e1, e2, e3⟩ := r1
        exact ⟨a, vs, e1, SqL.of e2, e3⟩
      · subst e
        exact r1
    obtain ⟨a, vs, e1, e2, e3⟩ := k
    exact ⟨a, e1, ⟨vs, sqL_mono t1 e2⟩, q _ ds G1 H1 I1 s1 t1 h1 (walk_dL e2 e3) pp⟩)
theorem ei_tup (h : EvX X W R iter δ I fun d I1 => ∃ ds, d = .tup ds ∧ PP ds I1) : EvI X W R tg iter δ I PP := fun σ G H RR hE s hI qx q =>
  PI.wp (pi_tup peC) (h σ G H _ hE s hI qx fun v d G1 H1 I1 s1 t1 h1 r1 ⟨ds, ed, pp⟩ => by
    subst ed
    obtain ⟨a, vs, e1, e2, e3⟩ := r1
    exact ⟨a, e1, ⟨vs, sqT_mono t1 e2⟩, q _ ds G1 H1 I1 s1 t1 h1 (walk_dT e2 e3) pp⟩)
theorem ei_str (h : EvX X W R iter δ I fun d I1 => ∃ w : Str, d = .str w ∧ PP (w.cps.toList.map fun c => D.str ⟨#[c]⟩) I1) : EvI X W R tg iter δ I PP := fun σ G H RR hE s hI qx q =>
  PI.wp (pi_str peC) (h σ G H _ hE s hI qx fun v d G1 H1 I1 s1 t1 h1 r1 ⟨w, ed, pp⟩ => by
    subst ed
    refine ⟨w, r1, q _ _ G1 H1 I1 s1 t1 h1 ⟨fun i G' H' _ _ hi => walk_str.goes i H' (by simpa using hi) trivial, fun G' H' _ _ => by rw [List.length_map, Array.length_toList]; exact walk_str.stops H' trivial, fun i G' H' I x H'' s1 s2 hI hi y => ?_⟩ pp⟩
    obtain ⟨eH, c, ec, ex⟩ := (walk_str (z := w)).yields i H' x H'' (by simpa using hi) trivial y
    subst eH ex
    exact ⟨G', Same.refl _, s2, hI, fun _ _ z => z, .str ⟨#[c]⟩, by rw [List.getElem?_map, Array.getElem?_toList, ec]; rfl, rfl⟩)
def intsFrom (lo : Int) (n : Nat) : List D := (List.range n).map fun i => D.int (lo + (i : Nat))
theorem walk_dR {K : PySem.W.Frag} {lo : Int} {n : Nat} {G : Hp} : WalkD K (Itr lo n) (intsFrom lo n) G := by
  have hl : (intsFrom lo n).length = n := by unfold intsFrom; simp
  refine ⟨fun i G' H' _ _ hi => walk_range.goes i H' (by omega) trivial, fun G' H' _ _ => by rw [hl]; exact walk_range.stops H' trivial, fun i G' H' I x H'' s1 s2 hI hi y => ?_⟩
  obtain ⟨eH, ex⟩ := (walk_range (lo := lo) (n := n)).yields i H' x H'' (by omega) trivial y
  subst eH ex
  exact ⟨G', Same.refl _, s2, hI, fun _ _ z => z, .int (lo + (i : Nat)), by unfold intsFrom; rw [List.getElem?_map, List.getElem?_range (by omega)]; rfl, rfl⟩
theorem ei_range1 (hm : X.mg "range" = none) (h : EvX X W R a δ I fun d I1 => ∃ n : Int, d = .int n ∧ n < 1000000 ∧ -1000000 < n ∧ PP (intsFrom 0 n.toNat) I1) (hg : Gl X "range" := by rfl) (hst : starEach [a] X.env = [(false, eval a X.env)] := by rfl) (hpl : (backTo pos (starEach [] X.env)).any (·.1) = false := by rfl) : EvI X W R tg (.Call (.Name "range" p) [a] [] pos) δ I PP := fun σ G H RR hE s hI qx q =>
  PI.wp (pi_range1 hg hm (pa_cons peC pa_nil hst) (hs := hst)) (h σ G H _ hE s hI qx fun v d G1 H1 I1 s1 t1 h1 r1 ⟨n, ed, b1, b2, pp⟩ => by
    subst ed
    exact ⟨n, by rw [show v = .int n from r1], by omega, by omega, q _ _ G1 H1 I1 s1 t1 h1 walk_dR pp⟩)
theorem vi_lst {ds : List D} (h : PV X I iter δ (.lst ds)) : PVI X I tg iter δ ds := fun W R P p => ei_lst (h W R _ ⟨ds, .inl rfl, p⟩)
theorem vi_tup {ds : List D} (h : PV X I iter δ (.tup ds)) : PVI X I tg iter δ ds := fun W R P p => ei_tup (h W R _ ⟨ds, rfl, p⟩)
theorem vi_str {w : Str} (h : PV X I iter δ (.str w)) : PVI X I tg iter δ (w.cps.toList.map fun c => D.str ⟨#[c]⟩) := fun W R P p => ei_str (h W R _ ⟨w, rfl, p⟩)
structure wpTs (X : Cx) (ifs : List Expr) (σ : L2.St) (H : Hp) (Q : Bool → Hp → Prop) : Prop where
  run : ∀ (pins : List (Addr × Obj)) (s : Shared), Inv X pins σ H s → wpAny (model X.prog X.w) X.A (forIn ifs true fun c r => if r = true then do let ok ← isTrue c X.env (eval c X.env); pure (ForInStep.yield ok) else pure (ForInStep.yield r)) (TP X pins σ Q) X.xe s
def EvTs (X : Cx) (W : WX) (R : Rx X.K) (ifs : List Expr) (δ : DEnv) (I : Iv X.K) (P : Bool → Iv X.K → Prop) : Prop := ∀ (σ : L2.St) (G H : Hp) (Q : Bool → Hp → Prop), EnvR X.K G δ σ → Same G H → Hd I G H → Kx X.K W σ G R → Kb X.K Q G P → wpTs X ifs σ H Q
theorem ets_nil {PB : Bool → Iv X.K → Prop} (p : PB true I) : EvTs X W R [] δ I PB := fun σ G H Q hE s hI qx q => ⟨fun pins s1 J => pts_nil.run pins s1 σ H Q J (q true G H I (Same.refl G) s hI p)⟩
abbrev W0 : WX := fun _ _ _ _ => False
abbrev R0 {K : PySem.W.Frag} : Rx K := fun _ _ _ => False
theorem kx0 {K : PySem.W.Frag} {σ : L2.St} {G : Hp} : Kx K W0 σ G R0 := fun _ _ _ _ _ _ _ _ _ _ _ _ z => z.elim
theorem ev_lc {elt : Expr} {ifs : List Expr} {scope : Scope} (own : List (Str × Nat)) (hN : X.N.Nodup) (ok : BlkOk X.N X.env.scope scope own)
    (h : EvI X W R tg iter δ I fun ds I1 => ds.length ≤ 1000000 ∧ ∃ (Nv : Nat → List D → Prop) (δ' : D → DEnv), Nv 0 [] ∧ (∀ i d ys, ds[i]? = some d → Nv i ys → ∃ T : Bool → Prop, (∀ (J : Iv X.K) (s : Shared) (H : Hp) (C : Addr) (cl : List (Str × Addr)) (fp : List Addr),
        BindD (X.blk s H scope (compEnvC scope cl C X.env) fp) tg d (wipeD δ (own.map (·.2))) (δ' d) (own.map (·.2)) ∧
        EvTs (X.blk s H scope (compEnvC scope cl C X.env) fp) W0 R0 ifs (δ' d) (I1.and J) fun b I2 => I2 = I1.and J ∧ T b) ∧
        (T true → ∀ (J : Iv X.K) (s : Shared) (H : Hp) (C : Addr) (cl : List (Str × Addr)) (fp : List Addr), EvX (X.blk s H scope (compEnvC scope cl C X.env) fp) W0 R0 elt (δ' d) (I1.and J) fun y I3 => I3 = I1.and J ∧ Nv (i + 1) (ys ++ [y])) ∧ (T false → Nv (i + 1) ys)) ∧
      ∀ ys, Nv ds.length ys → P (.lst ys) I1)
    (hc : X.calm = true := by rfl) (hs : ∀ x, foldedSetIterable iter X.env x = pure x := by intro _; rfl) : EvX X W R (.ListComp elt [⟨tg, iter, ifs, 0⟩] scope pos) δ I P := fun σ G H Q hE s hI qx q => by
  refine PE.wp (pe_lc (wi := wpI X tg iter) (g := fun v σ H Q => ∀ s0 H0 C cl fp, wpG (X.blk s0 H0 scope (compEnvC scope cl C X.env) fp) tg v σ H Q) (tt := fun σ H Q => ∀ s0 H0 C cl fp, wpTs (X.blk s0 H0 scope (compEnvC scope cl C X.env) fp) ifs σ H Q)
    (te := fun σ H Q => ∀ s0 H0 C cl fp, wpE (X.blk s0 H0 scope (compEnvC scope cl C X.env) fp) elt σ H Q) hc hN piC ok
    (fun s0 H0 C cl fp => ⟨fun pins s σ H v u Q J r k => (k s0 H0 C cl fp).run pins s u J r⟩) (fun s0 H0 C cl fp => ⟨fun pins s σ H Q J k => (k s0 H0 C cl fp).run pins s J⟩) (fun s0 H0 C cl fp => ⟨fun pins s σ H Q J k => (k s0 H0 C cl fp).run pins s J⟩) hs) ?_
  refine h σ G H _ hE s hI qx fun J ds G1 H1 I1 s1 t1 h1 wk ⟨hz, Nv, δ', n0, step, fin⟩ D hD => ?_
  have gD : G1 D = none := t1.free hD
  have apart : ∀ a, ¬ (I1.F a ∧ a = D) := fun a ha => h1.dom ha.1 (by rw [ha.2]; exact hD)
  refine ⟨fun i m H' => m = ds.length - i ∧ i ≤ ds.length ∧ ∃ ys G', Nv i ys ∧ ys.length ≤ i ∧ Same G1 G' ∧ Same G' H' ∧ Hd (I1.and (iLst X.K D ys)) G' H', ⟨_, rfl, Nat.zero_le _, [], G1, n0, Nat.le_refl _, Same.refl _, same_upd t1 gD, ?_⟩, ?_⟩
  · exact Hd.mk2 (h1.newp hD) ⟨⟨_, upd_same, [], rfl, rfl⟩, fun a ha => by rw [show a = D from ha]; exact gD⟩ apart
  · rintro i m H' ⟨rfl, hi, ys, G', nv, hy, s2, t2, hd2⟩
    by_cases hlt : i < ds.length
    · refine .inr ⟨wk.go i G' H' s2 t2 hlt, fun H3 => ∃ ys3 G3, Nv (i + 1) ys3 ∧ ys3.length ≤ i + 1 ∧ Same G1 G3 ∧ Same G3 H3 ∧ Hd (I1.and (iLst X.K D ys3)) G3 H3, fun H3 ⟨ys3, G3, q1, q2, q3, q4, q5⟩ => ⟨ds.length - (i + 1), by omega, rfl, hlt, ys3, G3, q1, q2, q3, q4, q5⟩, fun x H3 hyl => ?_⟩
      obtain ⟨G3, s3, t3, h3, _, d, hd, rd⟩ := wk.yld i G' H' _ x H3 s2 t2 hd2 hlt hyl
      obtain ⟨T, stA, stB, stC⟩ := step i d ys hd nv
      intro s0 H0 C cl fp
      refine (stA (iLst X.K D ys) s0 H0 C cl fp).1 x _ G3 H3 _ (((hE.mono s1).mono (s2.trans s3)).wipe _) t3 rd fun σ4 e4 ew => ⟨by rw [ew, wipe_wipe], ?_⟩
      intro s0 H0 C cl fp
      refine (stA (iLst X.K D ys) s0 H0 C cl fp).2 σ4 G3 H3 _ e4 t3 h3 kx0 fun b G4 H4 I4 s4 t4 h4 ⟨eI, pb⟩ => ?_
      subst eI
      cases b with
      | false => exact ⟨ys, G4, stC pb, by omega, (s2.trans s3).trans s4, t4, h4⟩
      | true =>
        intro s0 H0 C cl fp
        refine stB pb (iLst X.K D ys) s0 H0 C cl fp σ4 G4 H4 _ (e4.mono s4) t4 h4 kx0 fun y dy G5 H5 I5 s5 t5 h5 r5 ⟨eI, nv5⟩ => ?_
        subst eI
        obtain ⟨o, ho, vs, ev, rv⟩ := h5.right.ph
        subst ev
        have g5 : G5 D = none := h5.right.fr D rfl
        refine ⟨vs, ho, ?_, ys ++ [dy], G5, nv5, by simp; omega, ((s2.trans s3).trans s4).trans s5, same_upd t5 g5, ?_⟩
        · rw [rv.length, sizeLine_eq]; omega
        · refine Hd.mk2 (h5.left.chg fun hf => apart D ⟨hf, rfl⟩) ⟨⟨_, upd_same, _, rfl, rv.append (Reps.one r5)⟩, h5.right.fr⟩ apart
    · have ei : i = ds.length := by omega
      subst ei
      obtain ⟨o, ho, vs, ev, rv⟩ := hd2.right.ph
      subst ev
      have g5 : G' D = none := hd2.right.fr D rfl
      refine .inl ⟨wk.stop G' H' s2 t2, q (.ref D) (.lst ys) (upd G' D (.lst vs)) H' I1 ((s1.trans s2).trans (Evl.Ex.new g5)) (same_freeze t2 ho) ?_ ⟨D, vs, rfl, upd_same, rv.mono (Evl.Ex.new g5)⟩ (fin ys nv)⟩
      exact ⟨I1.loc G' _ H' H' (Evl.Ex.new g5) (fun _ _ => rfl) hd2.left.ph, fun a ha => by rw [upd_ne fun e => apart a ⟨ha, e⟩]; exact hd2.left.fr a ha⟩
end
end DL
set_option Elab.async false
set_option linter.all false
set_option maxRecDepth 100000
set_option maxHeartbeats 4000000
namespace DL
open PySem PySem.Spec PyProof.Rows L2

section
variable {K : PySem.W.Frag} {G H : Hp} {p : Addr} {ds : List D} {c : Rc K}
theorem Hd.lst (h : Hd (c.fill (iLst K p ds)) G H) : ∃ vs, H p = some (.lst vs) ∧ Reps K G ds vs ∧ G p = none := by
  have q := h.inner
  obtain ⟨o, ho, vs, ev, r⟩ := q.ph
  subst ev
  exact ⟨vs, ho, r, q.fr p rfl⟩
theorem Hd.lstSet {es : List D} {ws : List V} (h : Hd (c.fill (iLst K p ds)) G H) (r : Reps K G es ws) : Hd (c.fill (iLst K p es)) G (upd H p (.lst ws)) :=
  Hd.change (I := iLst K p ds) (I' := iLst K p es) (fun _ => Iff.rfl) (fun a ha => upd_ne ha) ⟨⟨_, upd_same, ws, rfl, r⟩, h.inner.fr⟩ h
end
section
variable {X : Cx} {W : WX} {R : Rx X.K} {a b e o : Expr} {es : List Expr} {δ : DEnv} {I : Iv X.K} {P : D → Iv X.K → Prop} {pos q' : Pos} {x : Str} {d z : D} {p : Addr} {ds : List D} {i : Int} {κ : Ko X.K}
theorem p2_ixM {K : PySem.W.Frag} {I : Iv K} (c : Rc K) (h : atI ds i = some d) (eI : I = c.fill (iLst K p ds) := by rfl) : P2 K I (rIxL K) (.adr p) (.int i) d := fun P pp G H v w Q s hI r1 r2 q => by
  subst eI
  obtain ⟨vs, ho, r, _⟩ := hI.lst
  obtain ⟨u, h1, h2⟩ := atI_rep r h
  exact ⟨p, vs, i, u, r1, r2, SqL.of ho, h1, q u d G H _ (Same.refl G) s hI h2 pp⟩
theorem pn_lenM {K : PySem.W.Frag} {I : Iv K} (c : Rc K) (eI : I = c.fill (iLst K p ds) := by rfl) : PN K I (fun xs H Q => ∃ p ys, xs = [.ref p] ∧ (SqL K H p ys ∨ SqT K H p ys) ∧ Q (.int ys.length) H) [.adr p] (.int ds.length) := fun P pp G H vs Q s hI ⟨v, r, e1, e2, e3⟩ q => by
  subst eI
  obtain ⟨ws, ho, rw', _⟩ := hI.lst
  exact ⟨p, ws, by rw [e1, show v = .ref p from e2, show r = [] from e3], .inl (SqL.of ho), by rw [rw'.length]; exact q _ (.int ds.length) G H _ (Same.refl G) s hI rfl pp⟩
theorem p2_catMK {K : PySem.W.Frag} {I : Iv K} (c : Rc K) {es : List D} (hz : ds.length + es.length ≤ 100000) (eI : I = c.fill (iLst K p ds) := by rfl) : P2 K I rCat (.adr p) (.lst es) (.lst (ds ++ es)) := fun P pp G H v w Q s hI r1 ⟨b, zs, e1, e2, e3⟩ q => by
  subst eI
  obtain ⟨vs, ho, r, _⟩ := hI.lst
  refine ⟨p, b, vs, zs, r1, e1, ho, s _ _ e2, by rw [r.length, e3.length, sizeLine_eq]; omega, fun n hn => ?_⟩
  have hg : G n = none := s.free hn
  exact q (.ref n) (.lst (ds ++ es)) (upd G n (.lst (vs ++ zs))) _ _ (Evl.Ex.new hg) (same_upd2 s) (hI.keep hn s) ⟨n, vs ++ zs, rfl, upd_same, (r.append e3).mono (Evl.Ex.new hg)⟩ pp
theorem on_listM {K : PySem.W.Frag} {I : Iv K} {P : D → Iv K → Prop} {fs : List D} (hd : d = .lst fs ∨ d = .lsf fs ∨ d = .tup fs) (pp : ∀ n, (∀ a, ¬ (I.F a ∧ a = n)) → P (.adr n) (I.and (iLst K n fs))) : OpN K (fun xs H Q => ∃ p ys, xs = [.ref p] ∧ (SqL K H p ys ∨ SqT K H p ys) ∧ ∀ l, H l = none → Q (.ref l) (upd H l (.lst ys))) [d] I P := fun G H vs Q s hI ⟨v, r, e1, e2, e3⟩ q => by
  have k : ∃ a ws, v = .ref a ∧ (SqL K H a ws ∨ SqT K H a ws) ∧ Reps K G fs ws := by
    rcases hd with e | e | e <;> subst e
    · obtain ⟨a, ws, h1, h2, h3⟩ := e2
      exact ⟨a, ws, h1, .inl (SqL.of (s _ _ h2)), h3⟩
    · obtain ⟨a, ws, h1, h2, h3⟩ := e2
      exact ⟨a, ws, h1, .inl (sqL_mono s h2), h3⟩
    · obtain ⟨a, ws, h1, h2, h3⟩ := e2
      exact ⟨a, ws, h1, .inr (sqT_mono s h2), h3⟩
  obtain ⟨a, ws, h1, h2, h3⟩ := k
  refine ⟨a, ws, by rw [e1, h1, show r = [] from e3], h2, fun n hn => ?_⟩
  have hg : G n = none := s.free hn
  have na : ∀ a, ¬ (I.F a ∧ a = n) := fun a ha => hI.dom ha.1 (by rw [ha.2]; exact hn)
  exact q (.ref n) (.adr n) G _ (I.and (iLst K n fs)) (Same.refl G) (same_upd s hg) (Hd.mk2 (hI.newp hn) ⟨⟨_, upd_same, ws, rfl, h3⟩, fun a ha => by rw [show a = n from ha]; exact hg⟩ na) rfl (pp n na)
theorem s_setItem (c : Rc X.K) {j : Nat} (ho : PV X I o δ (.adr p)) (hi : PV X I b δ (.int i)) (he : PV X I e δ d) (hj : ixN ds.length i = some j) (q : κ.nx δ (c.fill (iLst X.K p (ds.set j d)))) {ps : Pos} (eI : I = c.fill (iLst X.K p ds) := by rfl)
    (hs : swapsWithSole [.Subscript o b ps] e pos.line X.env = pure false := by rfl) (hw : swappedStores [.Subscript o b ps] e X.env = pure none := by rfl) (h1 : (assignEach [.Subscript o b ps] X.env).map (·.2) = [assign (.Subscript o b ps) X.env] := by rfl)
    (hasg : ∀ v, assign (.Subscript o b ps) X.env v = (do
      let ov ← holding [v] (eval o X.env)
      let iv ← holding [v, ov] (eval b X.env)
      standAt ps
      holding [v, ov, iv] (setItem ov iv v)
      release [v, ov, iv] []) := by intro _; rfl) :
    S1 X W (.Assign [.Subscript o b ps] e pos) δ I κ := fun σ G H E hE s hI k => by
  subst eI
  exact PS.wp (ps_asg peC (pg_sub peC peC set_list (ha := hasg)) hs hw h1) (he W _ (fun z I1 => z = d ∧ I1 = c.fill (iLst X.K p ds)) ⟨rfl, rfl⟩ σ G H _ hE s hI (k.kx hE) fun v d1 G1 H1 I1 s1 t1 h1 r1 ⟨ed, ei⟩ => by
    subst ed ei
    refine ho W (κ.r δ) (fun z I1 => z = .adr p ∧ I1 = c.fill (iLst X.K p ds)) ⟨rfl, rfl⟩ σ G1 H1 _ (hE.mono s1) t1 h1 ((k.kx hE).mono s1) fun ov d2 G2 H2 I2 s2 t2 h2 r2 ⟨ed, ei⟩ => ?_
    subst ed ei
    refine hi W (κ.r δ) (fun z I1 => z = .int i ∧ I1 = c.fill (iLst X.K p ds)) ⟨rfl, rfl⟩ σ G2 H2 _ (hE.mono (s1.trans s2)) t2 h2 ((k.kx hE).mono (s1.trans s2)) fun iv d3 G3 H3 I3 s3 t3 h3 r3 ⟨ed, ei⟩ => ?_
    subst ed ei
    obtain ⟨vs, hp, rv, gp⟩ := h3.lst
    refine ⟨p, vs, i, j, r2, r3, hp, by rw [rv.length]; exact hj, ?_⟩
    exact k.nx δ σ G3 _ _ ((s1.trans s2).trans s3) (same_upd t3 gp) (h3.lstSet (rv.set ((r1.mono s2).mono s3))) (hE.mono ((s1.trans s2).trans s3)) q)
theorem s_append (c : Rc X.K) {apos ep : Pos} (ho : PV X I o δ (.adr p)) (hI0 : I = c.fill (iLst X.K p ds)) (h : EvX X W (κ.r δ) e δ I fun d I1 => I1 = c.fill (iLst X.K p ds) ∧ ds.length < 1000000 ∧ κ.nx δ (c.fill (iLst X.K p (ds ++ [d]))))
    (hbase : attributeBase o "append" X.env (eval o X.env) = eval o X.env := by rfl)
    (hfew : ((backTo pos (starEach [e] X.env)).all (fun x => !x.1) && (backToKw pos (keywordEach [] X.env)).all (fun x => x.1.isSome) && decide ([e].length + ([] : List Keyword).length + (if ([] : List Keyword).isEmpty then 0 else 1) < 30)) = true := by rfl)
    (hline : (apos.endLine == pos.line) = true := by rfl) (hst : starEach [e] X.env = (false, eval e X.env) :: starEach [] X.env := by rfl) (hpl : (backTo pos (starEach [] X.env)).any (·.1) = false := by rfl)
    (hs : swapsWith (.Call (.Attribute o "append" apos) [e] [] pos) none ep.line X.env = pure false := by rfl) : S1 X W (.Expr (.Call (.Attribute o "append" apos) [e] [] pos) ep) δ I κ := fun σ G H E hE s hI k =>
  PS.wp (ps_expr (pe_bm PySem.F.plainAttrs_list PySem.F.slot_list_append PySem.F.type_list_append mt_append peC (pa_cons peC pa_nil hst) hbase hfew hline hst hpl) hs) (ho W (κ.r δ) (fun z I1 => z = .adr p ∧ I1 = I) ⟨rfl, rfl⟩ σ G H _ hE s hI (k.kx hE) fun v d1 G1 H1 I1 s1 t1 h1 r1 ⟨ed, ei⟩ => by
    subst ed ei hI0
    obtain ⟨vs, hp, rv, gp⟩ := h1.lst
    obtain rfl : v = .ref p := r1
    refine ⟨.inl ⟨rfl, _, .inl (.inl hp)⟩, ?_⟩
    refine h σ G1 H1 _ (hE.mono s1) t1 h1 ((k.kx hE).mono s1) fun w d2 G2 H2 I2 s2 t2 h2 r2 ⟨ei, hz, nx⟩ => ?_
    subst ei
    obtain ⟨vs2, hp2, rv2, gp2⟩ := h2.lst
    refine ⟨p, vs2, w, rfl, rfl, hp2, by rw [rv2.length, sizeLine_eq]; omega, ?_⟩
    exact k.nx δ σ G2 _ _ (s1.trans s2) (same_upd t2 gp2) (h2.lstSet (rv2.append (Reps.one r2))) (hE.mono (s1.trans s2)) nx)
theorem freeze_lst {K : PySem.W.Frag} {I : Iv K} {G H : Hp} (s : Same G H) (h : Hd (I.and (iLst K p ds)) G H) : ∃ G', Same G G' ∧ Same G' H ∧ Hd I G' H ∧ Rep K G' (.lst ds) (.ref p) := by
  obtain ⟨o, ho, vs, ev, rv⟩ := h.right.ph
  subst ev
  have gp : G p = none := h.right.fr p rfl
  refine ⟨upd G p (.lst vs), Evl.Ex.new gp, same_freeze s ho, ⟨I.loc G _ H H (Evl.Ex.new gp) (fun _ _ => rfl) h.left.ph, fun a ha => ?_⟩, ⟨p, vs, rfl, upd_same, rv.mono (Evl.Ex.new gp)⟩⟩
  rw [upd_ne fun e => h.apart a ⟨ha, e⟩]
  exact h.left.fr a ha
end
def iDrC (K : PySem.W.Frag) (a b : Addr) (s k m : Int) (ns : List Int) : Iv K := (iLst K a [.int s, .adr b, .int k, .int m]).and (iLst K b (ns.map D.int))
def iDr (K : PySem.W.Frag) (a b : Addr) : Iv K where
  F := fun x => x = a ∨ x = b
  φ := fun G H => ∃ q : Int × Int × Int × List Int, (iDrC K a b q.1 q.2.1 q.2.2.1 q.2.2.2).φ G H ∧ q.2.2.2.length ≤ 63
  loc := fun G G' H H' s k ⟨q, h, hl⟩ => ⟨q, (iDrC K a b q.1 q.2.1 q.2.2.1 q.2.2.2).loc G G' H H' s k h, hl⟩
  dom := fun G H ⟨q, h, _⟩ x hx => (iDrC K a b q.1 q.2.1 q.2.2.1 q.2.2.2).dom G H h x hx
theorem iDr_of {K : PySem.W.Frag} {a b : Addr} {s k m : Int} {ns : List Int} (hl : ns.length ≤ 63) : Sub (iDrC K a b s k m ns) (iDr K a b) := ⟨fun _ => Iff.rfl, fun _ _ h => ⟨(s, k, m, ns), h, hl⟩⟩
theorem iDr_open {X : Cx} {W : WX} {a b : Addr} {sts : List Stmt} {δ : DEnv} {κ : Ko X.K} {c : Rc X.K} (h : ∀ s k m ns, ns.length ≤ 63 → SX X W sts δ (c.fill (iDrC X.K a b s k m ns)) κ) : SX X W sts δ (c.fill (iDr X.K a b)) κ := fun σ G H E hE s hI kk => by
  obtain ⟨⟨q, hq⟩, hx⟩ := Hd.opens (I := iDr X.K a b) (f := fun x : { q : Int × Int × Int × List Int // q.2.2.2.length ≤ 63 } => iDrC X.K a b x.1.1 x.1.2.1 x.1.2.2.1 x.1.2.2.2) (fun _ _ => Iff.rfl) (fun _ _ ⟨q, h, hl⟩ => ⟨⟨q, hl⟩, h⟩) hI
  exact h _ _ _ _ hq σ G H E hE s hx kk
def Ko.sub {K : PySem.W.Frag} (κ : Ko K) (I I' : Iv K) : Ko K := κ
end DL
set_option Elab.async false
set_option linter.all false
set_option maxRecDepth 100000
set_option maxHeartbeats 4000000
namespace DL
open PySem PySem.Spec PyProof.Rows L2

theorem FRep.of {K : PySem.W.Frag} {G : Hp} : ∀ {fs : List (Str × D)} {l : List (Str × V)}, FRep K G fs l → l.map (·.1) = fs.map (·.1) ∧ ∀ f d, fs.lookup f = some d → ∃ v, l.lookup f = some v ∧ Rep K G d v
  | [], l, h => by
    have e : l = [] := h
    subst e
    exact ⟨rfl, fun f d z => by cases z⟩
  | (x, d0) :: fs, l, ⟨v, r, e, r1, r2⟩ => by
    subst e
    obtain ⟨h1, h2⟩ := FRep.of r2
    refine ⟨by rw [List.map_cons, List.map_cons, h1], fun f d z => ?_⟩
    by_cases hf : f = x
    · subst hf
      simp [List.lookup] at z
      subst z
      exact ⟨v, by simp [List.lookup], r1⟩
    · have e : (f == x) = false := by simpa using hf
      simp only [List.lookup, e] at z ⊢
      exact h2 f d z
theorem FRep.mono {K : PySem.W.Frag} {G G' : Hp} (s : Same G G') : ∀ {fs : List (Str × D)} {l : List (Str × V)}, FRep K G fs l → FRep K G' fs l
  | [], _, h => h
  | _ :: _, _, ⟨v, r, e, r1, r2⟩ => ⟨v, r, e, r1.mono s, FRep.mono s r2⟩
def spXIC (C : Addr) (ks : List Str) : Sp := fun vs H Q _ => ∃ (a : Addr) (ws : List V), vs = .ref a :: ws ∧ ws.length = ks.length ∧ H a = some (exo a C none) ∧ ∀ (d : Addr) (H' : Hp), H d = none → d ≠ a → H' a = some (exo a C (some d)) → H' d = some (exd d (ks.zip ws).reverse) → (∀ b, b ≠ a → b ≠ d → H' b = H b) → Q .non H'
section
variable {X : Cx} {W : WX} {es : List Expr} {e : Expr} {δ : DEnv} {I : Iv X.K} {κ : Ko X.K} {pos p pos2 : Pos} {x : Str} {C fI : Addr} {fd : FuncData} {ps ks : List Str} {k : Nat}
theorem frep_zip {K : PySem.W.Frag} {G : Hp} : ∀ {ks : List Str} {ds : List D} {vs : List V}, Reps K G ds vs → ks.length = ds.length → FRep K G (ks.zip ds) (ks.zip vs)
  | [], _, _, _, _ => by simp [FRep]
  | k :: ks, [], _, _, h => by simp at h
  | k :: ks, d :: ds, _, ⟨v, r, e, r1, r2⟩, h => by
    subst e
    exact ⟨v, ks.zip r, rfl, r1, frep_zip r2 (by simpa using h)⟩
theorem frep_append {K : PySem.W.Frag} {G : Hp} : ∀ {fs gs : List (Str × D)} {l m : List (Str × V)}, FRep K G fs l → FRep K G gs m → FRep K G (fs ++ gs) (l ++ m)
  | [], _, l, m, h, t => by
    have e : l = [] := h
    subst e
    exact t
  | f :: fs, gs, l, m, ⟨v, r, e, r1, r2⟩, t => by
    subst e
    exact ⟨v, r ++ m, rfl, r1, frep_append r2 t⟩
theorem frep_rev {K : PySem.W.Frag} {G : Hp} : ∀ {fs : List (Str × D)} {l : List (Str × V)}, FRep K G fs l → FRep K G fs.reverse l.reverse
  | [], l, h => by
    have e : l = [] := h
    subst e
    exact rfl
  | f :: fs, l, ⟨v, r, e, r1, r2⟩ => by
    subst e
    rw [List.reverse_cons, List.reverse_cons]
    exact frep_append (frep_rev r2) ⟨v, [], rfl, r1, rfl⟩
theorem s_raise (tk : Takes X W) (T : OexC X.K C) (iC : PySem.W.findIn X.K (.ref C) "__init__" = some (some (.ref fI))) (tI : PySem.W.typeIn X.K (.ref fI) = some (.type "function"))
    (F1 : FnOk X.prog X.w X.K X.mg X.base (L2.CX X.prog X.w) k fI fd ps (spXIC C ks)) (hr : Room (k + 1) X.A) (hb : Binds X.K fd ps []) (hm : X.mg x = some (.ref C))
    (h : EvA X W (κ.r δ) (e :: es) δ I fun ds I1 => ks.length = ds.length ∧ ds.length ≤ 10 ∧ κ.ex C (ks.zip ds).reverse δ I1) (hc : X.calm = true := by rfl) (hg : Gl X x := by rfl) (hdb : (x == ("__debug__" : Str)) = false := by decide)
    (he : starEach (e :: es) X.env = (false, eval e X.env) :: starEach es X.env := by rfl) (hpl : (backTo pos (starEach es X.env)).any (·.1) = false := by rfl) : S1 X W (.Raise (some (.Call (.Name x p) (e :: es) [] pos)) none pos2) δ I κ := fun σ G H E hE s hI kk =>
  PS.wp (ps_raise hc tk (pmk_oex T iC tI F1 hr hb .nil passL hg hm paC hdb he hpl)) (h σ G H _ hE s hI (kk.kx hE) fun vs ds G1 H1 I1 s1 t1 h1 r1 ⟨hl, hz, xx⟩ => by
    refine ⟨by rw [r1.length]; omega, fun a ha => ?_⟩
    refine ⟨a, vs ++ [], rfl, by rw [List.append_nil, r1.length, hl], upd_same, fun d H2 hd hda e1 e2 e3 => ?_⟩
    rw [upd_ne hda] at hd
    refine ⟨rfl, d, _, e1, e2, hd, ?_⟩
    have eH : upd (L2.del H2 a) d (.xd (ks.zip (vs ++ [])).reverse) = upd H1 d (.xd (ks.zip (vs ++ [])).reverse) := by
      funext b
      by_cases hb : b = d
      · subst hb; rw [upd_same, upd_same]
      · rw [upd_ne hb, upd_ne hb]
        by_cases hba : b = a
        · subst hba; rw [del_same, ha]
        · rw [del_ne hba, e3 b hba hb, upd_ne hba]
    rw [eH]
    have gd : G1 d = none := t1.free hd
    refine kk.ex C d (ks.zip ds).reverse _ δ σ (upd G1 d (.xd (ks.zip (vs ++ [])).reverse)) _ I1 (s1.trans (Evl.Ex.new gd)) (same_upd2 t1) (h1.keep hd t1) (hE.mono (s1.trans (Evl.Ex.new gd))) ?_ upd_same xx
    rw [List.append_nil]
    exact (frep_rev (frep_zip r1 hl)).mono (Evl.Ex.new gd))
end
theorem frep_split {K : PySem.W.Frag} {G : Hp} : ∀ {fs : List (Str × D)} {l : List (Str × V)}, FRep K G fs l → l = (fs.map (·.1)).zip (l.map (·.2)) ∧ Reps K G (fs.map (·.2)) (l.map (·.2))
  | [], l, h => by
    have e : l = [] := h
    subst e
    exact ⟨rfl, rfl⟩
  | f :: fs, l, ⟨v, r, e, r1, r2⟩ => by
    subst e
    obtain ⟨h1, h2⟩ := frep_split r2
    refine ⟨?_, ⟨v, _, rfl, r1, h2⟩⟩
    show (f.1, v) :: r = (f.1, v) :: (fs.map (·.1)).zip (r.map (·.2))
    rw [← h1]
theorem lookup_zip {K : PySem.W.Frag} {G : Hp} {f : Str} {d : D} : ∀ {ks : List Str} {ds : List D} {vs : List V}, Reps K G ds vs → (ks.zip ds).lookup f = some d → ∃ v, (ks.zip vs).lookup f = some v ∧ Rep K G d v
  | [], _, _, _, h => by simp at h
  | k :: ks, [], _, _, h => by simp at h
  | k :: ks, d0 :: ds, _, ⟨v, r, e, r1, r2⟩, h => by
    subst e
    by_cases hk : f = k
    · subst hk
      simp [List.lookup] at h
      subst h
      exact ⟨v, by simp [List.lookup], r1⟩
    · have e : (f == k) = false := by simpa using hk
      simp only [List.zip_cons_cons, List.lookup, e] at h ⊢
      exact lookup_zip r2 h
section
variable {X : Cx} {I : Iv X.K} {δ : DEnv} {e : Expr} {pos : Pos} {d : D}
theorem pv_xf {a C dd : Addr} {oe : Obj} {pn : List (Addr × Obj)} {n : Str} {ks : List Str} {ds : List D} {I : Iv (X.suite a ((a, oe) :: pn)).K} (T : XfC X.K C) (hno : PySem.W.findIn X.K (.ref C) n = some none) (hz : Zc (.ref C) (some dd) oe) (hf : ∃ vs, oe.data = .fields vs)
    (he : PV (X.suite a ((a, oe) :: pn)) I e δ (.exc a C dd ks ds)) (hl : (ks.zip ds).lookup n = some d) (hb : attributeBase e n (X.suite a ((a, oe) :: pn)).env (eval e (X.suite a ((a, oe) :: pn)).env) = eval e (X.suite a ((a, oe) :: pn)).env := by rfl) : PV (X.suite a ((a, oe) :: pn)) I (.Attribute e n pos) δ d := fun W R P p σ G H Q hE s hI qx q =>
  PE.wp (pe_xf T hno hz hf peC hb) (he W R (fun z I1 => z = .exc a C dd ks ds ∧ I1 = I) ⟨rfl, rfl⟩ σ G H _ hE s hI qx fun v d1 G1 H1 I1 s1 t1 h1 r1 ⟨ed, ei⟩ => by
    subst ed ei
    obtain ⟨ev, vs, h2, h3⟩ := r1
    obtain ⟨u, h4, h5⟩ := lookup_zip h3 hl
    exact ⟨ev, rfl, dd, _, u, rfl, t1 _ _ h2, h4, q u d G1 H1 _ s1 t1 h1 h5 p⟩)
def rIsX (K : PySem.W.Frag) (C a dd : Addr) : List V → Hp → VK → Prop := fun xs H Q => ∃ (c : V) (cv : Value) (b : Bool) (l : List (Str × V)), xs = [.ref a, c] ∧ H dd = some (.xd l) ∧ (∀ u, RelV c u → u = cv) ∧ PySem.W.kitOne K (.ref C) cv = some b ∧ Q (.bl b) H
theorem call_isX {a C dd : Addr} {oe : Obj} {pn : List (Addr × Obj)} (T : ExcC X.K C) (hz : Zc (.ref C) (some dd) oe) (hf : ∃ vs, oe.data = .fields vs) : CallR (X.suite a ((a, oe) :: pn)) (.builtin "isinstance") (rIsX X.K C a dd) := fun pins s σ H xs us Q J r h => by
  obtain ⟨c, cv, b, l, rfl, hd, hc, hk, q⟩ := h
  obtain ⟨u1, u2, rfl, r1, r2⟩ := vals2 r
  cases (show u1 = Value.ref a from r1)
  have e2 := hc _ r2
  subst e2
  have g1 := (J.pin (a, oe) (List.mem_append_left _ List.mem_cons_self)).1
  obtain ⟨fv, hv⟩ := hf
  obtain ⟨mA, hns, _⟩ := (show ObjOk X.prog X.w H s.heap dd (.xd l) from J.hok dd _ hd)
  obtain ⟨od, ho, _⟩ := lookIn_ns hns
  have cl : (PySem.W.clsIn X.K C).isSome = true := by
    obtain ⟨cd, hcd, _⟩ := PySem.W.any_some T.hd
    rw [hcd] <;> rfl
  have at_ : PySem.W.InstAt s.heap a oe C (some od) := ⟨g1, hz.1, by unfold PySem.W.notCls; rw [hv] <;> rfl, by rw [hz.2]; exact ho⟩
  exact PySem.W.kia_one (PySem.W.kitx_exc cl T.hg T.hk T.hs T.ha T.hn T.ht T.hm) J.kIn at_ hk (fun z => nomatch z) fun tk => ⟨.bl b, H, J.tok tk, rfl, q⟩
theorem pn_isX {K : PySem.W.Frag} {I : Iv K} {a C dd : Addr} {ks : List Str} {ds : List D} {c : D} {cv : V} {cu : Value} {b : Bool} (hc : ∀ G v, Rep K G c v → v = cv) (hu : ∀ u, RelV cv u → u = cu) (hk : PySem.W.kitOne K (.ref C) cu = some b) : PN K I (rIsX K C a dd) [.exc a C dd ks ds, c] (.bl b) := fun P p G H vs Q s hI ⟨v, r, e1, ⟨e2, ws, e6, e7⟩, v2, r2, e3, e4, e5⟩ q =>
  ⟨cv, cu, b, _, by rw [e1, e3, e2, hc _ _ e4, show r2 = [] from e5], s _ _ e6, hu, hk, q _ (.bl b) G H I (Same.refl G) s hI rfl p⟩
theorem s_try {W : WX} {κ : Ko X.K} {x n : Str} {c : Value} {i : Nat} {body suite : List Stmt} {b0 : Stmt} {np pos' : Pos} (tk : Takes X W) (hN : X.N.Nodup) (hc : Names X x c)
    (h : ∀ (W' : WX) (pn : List (Addr × Obj)) (xe : Value → Shared → Prop), Takes (X.tr pn xe) W' → PassesOwn (model X.prog X.w) X.A X.env xe → SX (X.tr pn xe) W' body δ I { κ with ex := fun C fs δ' I' => ∃ b, PySem.W.exmOne X.K (.ref C) c = some b ∧
      (b = true → ∀ (a dd : Addr) (oe : Obj) (pn : List (Addr × Obj)), Zc (.ref C) (some dd) oe → (∃ vs, oe.data = .fields vs) → SX (X.suite a ((a, oe) :: pn)) W0 (b0 :: suite) (δ'.set i (some (.exc a C dd (fs.map (·.1)) (fs.map (·.2))))) I'
        { nx := fun δ'' I'' => κ.nx (δ''.set i none) I'', rt := κ.rt, bk := fun δ'' I'' => κ.bk (δ''.set i none) I'', ct := fun δ'' I'' => κ.ct (δ''.set i none) I'' }) ∧ (b = false → κ.ex C fs δ' I') })
    (hi : X.N[i]? = some n := by rfl) (hln : X.env.kindOf n = some .local := by rfl) (hs : X.stack = X.env :: X.outer := by rfl) (hf : X.env.frame = some X.env.locals := by rfl) : S1 X W (.Try body [.ExceptHandler (some (.Name x np)) (some n) (b0 :: suite) pos'] [] [] pos) δ I κ := fun σ G H E hE s hI k =>
  PS.wp (ps_try_as (i := i) (tb := fun W' D σ H => ∀ pn xe, Takes (X.tr pn xe) W' → PassesOwn (model X.prog X.w) X.A X.env xe → wpB (X.tr pn xe) body D σ H)
    (ts := fun a cls d D σ H => ∀ oe pn, Zc cls d oe → (∃ vs, oe.data = .fields vs) → wpB (X.suite a ((a, oe) :: pn)) (b0 :: suite) D σ H) (Wout := W) hs hf hN hi hln hc tk
    (fun W' pn xe tk' po => ⟨fun pins s σ H D J q => (q pn xe tk' po).run pins s J⟩) (fun a oe cls d pn hz hf => ⟨fun pins s σ H D J q => (q oe pn hz hf).run pins s J⟩)) (by
    intro pn xe tk' po
    refine h _ pn xe tk' po σ G H E hE s hI ⟨k.nx, k.rt, k.bk, k.ct, ?_⟩
    rintro C dd fs l δ' σ' G' H' I' s1 t1 h1 e1 rf hd ⟨b, hb, yes, no⟩
    refine ⟨b, hb, fun e a ha oe pn hz hf => ?_, fun e => k.ex C dd fs l δ' σ' G' H' I' s1 t1 h1 e1 rf hd (no e)⟩
    obtain ⟨el, rl⟩ := frep_split rf
    refine yes e a dd oe pn hz hf _ G' H' _ (EnvR.set (v := .ref a) e1 ⟨rfl, l.map (·.2), by rw [← el]; exact hd, rl⟩) t1 h1 ⟨fun δ5 σ5 G5 H5 I5 s5 t5 h5 r5 p5 => k.nx _ _ G5 H5 I5 (s1.trans s5) t5 h5 (r5.drop none) p5, k.rt.mono s1, fun δ5 σ5 G5 H5 I5 s5 t5 h5 r5 p5 => k.bk _ _ G5 H5 I5 (s1.trans s5) t5 h5 (r5.drop none) p5, fun δ5 σ5 G5 H5 I5 s5 t5 h5 r5 p5 => k.ct _ _ G5 H5 I5 (s1.trans s5) t5 h5 (r5.drop none) p5, ?_⟩
    intro _ _ _ _ _ _ _ _ _ _ _ _ _ _ _ z
    exact z.elim)
end
end DL
set_option Elab.async false
set_option linter.all false
set_option maxRecDepth 100000
set_option maxHeartbeats 4000000
namespace DL
open PySem PySem.Spec PyProof.Rows L2

def ORep (K : PySem.W.Frag) (G : Hp) (os : List (Option D)) (vs : List (Option V)) : Prop := vs.length = os.length ∧ ∀ (i : Nat) (d : D), os[i]? = some (some d) → ∃ v, vs[i]? = some (some v) ∧ Rep K G d v
theorem ORep.mono {K : PySem.W.Frag} {G G' : Hp} {os : List (Option D)} {vs : List (Option V)} (s : Same G G') (h : ORep K G os vs) : ORep K G' os vs := ⟨h.1, fun i d e => by
  obtain ⟨v, h1, h2⟩ := h.2 i d e
  exact ⟨v, h1, h2.mono s⟩⟩
def iSl (K : PySem.W.Frag) (x C dx : Addr) (os : List (Option D)) : Iv K where
  F := fun a => a = x ∨ a = dx
  φ := fun G H => H dx ≠ none ∧ dx ≠ x ∧ ∃ vs, SlX.Slt H x C dx vs ∧ ORep K G os vs
  loc := fun G G' H H' s k ⟨h1, h0, vs, h2, h3⟩ => ⟨by rw [k dx (.inr rfl)]; exact h1, h0, vs, by
    have e1 := k x (.inl rfl)
    have e2 := k dx (.inr rfl)
    rcases h2 with ⟨q1, q2⟩ | ⟨q1, q2⟩
    · exact .inl ⟨by rw [e1]; exact q1, q2⟩
    · exact .inr ⟨by rw [e1]; exact q1, by rw [e2]; exact q2⟩, h3.mono s⟩
  dom := fun G H ⟨h1, _, vs, h2, _⟩ a ha => by
    rcases ha with e | e
    · subst e
      rcases h2 with ⟨q, _⟩ | ⟨q, _⟩ <;> rw [q] <;> simp
    · subst e
      exact h1
def putO (i : Nat) (d : D) (os : List (Option D)) : List (Option D) := (os ++ List.replicate (i + 1 - os.length) none).set i (some d)
theorem ORep.put {K : PySem.W.Frag} {G : Hp} {os : List (Option D)} {vs : List (Option V)} (h : ORep K G os vs) (i : Nat) {d : D} {v : V} (r : Rep K G d v) : ORep K G (putO i d os) (SlX.putS i v vs) := by
  unfold putO SlX.putS
  refine ⟨by simp [h.1], fun j e he => ?_⟩
  have hl : i < (os ++ List.replicate (i + 1 - os.length) none).length := by simp; omega
  by_cases hj : i = j
  · subst hj
    rw [List.getElem?_set_self hl] at he
    have e2 : d = e := by simpa using he
    subst e2
    exact ⟨v, List.getElem?_set_self (by simp; omega), r⟩
  · rw [List.getElem?_set_ne hj] at he
    by_cases ho : j < os.length
    · rw [List.getElem?_append_left ho] at he
      obtain ⟨w, h1, h2⟩ := h.2 j e he
      exact ⟨w, by rw [List.getElem?_set_ne hj, List.getElem?_append_left (by rw [h.1]; exact ho)]; exact h1, h2⟩
    · rw [List.getElem?_append_right (by omega), List.getElem?_replicate] at he
      split at he <;> cases he
section
variable {K : PySem.W.Frag} {G H : Hp} {x C dx : Addr} {os : List (Option D)} {c : Rc K} {I : Iv K}
theorem Hd.sl (h : Hd (c.fill (iSl K x C dx os)) G H) : ∃ vs, SlX.Slt H x C dx vs ∧ ORep K G os vs ∧ dx ≠ x ∧ G x = none ∧ G dx = none := by
  obtain ⟨_, h0, vs, h2, h3⟩ := h.inner.ph
  exact ⟨vs, h2, h3, h0, h.inner.fr x (.inl rfl), h.inner.fr dx (.inr rfl)⟩
theorem slH_same {vs : List (Option V)} (s : Same G H) (h1 : G x = none) (h2 : G dx = none) : Same G (SlX.slH H x C dx vs) := fun a u e => by
  rw [SlX.slH_ne (ne_of_none e h1) (ne_of_none e h2)]
  exact s a u e
theorem Hd.slSet {os' : List (Option D)} {vs' : List (Option V)} (h : Hd (c.fill (iSl K x C dx os)) G H) (r : ORep K G os' vs') : Hd (c.fill (iSl K x C dx os')) G (SlX.slH H x C dx vs') := by
  obtain ⟨_, h0, _⟩ := h.inner.ph
  refine Hd.change (I := iSl K x C dx os) (I' := iSl K x C dx os') (fun _ => Iff.rfl) (fun a ha => SlX.slH_ne (fun e => ha (.inl e)) (fun e => ha (.inr e))) ⟨⟨?_, h0, vs', SlX.slH_slt h0, r⟩, h.inner.fr⟩ h
  show SlX.slH H x C dx vs' dx ≠ none
  unfold SlX.slH
  rw [upd_ne h0, upd_same]
  simp
theorem freeze_sl {ds : List D} (s : Same G H) (h : Hd (I.and (iSl K x C dx (ds.map some))) G H) : ∃ G', Same G G' ∧ Same G' H ∧ Hd I G' H ∧ Rep K G' (.slo C ds) (.ref x) := by
  obtain ⟨hd, h0, vs, h2, h3⟩ := h.right.ph
  have gx : G x = none := h.right.fr x (.inl rfl)
  have gd : G dx = none := h.right.fr dx (.inr rfl)
  obtain ⟨ox, ex⟩ : ∃ o, H x = some o := by
    rcases h2 with ⟨q, _⟩ | ⟨q, _⟩ <;> exact ⟨_, q⟩
  obtain ⟨od, ed⟩ : ∃ o, H dx = some o := Option.ne_none_iff_exists'.mp hd
  have g2 : upd G dx od x = none := by rw [upd_ne (Ne.symm h0)]; exact gx
  have sA : Same G (upd (upd G dx od) x ox) := (Evl.Ex.new gd).trans (Evl.Ex.new g2)
  have sB : Same (upd (upd G dx od) x ox) H := same_freeze (same_freeze s ed) ex
  have slt : SlX.Slt (upd (upd G dx od) x ox) x C dx vs := by
    rcases h2 with ⟨q1, q2⟩ | ⟨q1, q2⟩
    · exact .inl ⟨by rw [upd_same, ← ex]; exact q1, q2⟩
    · exact .inr ⟨by rw [upd_same, ← ex]; exact q1, by rw [upd_ne h0, upd_same, ← ed]; exact q2⟩
  -- the slots as values
  have key : ∀ {ds : List D} {vs : List (Option V)}, ORep K G (ds.map some) vs → ∃ ws, vs = ws.map some ∧ Reps K G ds ws := by
    intro ds
    induction ds with
    | nil =>
      intro vs ⟨hl, _⟩
      have e : vs = [] := List.length_eq_zero_iff.mp (by simpa using hl)
      exact ⟨[], by rw [e]; rfl, rfl⟩
    | cons d ds ih =>
      intro vs ⟨hl, hg⟩
      cases vs with
      | nil => simp at hl
      | cons v vs =>
        obtain ⟨w, h1, h2⟩ := hg 0 d rfl
        obtain ⟨ws, e1, e2⟩ := ih (vs := vs) ⟨by simpa using hl, fun i e he => by
          obtain ⟨w, q1, q2⟩ := hg (i + 1) e (by simpa using he)
          exact ⟨w, by simpa using q1, q2⟩⟩
        have e3 : v = some w := by simpa using h1
        exact ⟨w :: ws, by rw [e3, e1]; rfl, ⟨w, ws, rfl, h2, e2⟩⟩
  obtain ⟨ws, e1, e2⟩ := key h3
  subst e1
  refine ⟨_, sA, sB, ⟨I.loc G _ H H sA (fun _ _ => rfl) h.left.ph, fun a ha => ?_⟩, ⟨x, dx, ws, rfl, slt, e2.mono sA⟩⟩
  rw [upd_ne fun e => h.apart a ⟨ha, .inl e⟩, upd_ne fun e => h.apart a ⟨ha, .inr e⟩]
  exact h.left.fr a ha
end
section
variable {X : Cx} {W : WX} {R : Rx X.K} {a b e o : Expr} {es : List Expr} {δ : DEnv} {I : Iv X.K} {P : D → Iv X.K → Prop} {pos q' p : Pos} {n : Str} {d z : D} {x C dx pd : Addr} {ds : List D} {os : List (Option D)} {i : Nat} {κ : Ko X.K}
theorem pv_sl (c : SlX.SCls X.K C) (t : SlX.Slot1 X.K C n pd i) (ho : PV X I o δ (.slo C ds)) (hd : ds[i]? = some d) (hb : attributeBase o n X.env (eval o X.env) = eval o X.env := by rfl) : PV X I (.Attribute o n pos) δ d := fun W R P p σ G H Q hE s hI qx q =>
  PE.wp (SlX.pe_sl peC hb) (ho W R (fun z I1 => z = .slo C ds ∧ I1 = I) ⟨rfl, rfl⟩ σ G H _ hE s hI qx fun v d1 G1 H1 I1 s1 t1 h1 r1 ⟨ed, ei⟩ => by
    subst ed ei
    obtain ⟨y, dy, vs, e1, e2, e3⟩ := r1
    obtain ⟨u, h2, h3⟩ := e3.get hd
    exact ⟨y, C, dy, pd, vs.map some, i, u, e1, slt_mono t1 e2, c, t, by rw [List.getElem?_map, h2]; rfl, q u d G1 H1 _ s1 t1 h1 h3 p⟩)
theorem s_slot (k : Rc X.K) (c : SlX.SCls X.K C) (t : SlX.Slot1 X.K C n pd i) (ho : PV X I o δ (.adr x)) (he : PV X I e δ d) (nx : κ.nx δ (k.fill (iSl X.K x C dx (putO i d os))))
    (hs : swapsWith e (some (.Attribute o n q')) pos.line X.env = pure false := by rfl) (eI : I = k.fill (iSl X.K x C dx os) := by rfl) : S1 X W (.Assign [.Attribute o n q'] e pos) δ I κ := fun σ G H E hE s hI kk => by
  subst eI
  exact PS.wp (SlX.ps_sl peC peC hs) (he W _ (fun z I1 => z = d ∧ I1 = k.fill (iSl X.K x C dx os)) ⟨rfl, rfl⟩ σ G H _ hE s hI (kk.kx hE) fun v d1 G1 H1 I1 s1 t1 h1 r1 ⟨ed, ei⟩ => by
    subst ed ei
    refine ho W (κ.r δ) (fun z I1 => z = .adr x ∧ I1 = k.fill (iSl X.K x C dx os)) ⟨rfl, rfl⟩ σ G1 H1 _ (hE.mono s1) t1 h1 ((kk.kx hE).mono s1) fun ov d2 G2 H2 I2 s2 t2 h2 r2 ⟨ed, ei⟩ => ?_
    subst ed ei
    obtain ⟨vs, h4, h5, h6, h7, h8⟩ := h2.sl
    exact ⟨x, C, dx, pd, vs, i, r2, h4, c, t, kk.nx δ σ G2 _ _ (s1.trans s2) (slH_same t2 h7 h8) (h2.slSet (h5.put i (r1.mono s2))) (hE.mono (s1.trans s2)) nx⟩)
structure wpK (X : Cx) (kws : List Keyword) (σ : L2.St) (H : Hp) (Q : List V → Hp → Prop) : Prop where
  run : ∀ (pos : Pos) (pins : List (Addr × Obj)) (s : Shared), Inv X pins σ H s → wpAny (model X.prog X.w) X.A (evalAll ((backToKw pos (keywordEach kws X.env)).map (·.2))) (AP X pins σ Q) X.xe s
def EvK (X : Cx) (W : WX) (R : Rx X.K) (kws : List Keyword) (δ : DEnv) (I : Iv X.K) (P : List D → Iv X.K → Prop) : Prop := ∀ (σ : L2.St) (G H : Hp) (Q : List V → Hp → Prop), EnvR X.K G δ σ → Same G H → Hd I G H → Kx X.K W σ G R → Ka X.K Q G P → wpK X kws σ H Q
theorem pkC {kws : List Keyword} : PK X kws (wpK X kws) := ⟨fun pos pins s σ H Q I h => h.run pos pins s I⟩
theorem ek_nil {PP : List D → Iv X.K → Prop} (p : PP [] I) : EvK X W R [] δ I PP := fun σ G H Q hE s hI qx q => ⟨fun pos pins s1 J => pk_nil.run pos pins s1 σ H Q J (q [] [] G H I (Same.refl G) s hI rfl p)⟩
theorem ek_cons {PP : List D → Iv X.K → Prop} {nm : Option Str} {kpos : Pos} {kws : List Keyword} (h : EvX X W R e δ I fun d I1 => EvK X W R kws δ I1 fun ds I2 => PP (d :: ds) I2) : EvK X W R (⟨nm, e, kpos⟩ :: kws) δ I PP := fun σ G H Q hE s hI qx q => ⟨fun pos pins s1 J =>
  (pk_cons peC pkC).run pos pins s1 σ H Q J (h σ G H _ hE s hI qx fun v d G1 H1 I1 s1 t1 h1 r1 k => k σ G1 H1 _ (hE.mono s1) t1 h1 (qx.mono s1) fun vs ds G2 H2 I2 s2 t2 h2 r2 k2 => q (v :: vs) (d :: ds) G2 H2 I2 (s1.trans s2) t2 h2 ⟨v, vs, rfl, r1.mono s2, r2⟩ k2)⟩
theorem ev_makeSl {x' : Str} {f : Addr} {fd : FuncData} {ps ks : List Str} {j m : Nat} {S : Spec X.K} {kws : List Keyword} {g : List Value → List Value → List Value} {gV : List V → List V → List V} (gD : List D → List D → List D) (tk : Takes X W) (M : Mk X.K C f) (F : FnOk X.prog X.w X.K X.mg X.base (L2.CX X.prog X.w) j f fd ps (spD X.K S))
    (hr : Room (j + 1) X.A) (hm : X.mg x' = some (.ref C)) (hb : KBn X.K fd ps (m + 1) ks g gV) (hgD : ∀ {G : Hp} {ds zs : List D} {vs ws : List V}, Reps X.K G ds vs → Reps X.K G zs ws → Reps X.K G (gD ds zs) (gV vs ws))
    (h : EvA X W R (e :: es) δ I fun ds I1 => EvK X W R kws δ I1 fun zs I2 => ds.length = m ∧ zs.length = ks.length ∧ ∀ y dy, (∀ a, ¬ (I2.F a ∧ (a = y ∨ a = dy))) → S (I2.and (iSl X.K y C dy [])) (gD (.adr y :: ds) zs)
      (fun v I3 => v = .non ∧ ∃ fs : List D, I3 = I2.and (iSl X.K y C dy (fs.map some)) ∧ P (.slo C fs) I2) (fun C' fs I3 => ∃ os, I3 = I2.and (iSl X.K y C dy os) ∧ R C' fs I2))
    (hg : Gl X x' := by rfl) (hdb : (x' == ("__debug__" : Str)) = false := by decide) (hall : (backToKw pos (keywordEach kws X.env)).all (·.1.isSome) = true := by rfl) (hks : (backToKw pos (keywordEach kws X.env)).filterMap (·.1) = ks := by rfl)
    (he : starEach (e :: es) X.env = (false, eval e X.env) :: starEach es X.env := by rfl) (hpl : ((backTo pos (starEach (e :: es) X.env)).any (·.1) || (backToKw pos (keywordEach kws X.env)).any (·.1.isNone)) = false := by rfl) : EvX X W R (.Call (.Name x' p) (e :: es) kws pos) δ I P := fun σ G H Q hE s hI qx q => ⟨fun pins s0 J0 => by
  refine wpAny_Call_Name_kw (ld_glob J0 hg hm ?_ hdb)
  refine PySem.W.callWith_KW (h₀ := X.base) J0.ok.mod.kin M.kp hall ?_ hpl he
  refine thn ((h σ G H (fun vs H1 => ∀ (st : Shared) (us : List Value), Inv X pins σ H1 st → Vals vs us → wpAny (model X.prog X.w) X.A (evalAll ((backToKw pos (keywordEach kws X.env)).map (·.2)))
    (fun ws st2 => X.K.In st2.heap ∧ wpAny (model X.prog X.w) X.A (call (.ref C) us (((backToKw pos (keywordEach kws X.env)).filterMap (·.1)).zip ws)) (EP X pins σ Q) X.xe st2) X.xe st) hE s hI qx ?_).run pos pins s0 J0) fun us s1 ⟨vs, H1, J1, rv, z⟩ => z s1 us J1 rv
  intro vs ds G1 H1 I1 s1 t1 h1 r1 k st1 us J1 rv
  refine thn ((k σ G1 H1 (fun zs H2 => ∀ (st : Shared) (ws : List Value), Inv X pins σ H2 st → Vals zs ws → X.K.In st.heap ∧ wpAny (model X.prog X.w) X.A (call (.ref C) us (((backToKw pos (keywordEach kws X.env)).filterMap (·.1)).zip ws)) (EP X pins σ Q) X.xe st)
    (hE.mono s1) t1 h1 (qx.mono s1) ?_).run pos pins st1 J1) fun ws s2 ⟨zs, H2, J2, rz, z⟩ => z s2 ws J2 rz
  intro zs dz G2 H2 I2 s2 t2 h2 r2 ⟨hn, hk, hS⟩ st2 ws J2 rz
  refine ⟨J2.kIn, ?_⟩
  rw [hks]
  have J3 := Inv.made (C := C) J2
  have nd : H2 st2.heap.objs.size = none := J2.hok.fresh (Nat.le_refl _)
  have ny : H2 (st2.heap.objs.size + 1) = none := J2.hok.fresh (Nat.le_succ _)
  have dn : st2.heap.objs.size ≠ st2.heap.objs.size + 1 := Nat.ne_of_lt (Nat.lt_succ_self _)
  have rs : Vals (V.ref (st2.heap.objs.size + 1) :: vs) (Value.ref (st2.heap.objs.size + 1) :: us) := .cons rfl rv
  have rel := hb.rel rs rz
  have gd : G2 st2.heap.objs.size = none := t2.free nd
  have gy : G2 (st2.heap.objs.size + 1) = none := t2.free ny
  have ny2 : upd H2 st2.heap.objs.size (.own (st2.heap.objs.size + 1)) (st2.heap.objs.size + 1) = none := by rw [upd_ne (Ne.symm dn)]; exact ny
  have na : ∀ a, ¬ (I2.F a ∧ (a = st2.heap.objs.size + 1 ∨ a = st2.heap.objs.size)) := fun a ha => ha.2.elim (fun e => h2.dom ha.1 (by rw [e]; exact ny)) (fun e => h2.dom ha.1 (by rw [e]; exact nd))
  have hd3 : Hd (I2.and (iSl X.K (st2.heap.objs.size + 1) C st2.heap.objs.size [])) G2 (upd (upd H2 st2.heap.objs.size (.own (st2.heap.objs.size + 1))) (st2.heap.objs.size + 1) (.ins C st2.heap.objs.size [])) := by
    refine Hd.mk2 ((h2.newp nd).newp ny2) ⟨⟨by rw [upd_ne dn, upd_same]; simp, dn, [], .inl ⟨upd_same, rfl⟩, rfl, fun i d z => by simp at z⟩, fun a ha => ?_⟩ na
    rcases ha with e | e
    · subst e; exact gy
    · subst e; exact gd
  refine wpAny_call (make_map (f := f) J2.kIn M.makes M.init (beq_iff_eq.mp M.fn) (codeAny_mono (F.run _ X.stack _ _ ⟨Value.ref (st2.heap.objs.size + 1) :: us, ks.zip ws⟩ _ _ (fun v H3 => v = .non ∧ Q (.ref (st2.heap.objs.size + 1)) H3) (WE W σ) (hr.make C us (ks.zip ws))
    (J3.env0.make C us (ks.zip ws)) (hb.to _ _ ws J3.kIn ?_ ?_) rel ⟨_, G2, gD (.adr (st2.heap.objs.size + 1) :: ds) dz, _, _, same_upd (same_upd t2 gd) gy, hd3, hgD (.cons rfl (r1.mono s2)) r2, hS _ _ na, ?_, ?_⟩) fun r s' hq => ?_))
  · rw [List.length_cons, ← rv.length, r1.length, hn]
  · rw [← rz.length, r2.length, hk]
  · intro v d G' H' I' s3 t3 h3 r3 ⟨ed, fs, eI, pp⟩
    subst ed eI
    obtain ⟨G4, s4, t4, h4, r4⟩ := freeze_sl t3 h3
    exact ⟨r3, q (.ref _) (.slo C fs) G4 H' I2 ((s1.trans s2).trans (s3.trans s4)) t4 h4 r4 pp⟩
  · intro C' dd fs l G' H' I' s3 t3 h3 r3 hx ⟨os, eI, pp⟩
    subst eI
    exact qx C' dd fs l G' H' I2 ((s1.trans s2).trans s3) t3 h3.left r3 hx pp
  · cases r with
    | error e => exact passAt tk σ pins _ _ e s' J3 hq
    | ok fl =>
      cases fl with
      | ret u =>
        obtain ⟨v, H', J4, rv', ev, q3⟩ := J3.after hq
        subst ev
        exact ⟨rv', ⟨V.ref (st2.heap.objs.size + 1), H', J4, rfl, q3⟩⟩
      | next => exact False.elim hq
      | brk => exact False.elim hq
      | cont => exact False.elim hq⟩
end
end DL
set_option Elab.async false
set_option linter.all false
set_option maxRecDepth 100000
set_option maxHeartbeats 4000000
namespace DL
open PySem PySem.Spec PyProof.Rows L2

def Rc.comp {K : PySem.W.Frag} : Rc K → Rc K → Rc K
  | .here, c' => c'
  | .l c J, c' => .l (c.comp c') J
  | .r J c, c' => .r J (c.comp c')
theorem fill_comp {K : PySem.W.Frag} {I : Iv K} (c' : Rc K) : ∀ c : Rc K, (c.comp c').fill I = c.fill (c'.fill I)
  | .here => rfl
  | .l c J => by show ((c.comp c').fill I).and J = _; rw [fill_comp c' c]; rfl
  | .r J c => by show J.and ((c.comp c').fill I) = _; rw [fill_comp c' c]; rfl
theorem Sub.trans {K : PySem.W.Frag} {I J L : Iv K} (a : Sub I J) (b : Sub J L) : Sub I L := ⟨fun x => (b.F x).trans (a.F x), fun G H h => b.φ G H (a.φ G H h)⟩
theorem Sub.assoc {K : PySem.W.Frag} {I J L : Iv K} : Sub ((I.and J).and L) (I.and (J.and L)) := ⟨fun a => ⟨fun h => h.elim (fun z => .inl (.inl z)) fun z => z.elim (fun z => .inl (.inr z)) .inr, fun h => h.elim (fun z => z.elim .inl fun z => .inr (.inl z)) fun z => .inr (.inr z)⟩,
  fun G H h => ⟨h.1.1, ⟨h.1.2.1, h.2.1, fun a ha => h.2.2 a ⟨.inr ha.1, ha.2⟩⟩, fun a ha => ha.2.elim (fun z => h.1.2.2 a ⟨ha.1, z⟩) fun z => h.2.2 a ⟨.inl ha.1, z⟩⟩⟩
theorem Sub.comm {K : PySem.W.Frag} {I J : Iv K} : Sub (I.and J) (J.and I) := ⟨fun a => ⟨Or.symm, Or.symm⟩, fun G H h => ⟨h.2.1, h.1, fun a ha => h.2.2 a ⟨ha.2, ha.1⟩⟩⟩
section
variable {X : Cx} {W : WX} {R : Rx X.K} {a b e o : Expr} {es : List Expr} {sts : List Stmt} {st : Stmt} {δ : DEnv} {I I' : Iv X.K} {P P' : D → Iv X.K → Prop} {pos p : Pos} {d z : D} {x' : Str} {κ : Ko X.K}
theorem EvX.sub (s : Sub I I') (h : EvX X W R e δ I' P) : EvX X W R e δ I P := fun σ G H Q hE sm hI qx q => h σ G H Q hE sm (hI.sub s) qx q
theorem SX.sub (s : Sub I I') (h : SX X W sts δ I' κ) : SX X W sts δ I κ := fun σ G H E hE sm hI k => h σ G H E hE sm (hI.sub s) k
theorem EvX.reg (h : EvX X W R e δ I P') (k : ∀ d I', P' d I' → ∃ I'', Sub I' I'' ∧ P d I'') : EvX X W R e δ I P := fun σ G H Q hE sm hI qx q => h σ G H Q hE sm hI qx fun v d G' H' I' s1 s2 h1 r p => by
  obtain ⟨I'', s3, p'⟩ := k d I' p
  exact q v d G' H' I'' s1 s2 (h1.sub s3) r p'
theorem SX.eq (e : I = I') (h : SX X W sts δ I' κ) : SX X W sts δ I κ := e ▸ h
theorem ev_lstMM (h : EvA X W R es δ I fun ds I1 => ds.length ≤ 1000 ∧ ∀ p, (∀ a, ¬ (I1.F a ∧ a = p)) → P (.adr p) (I1.and (iLst X.K p ds))) : EvX X W R (.List es pos) δ I P := fun σ G H Q hE s hI qx q =>
  PE.wp (pe_lst paC) (h σ G H _ hE s hI qx fun vs ds G1 H1 I1 s1 t1 h1 r1 ⟨hl, hp⟩ => ⟨by rw [r1.length, sizeLine_eq]; omega, fun p hq => by
    have hg : G1 p = none := t1.free hq
    have na : ∀ a, ¬ (I1.F a ∧ a = p) := fun a ha => h1.dom ha.1 (by rw [ha.2]; exact hq)
    exact q (.ref p) (.adr p) G1 _ (I1.and (iLst X.K p ds)) s1 (same_upd t1 hg) (Hd.mk2 (h1.newp hq) ⟨⟨_, upd_same, vs, rfl, r1⟩, fun a ha => by rw [show a = p from ha]; exact hg⟩ na) rfl (hp p na)⟩)
theorem pv_gint {i : Int} (hm : ∃ t, X.mg x' = some (.int i t)) (hg : Gl X x' := by rfl) (hdb : (x' == ("__debug__" : Str)) = false := by decide) : PV X I (.Name x' pos) δ (.int i) := by
  obtain ⟨t, ht⟩ := hm
  exact pv_g (v := .int i) ht ⟨t, rfl⟩ (fun _ => rfl) hg hdb
theorem pv_gstr {w : Str} (hm : ∃ t, X.mg x' = some (.str w t)) (hg : Gl X x' := by rfl) (hdb : (x' == ("__debug__" : Str)) = false := by decide) : PV X I (.Name x' pos) δ (.str w) := by
  obtain ⟨t, ht⟩ := hm
  exact pv_g (v := .str w) ht ⟨t, rfl⟩ (fun _ => rfl) hg hdb
structure GTup (K : PySem.W.Frag) (mg : Str → Option Value) (x : Str) (ds : List D) : Prop where
  ex : ∃ a vs, mg x = some (.ref a) ∧ flatDs ds = some vs ∧ ∀ G, SqT K G a vs
theorem reps_flat {K : PySem.W.Frag} {G : Hp} : ∀ {ds : List D} {vs : List V}, flatDs ds = some vs → Reps K G ds vs
  | [], vs, h => by
    have e : ([] : List V) = vs := Option.some.inj h
    rw [← e]
    exact rfl
  | d :: ds, vs, h => by
    unfold flatDs at h
    cases h1 : flatD d with
    | none => rw [h1] at h; cases h
    | some u =>
      cases h2 : flatDs ds with
      | none => rw [h1, h2] at h; cases h
      | some us =>
        rw [h1, h2] at h
        have e := Option.some.inj h
        rw [← e]
        refine ⟨u, us, rfl, ?_, reps_flat h2⟩
        cases d <;> first | (cases h1; rfl) | cases h1
theorem pv_gtup {ds : List D} (hm : GTup X.K X.mg x' ds) (hg : Gl X x' := by rfl) (hdb : (x' == ("__debug__" : Str)) = false := by decide) : PV X I (.Name x' pos) δ (.tup ds) := by
  obtain ⟨a, vs, h1, h2, h3⟩ := hm.ex
  exact pv_g (v := .ref a) h1 rfl (fun G => ⟨a, vs, rfl, h3 G, reps_flat h2⟩) hg hdb
theorem pv_gref {a : Addr} (hm : X.mg x' = some (.ref a)) (hg : Gl X x' := by rfl) (hdb : (x' == ("__debug__" : Str)) = false := by decide) : PV X I (.Name x' pos) δ (.adr a) := pv_g (v := .ref a) hm rfl (fun _ => rfl) hg hdb
end
theorem str_or (d : D) {t : String} (h : tyD d = some t) : (∃ s, d = .str s) ∨ (kitB t "str" = some false ∧ ∀ s, d ≠ .str s) := by
  cases d with
  | str s => exact .inl ⟨s, rfl⟩
  | non => cases h; exact .inr ⟨by decide +kernel, fun s z => nomatch z⟩
  | bl b => cases h; exact .inr ⟨by decide +kernel, fun s z => nomatch z⟩
  | int i => cases h; exact .inr ⟨by decide +kernel, fun s z => nomatch z⟩
  | tup _ => cases h; exact .inr ⟨by decide +kernel, fun s z => nomatch z⟩
  | lst _ => cases h; exact .inr ⟨by decide +kernel, fun s z => nomatch z⟩
  | lsf _ => cases h; exact .inr ⟨by decide +kernel, fun s z => nomatch z⟩
  | dic _ _ => cases h; exact .inr ⟨by decide +kernel, fun s z => nomatch z⟩
  | _ => cases h
def sMix {K : PySem.W.Frag} (m : Int) : Spec K := fun I ds P _ => ∃ (ns : List Int) (seed : Int), ds = [.lsf (ns.map D.int), .int seed] ∧ ns.length ≤ 63 ∧ ∀ a b, P (.adr a) (I.and (iDr K a b))
def sNext {K : PySem.W.Frag} : Spec K := fun I ds P _ => ∃ (a b : Addr) (c : Rc K) (n : Int), ds = [.adr a, .int n] ∧ I = c.fill (iDr K a b) ∧ 0 < n ∧ n < 1000000000 ∧ ∀ k : Int, 0 ≤ k → k < n → P (.int k) I
end DL
namespace DL
open PySem PySem.Spec PyProof.Rows L2
section
variable {X : Cx} {W : WX} {R : Rx X.K} {elt tg iter c : Expr} {ifs : List Expr} {scope : Scope} {δ : DEnv} {I : Iv X.K} {pos : Pos} {ds : List D}
theorem take_snoc {α : Type} {l : List α} {i : Nat} {x : α} (h : l[i]? = some x) : l.take (i + 1) = l.take i ++ [x] := by
  have hl := (List.getElem?_eq_some_iff.mp h).1
  rw [List.take_succ, h]
  rfl
theorem m_more (f : D → D) {i : Nat} {d : D} {ys : List D} (hd : ds[i]? = some d) (e : ys = (ds.take i).map f) : ys ++ [f d] = (ds.take (i + 1)).map f := by
  rw [take_snoc hd, List.map_append, ← e]
  rfl
theorem m_end (f : D → D) {ys : List D} (e : ys = (ds.take ds.length).map f) : ys = ds.map f := by
  rw [List.take_length] at e
  exact e
theorem pv_lcMap (f : D → D) (own : List (Str × Nat)) (δ' : D → DEnv) (hi : PVI X I tg iter δ ds) (hz : ds.length ≤ 1000000)
    (hb : ∀ (d : D) (s : Shared) (H : Hp) (C : Addr) (cl : List (Str × Addr)) (fp : List Addr), BindD (X.blk s H scope (compEnvC scope cl C X.env) fp) tg d (wipeD δ (own.map (·.2))) (δ' d) (own.map (·.2)))
    (he : ∀ d, d ∈ ds → ∀ (J : Iv X.K) (s : Shared) (H : Hp) (C : Addr) (cl : List (Str × Addr)) (fp : List Addr), PV (X.blk s H scope (compEnvC scope cl C X.env) fp) (I.and J) elt (δ' d) (f d))
    (hN : X.N.Nodup := by assumption) (ok : blkC X.N X.env.scope scope own = true := by rfl)
    (hc : X.calm = true := by rfl) (hs : ∀ x, foldedSetIterable iter X.env x = pure x := by intro _; rfl) : PV X I (.ListComp elt [⟨tg, iter, [], 0⟩] scope pos) δ (.lst (ds.map f)) := fun W R P p =>
  ev_lc own hN (blkOk_by ok) (hi W R _ ⟨hz, fun i ys => ys = (ds.take i).map f, δ', rfl, fun i d ys hd e => ⟨fun b => b = true, fun J s H C cl fp => ⟨hb d s H C cl fp, ets_nil ⟨rfl, rfl⟩⟩, fun _ J s H C cl fp => he d (List.mem_of_getElem? hd) J s H C cl fp _ _ _ ⟨rfl, m_more f hd e⟩, fun e2 => nomatch (show false = true from e2)⟩, fun ys e => m_end f e ▸ p⟩) hc hs
end
theorem pn_isiT {K : PySem.W.Frag} {I : Iv K} {d : D} {t u : String} (h : tyD d = some t) (hb : kitB t u = some true := by decide +kernel) : PN K I (rIsi K) [d, .ty u] (.bl true) := pn_isi h hb
theorem pn_isiF {K : PySem.W.Frag} {I : Iv K} {d : D} {t u : String} (h : tyD d = some t) (hb : kitB t u = some false) : PN K I (rIsi K) [d, .ty u] (.bl false) := pn_isi h hb
end DL
namespace DL
open PySem PySem.Spec PyProof.Rows L2
section
variable {X : Cx} {W : WX} {a b c : Expr} {rest : List Expr} {sts els : List Stmt} {δ : DEnv} {I : Iv X.K} {pos : Pos} {κ : Ko X.K}
theorem ww_orT (h : PVT X I a δ true) : PVW X I (.BoolOp .Or (a :: b :: rest) pos) δ true := fun W R P p => ew_or (h W R _ p)
theorem ww_orF {k : Bool} (h : PVT X I a δ false) (h2 : PVW X I (.BoolOp .Or (b :: rest) pos) δ k) : PVW X I (.BoolOp .Or (a :: b :: rest) pos) δ k := fun W R P p => ew_or (h W R _ (h2 W R P p))
theorem ww_andF (h : PVT X I a δ false) : PVW X I (.BoolOp .And (a :: b :: rest) pos) δ false := fun W R P p => ew_and (h W R _ p)
theorem pv_andF (h : PV X I a δ (.bl false)) : PV X I (.BoolOp .And (a :: b :: rest) pos) δ (.bl false) := pv_and h (fun z => nomatch z) fun _ => rfl
theorem pv_andT {z : D} (h : PV X I a δ (.bl true)) (h2 : PV X I (.BoolOp .And (b :: rest) pos) δ z) : PV X I (.BoolOp .And (a :: b :: rest) pos) δ z := pv_and h (fun _ => h2) fun z => nomatch z
theorem s_ifT (h : PVT X I c δ true) (h1 : SX X W sts δ I κ) : S1 X W (.If c sts els pos) δ I κ := s_ifP h (fun _ => h1) fun z => nomatch z
theorem s_ifF (h : PVT X I c δ false) (h1 : SX X W els δ I κ) : S1 X W (.If c sts els pos) δ I κ := s_ifP h (fun z => nomatch z) fun _ => h1
end
end DL
set_option Elab.async false
set_option linter.all false
set_option maxRecDepth 100000
set_option maxHeartbeats 4000000
namespace DL
open PySem PySem.Spec PyProof.Rows L2

def oeB (K : PySem.W.Frag) (C : Addr) : Bool := (match K.lookup C with
  | some ⟨.type "type", _, .cls cd, sl⟩ => (match cd.mro, sl.toList with
    | .ref C' :: bm, [_, _, _, _, some (.builtin n), _] => C' == C && n == "ValueError.__new__" && !cd.hasDel && cd.hasDict && HandSPX.refsVE bm
    | _, _ => false)
  | _ => false) && He.eqO (PySem.W.findIn K (.ref C) "__setattr__") (some (some (.builtin "object.__setattr__"))) && decide (PySem.W.subIn K (.ref C) (.type "BaseException") = some true) && decide (PySem.W.typeIn K (.ref C) = some (.type "type")) && PySem.W.keepIn K (.ref C)
theorem oeB_ok {K : PySem.W.Frag} {C : Addr} (h : oeB K C = true) : OexC K C := by
  unfold oeB at h
  obtain ⟨h, h5⟩ := Bool.and_eq_true_iff.mp h
  obtain ⟨h, h4⟩ := Bool.and_eq_true_iff.mp h
  obtain ⟨h, h3⟩ := Bool.and_eq_true_iff.mp h
  obtain ⟨h1, h2⟩ := Bool.and_eq_true_iff.mp h
  refine ⟨?_, He.eqO_ok h2, of_decide_eq_true h3, of_decide_eq_true h4, h5⟩
  split at h1
  · rename_i dd cd sl e
    split at h1
    · rename_i C' bm k0 k1 k2 k3 n k5 em es
      simp only [Bool.and_eq_true, beq_iff_eq, Bool.not_eq_true'] at h1
      obtain ⟨⟨⟨⟨e1, e2⟩, e3⟩, e4⟩, e5⟩ := h1
      obtain ⟨nm, bs, mro, ns, qn, hd, sn, sb, ab, col, del⟩ := cd
      dsimp only at em e3 e4
      subst e1 e2 e3 e4 em
      have esl : sl = #[k0, k1, k2, k3, some (.builtin "ValueError.__new__"), k5] := by
        apply Array.ext'
        rw [es]
      subst esl
      exact ⟨_, _, _, _, bm, _, _, _, _, _, _, _, _, _, _, e, e5⟩
    · cases h1
  · cases h1
def scB (K : PySem.W.Frag) (C : Addr) : Bool := PySem.W.plainGet K C Str.empty && PySem.W.isClsIn K C && PySem.W.plainOver K C && He.eqO (PySem.W.findIn K (.ref C) "__setattr__") (some (some (.builtin "object.__setattr__")))
theorem scB_ok {K : PySem.W.Frag} {C : Addr} (h : scB K C = true) : SlX.SCls K C := by
  obtain ⟨h, h4⟩ := Bool.and_eq_true_iff.mp h
  obtain ⟨h, h3⟩ := Bool.and_eq_true_iff.mp h
  obtain ⟨h1, h2⟩ := Bool.and_eq_true_iff.mp h
  exact ⟨h1, h2, h3, He.eqO_ok h4⟩
def slB (K : PySem.W.Frag) (C : Addr) (f : Str) (i : Nat) : Bool := He.eqO (PySem.W.findIn K (.ref C) f) (some (some (.ref (He.ma K C f)))) && He.eqO (PySem.W.specialIn K (.ref (He.ma K C f)) "__get__") (some (some (.builtin "member_descriptor.__get__"))) &&
  decide (PySem.W.takesIn K (.ref (He.ma K C f)) = some true) && decide (PySem.W.typeIn K (.ref (He.ma K C f)) = some (.type "member_descriptor")) && decide (PySem.W.slotIn K (He.ma K C f) C = some i) && decide (i < 1000)
theorem slB_ok {K : PySem.W.Frag} {C : Addr} {f : Str} {i : Nat} (h : slB K C f i = true) : SlX.Slot1 K C f (He.ma K C f) i := by
  obtain ⟨h, h6⟩ := Bool.and_eq_true_iff.mp h
  obtain ⟨h, h5⟩ := Bool.and_eq_true_iff.mp h
  obtain ⟨h, h4⟩ := Bool.and_eq_true_iff.mp h
  obtain ⟨h, h3⟩ := Bool.and_eq_true_iff.mp h
  obtain ⟨h1, h2⟩ := Bool.and_eq_true_iff.mp h
  exact ⟨He.eqO_ok h1, He.eqO_ok h2, of_decide_eq_true h3, of_decide_eq_true h4, of_decide_eq_true h5, of_decide_eq_true h6⟩
structure TExc (K : PySem.W.Frag) (mg : Str → Option Value) (x : Str) : Prop where
  g : mg x = some (.ref (He.ga K x))
  oe : OexC K (He.ga K x)
  iC : PySem.W.findIn K (.ref (He.ga K x)) "__init__" = some (some (.ref (He.ma K (He.ga K x) "__init__")))
  tI : PySem.W.typeIn K (.ref (He.ma K (He.ga K x) "__init__")) = some (.type "function")
def exB (K : PySem.W.Frag) (x : Str) : Bool := He.eqO (PySem.W.nsIn K mainGlobals x) (some (some (.ref (He.ga K x)))) && oeB K (He.ga K x) && He.eqO (PySem.W.findIn K (.ref (He.ga K x)) "__init__") (some (some (.ref (He.ma K (He.ga K x) "__init__")))) && decide (PySem.W.typeIn K (.ref (He.ma K (He.ga K x) "__init__")) = some (.type "function"))
theorem exB_ok {K : PySem.W.Frag} {h : Heap} {mg : Str → Option Value} (X : K.In h) (G : h.Ns mainGlobals mg) {x : Str} (q : exB K x = true) : TExc K mg x := by
  obtain ⟨q, h4⟩ := Bool.and_eq_true_iff.mp q
  obtain ⟨q, h3⟩ := Bool.and_eq_true_iff.mp q
  obtain ⟨h1, h2⟩ := Bool.and_eq_true_iff.mp q
  exact ⟨PySem.W.mg_of X G (He.eqO_ok h1), oeB_ok h2, He.eqO_ok h3, of_decide_eq_true h4⟩
theorem gtup_of {K : PySem.W.Frag} {h : Heap} {mg : Str → Option Value} (X : K.In h) (G : h.Ns mainGlobals mg) {x : Str} {ds : List D} {vs : List He.Dv} (q : He.tupB K x vs = true) (g : He.eqO (PySem.W.nsIn K mainGlobals x) (some (some (.ref (He.ga K x)))) = true) (e : flatDs ds = some (vs.map (He.Dv.v K))) : GTup K mg x ds :=
  ⟨_, _, PySem.W.mg_of X G (He.eqO_ok g), e, fun H => He.tupB_ok q H⟩
theorem flatDs_str : ∀ ws : List Str, flatDs (ws.map D.str) = some (ws.map V.str)
  | [] => rfl
  | w :: ws => by
    have ih := flatDs_str ws
    show (match flatD (D.str w), flatDs (ws.map D.str) with | some v, some vs => some (v :: vs) | _, _ => none) = _
    rw [ih]
    rfl
theorem inV_str (s : Str) : ∀ ws : List Str, inV (.str s) (ws.map V.str) = decide (s ∈ ws)
  | [] => by simp [inV]
  | w :: ws => by
    have ih := inV_str s ws
    unfold inV at ih ⊢
    rw [List.map_cons, List.any_cons, ih]
    show (w == s || decide (s ∈ ws)) = decide (s ∈ w :: ws)
    by_cases h : w = s
    · subst h; simp
    · have h2 : ¬ s = w := fun e => h e.symm
      simp [h, h2]
theorem allflat_str (ws : List Str) : (ws.map V.str).all flatV = true := by
  rw [List.all_map]
  exact List.all_eq_true.mpr fun _ _ => rfl
theorem p2_inStr {K : PySem.W.Frag} {I : Iv K} {s : Str} {ws : List Str} : P2 K I (rIn K false) (.str s) (.tup (ws.map D.str)) (.bl (decide (s ∈ ws))) :=
  p2_in rfl (flatDs_str ws) rfl (allflat_str ws) (by rw [if_neg Bool.false_ne_true]; exact inV_str s ws) (.inr rfl)
theorem p2_ninStr {K : PySem.W.Frag} {I : Iv K} {s : Str} {ws : List Str} : P2 K I (rIn K true) (.str s) (.tup (ws.map D.str)) (.bl (!decide (s ∈ ws))) :=
  p2_in rfl (flatDs_str ws) rfl (allflat_str ws) (by rw [if_pos rfl, inV_str s ws]) (.inr rfl)
theorem p2_inStrL {K : PySem.W.Frag} {I : Iv K} {s : Str} {ws : List Str} : P2 K I (rIn K false) (.str s) (.lst (ws.map D.str)) (.bl (decide (s ∈ ws))) :=
  p2_in rfl (flatDs_str ws) rfl (allflat_str ws) (by rw [if_neg Bool.false_ne_true]; exact inV_str s ws) (.inl rfl)
theorem p2_ninStrL {K : PySem.W.Frag} {I : Iv K} {s : Str} {ws : List Str} : P2 K I (rIn K true) (.str s) (.lst (ws.map D.str)) (.bl (!decide (s ∈ ws))) :=
  p2_in rfl (flatDs_str ws) rfl (allflat_str ws) (by rw [if_pos rfl, inV_str s ws]) (.inl rfl)
end DL
namespace DL
open PySem PySem.Spec PyProof.Rows L2
structure Def (P : Program) (w : World) (K : PySem.W.Frag) (mg : Str → Option Value) (base : Heap) (x : Str) (k : Nat) (ps : List Str) (dds : List D) (S : Spec K) : Prop where
  ex : ∃ (f : Addr) (fd : FuncData) (dvs : List V) (us : List Value), mg x = some (.ref f) ∧ PySem.W.keepIn K (.ref f) = true ∧ FnOk P w K mg base (L2.CX P w) k f fd ps (spD K S) ∧ L2.Binds K fd ps us ∧ Vals dvs us ∧ ∀ G, Reps K G dds dvs
section
variable {P : Program} {w : World} {K : PySem.W.Frag} {mg : Str → Option Value} {base : Heap} {x qual : Str} {params : Arguments} {body : List Stmt} {scope : Scope} {f : Addr} {fd : FuncData} {ps : List Str} {k : Nat} {S : Spec K}
theorem Def.of (g : mg x = some (.ref f)) (F : FunD K x qual params body scope [] [] f fd) (ok : FnOk P w K mg base (L2.CX P w) k f fd ps (spD K S))
    (h : ∀ (kV doc pm : Value) (an : Option Addr) (cdv ct : Value) (us : List Value), us.length = ps.length → bindArgs (PySem.W.fnOf x qual params body scope .none kV doc pm an cdv ct) ⟨us, []⟩ = pure (ps.zip us)) : Def P w K mg base x k ps [] S :=
  ⟨f, fd, [], [], g, F.kp, ok, F.bindsN h, .nil, fun _ => rfl⟩
end
section
variable {X : Cx} {W : WX} {R : Rx X.K} {e : Expr} {es : List Expr} {δ : DEnv} {I : Iv X.K} {P : D → Iv X.K → Prop} {pos p : Pos} {x : Str} {ps : List Str} {k : Nat} {S : Spec X.K} {dds : List D} {ds : List D} {d : D}
theorem ev_def (tk : Takes X W) (F : Def X.prog X.w X.K X.mg X.base x k ps dds S) (hr : Room k X.A) (h : EvA X W R (e :: es) δ I fun ds I1 => S I1 (ds ++ dds) P R) (hg : Gl X x := by rfl) (hdb : (x == ("__debug__" : Str)) = false := by decide)
    (he : starEach (e :: es) X.env = (false, eval e X.env) :: starEach es X.env := by rfl) (hpl : (backTo pos (starEach es X.env)).any (·.1) = false := by rfl) : EvX X W R (.Call (.Name x p) (e :: es) [] pos) δ I P := by
  obtain ⟨f, fd, dvs, us, g, kp, ok, b, v, r⟩ := F.ex
  exact ev_callD tk ok hr g kp b v r h hg hdb he hpl
theorem pv_def (F : Def X.prog X.w X.K X.mg X.base x k ps dds S) (hr : Room k X.A) (ha : PVA X I (e :: es) δ ds) (hS : ∀ (P : D → Iv X.K → Prop), P d I → S I (ds ++ dds) P (fun _ _ _ => False)) (hg : Gl X x := by rfl) (hdb : (x == ("__debug__" : Str)) = false := by decide)
    (he : starEach (e :: es) X.env = (false, eval e X.env) :: starEach es X.env := by rfl) (hpl : (backTo pos (starEach es X.env)).any (·.1) = false := by rfl) : PV X I (.Call (.Name x p) (e :: es) [] pos) δ d := by
  obtain ⟨f, fd, dvs, us, g, kp, ok, b, v, r⟩ := F.ex
  exact pv_callD ok hr g kp b v r ha hS hg hdb he hpl
end
end DL
namespace DL
open PySem PySem.Spec PyProof.Rows L2
section
variable {X : Cx} {W : WX} {R : Rx X.K} {e : Expr} {es : List Expr} {δ : DEnv} {I : Iv X.K} {P : D → Iv X.K → Prop} {d : D} {ds : List D}
theorem PV.ev (h : PV X I e δ d) (p : P d I) : EvX X W R e δ I P := h W R P p
theorem PVA.ev {P : List D → Iv X.K → Prop} (h : PVA X I es δ ds) (p : P ds I) : EvA X W R es δ I P := h W R P p
theorem PVT.ev {P : Bool → Iv X.K → Prop} {b : Bool} (h : PVT X I e δ b) (p : P b I) : EvT X W R e δ I P := h W R P p
end
end DL
namespace DL
open PySem PySem.Spec PyProof.Rows L2
section
variable {X : Cx} {W : WX} {R : Rx X.K} {e : Expr} {es : List Expr} {δ : DEnv} {I : Iv X.K} {P : D → Iv X.K → Prop} {d : D} {ds : List D}
theorem ev_reg (h : EvX X W R e δ I fun d I' => ∃ I'', Sub I' I'' ∧ P d I'') : EvX X W R e δ I P := EvX.reg h fun _ _ z => z
theorem iDr_of2 {K : PySem.W.Frag} {J : Iv K} {a b : Addr} {s k m : Int} {ns : List Int} (hl : ns.length ≤ 63) : Sub ((J.and (iLst K b (ns.map D.int))).and (iLst K a [.int s, .adr b, .int k, .int m])) (J.and (iDr K a b)) :=
  Sub.assoc.trans (Sub.andR (Sub.comm.trans (iDr_of hl)))
end
end DL
set_option Elab.async false
set_option linter.all false
set_option maxRecDepth 100000
set_option maxHeartbeats 4000000
namespace DL
open PySem PySem.Spec PyProof.Rows L2

theorem str_ext {s t : Str} (h : s.cps.toList = t.cps.toList) : s = t := by
  obtain ⟨a⟩ := s
  obtain ⟨b⟩ := t
  exact congrArg Str.mk (Array.ext' h)
theorem str_app (s t : Str) : (s ++ t).cps.toList = s.cps.toList ++ t.cps.toList := by
  show (s.cps ++ t.cps).toList = _
  simp
theorem str_len (s : Str) : s.length = s.cps.toList.length := by
  show s.cps.size = _
  simp
def one (c : Nat) : Str := ⟨#[c]⟩
theorem join_ones (e : Str) (he : e.cps.toList = []) : ∀ cs : List Nat, Txt.join e (cs.map one) = ⟨cs.toArray⟩ := by
  intro cs
  rw [TL.join_eq]
  induction cs with
  | nil => rfl
  | cons c cs ih =>
    cases cs with
    | nil => rfl
    | cons d ds =>
      have e1 : Str.join e ((c :: d :: ds).map one) = one c ++ e ++ Str.join e ((d :: ds).map one) := by
        first
          | rfl
          | (simp only [List.map_cons, Str.join]; rfl)
      rw [e1, ih]
      apply str_ext
      rw [str_app, str_app, he]
      show [c] ++ [] ++ _ = _
      simp
section
variable {X : Cx} {W : WX} {R : Rx X.K} {e e0 e1 : Expr} {es : List Expr} {δ : DEnv} {I : Iv X.K} {P : D → Iv X.K → Prop} {d : D} {ds : List D} {pos p : Pos} {a b : Addr} {n k : Int} {K : PySem.W.Frag}
theorem o2_ixL {K : PySem.W.Frag} {I : Iv K} {P : D → Iv K → Prop} {ds : List D} {k : Int} (h0 : 0 ≤ k) (h1 : k < ds.length) (hp : ∀ d ∈ ds, P d I) : Op2 K (rIxL K) (.lst ds) (.int k) I P := by
  obtain ⟨j, rfl⟩ : ∃ j : Nat, k = j := ⟨k.toNat, by omega⟩
  have hj : j < ds.length := by omega
  exact p2_ixL (d := ds[j]) (by unfold atI ixN; rw [if_pos h0, if_pos h1]; simp [hj]) P (hp _ (List.getElem_mem hj))
theorem ev_next {x : Str} (tk : Takes X W) (F : Def X.prog X.w X.K X.mg X.base x 1 ["_law_h", "_law_bound"] [] sNext) (hr : Room 1 X.A) (c : Rc X.K) (h0 : PV X I e0 δ (.adr a)) (h1 : EvX X W R e1 δ I fun d I1 => ∃ n, d = .int n ∧ I1 = I ∧ 0 < n ∧ n < 1000000000 ∧ ∀ k : Int, 0 ≤ k → k < n → P (.int k) I) (eI : I = c.fill (iDr X.K a b))
    (hg : Gl X x := by rfl) (hdb : (x == ("__debug__" : Str)) = false := by decide)
    (he : starEach [e0, e1] X.env = (false, eval e0 X.env) :: starEach [e1] X.env := by rfl) (he2 : starEach [e1] X.env = (false, eval e1 X.env) :: starEach [] X.env := by rfl) (hpl : (backTo pos (starEach [e1] X.env)).any (·.1) = false := by rfl) : EvX X W R (.Call (.Name x p) [e0, e1] [] pos) δ I P :=
  ev_def tk F hr (ea_cons (h0.ev (ea_cons (h1.imp fun d I1 ⟨n, ed, ei, n0, n1, k⟩ => by
    subst ed
    rw [ei]
    exact ea_nil ⟨a, b, c, n, rfl, eI, n0, n1, k⟩) he2)) he) hg hdb he hpl
theorem ev_nextP {x : Str} (tk : Takes X W) (F : Def X.prog X.w X.K X.mg X.base x 1 ["_law_h", "_law_bound"] [] sNext) (hr : Room 1 X.A) (c : Rc X.K) (h0 : PV X I e0 δ (.adr a)) (h1 : PV X I e1 δ (.int n)) (eI : I = c.fill (iDr X.K a b)) (hn : 0 < n ∧ n < 1000000000) (k : ∀ k : Int, 0 ≤ k → k < n → P (.int k) I)
    (hg : Gl X x := by rfl) (hdb : (x == ("__debug__" : Str)) = false := by decide)
    (he : starEach [e0, e1] X.env = (false, eval e0 X.env) :: starEach [e1] X.env := by rfl) (he2 : starEach [e1] X.env = (false, eval e1 X.env) :: starEach [] X.env := by rfl) (hpl : (backTo pos (starEach [e1] X.env)).any (·.1) = false := by rfl) : EvX X W R (.Call (.Name x p) [e0, e1] [] pos) δ I P :=
  ev_next tk F hr c h0 (h1.ev ⟨n, rfl, rfl, hn.1, hn.2, k⟩) eI hg hdb he he2 hpl
end
end DL
set_option Elab.async false
set_option linter.all false
set_option maxRecDepth 100000
set_option maxHeartbeats 4000000
namespace DL
open PySem PySem.Spec PyProof.Rows L2
section
variable {X : Cx} {W : WX} {R : Rx X.K} {st : Stmt} {rest sts els : List Stmt} {δ : DEnv} {I : Iv X.K} {κ : Ko X.K} {c a b : Expr} {pos : Pos} {PB : Bool → Iv X.K → Prop}
theorem s_consI (Nv : DEnv → Iv X.K → Prop) (h : S1 X W st δ I { κ with nx := Nv }) (k : ∀ δ' I', Nv δ' I' → SX X W rest δ' I' κ) : SX X W (st :: rest) δ I κ :=
  s_cons (S1.imp h (fun δ' I' p => k δ' I' p) (fun _ _ z => z) (fun _ _ z => z) (fun _ _ z => z) (fun _ _ _ _ z => z))
end
def xcB (K : PySem.W.Frag) (C : Addr) : Bool := He.eqO (PySem.W.findIn K (.ref C) "__getattribute__") (some (some (.builtin "BaseException.__getattribute__"))) && He.eqO (PySem.W.findIn K (.ref C) "__getattr__") (some none) && decide (PySem.W.subIn K (.ref C) (.type "BaseException") = some true) && PySem.W.hasDictIn K C &&
  He.eqO (PySem.W.findIn K (.ref C) "__class__") (some (some (.builtin "object.__class__"))) && He.eqO (PySem.W.specialIn K (.builtin "object.__class__") "__get__") (some (some (.builtin "getset_descriptor.__get__"))) && decide (PySem.W.takesIn K (.builtin "object.__class__") = some true) && decide (PySem.W.mroIn K C (.type "object") = some true)
theorem xcB_ok {K : PySem.W.Frag} {C : Addr} (h : xcB K C = true) : ExcC K C := by
  obtain ⟨h, h8⟩ := Bool.and_eq_true_iff.mp h
  obtain ⟨h, h7⟩ := Bool.and_eq_true_iff.mp h
  obtain ⟨h, h6⟩ := Bool.and_eq_true_iff.mp h
  obtain ⟨h, h5⟩ := Bool.and_eq_true_iff.mp h
  obtain ⟨h, h4⟩ := Bool.and_eq_true_iff.mp h
  obtain ⟨h, h3⟩ := Bool.and_eq_true_iff.mp h
  obtain ⟨h1, h2⟩ := Bool.and_eq_true_iff.mp h
  exact ⟨He.eqO_ok h1, He.eqO_ok h2, of_decide_eq_true h3, h4, He.eqO_ok h5, He.eqO_ok h6, of_decide_eq_true h7, of_decide_eq_true h8⟩
structure TXf (K : PySem.W.Frag) (C : Addr) : Prop where
  xf : XfC K C
  xc : ExcC K C
def txB (K : PySem.W.Frag) (C : Addr) : Bool := xfB K C && xcB K C
theorem txB_ok {K : PySem.W.Frag} {C : Addr} (h : txB K C = true) : TXf K C := by
  obtain ⟨h1, h2⟩ := Bool.and_eq_true_iff.mp h
  exact ⟨xfB_ok h1, xcB_ok h2⟩
theorem namesG {X : Cx} {x : Str} {c : Value} (hm : X.mg x = some c) (hg : Gl X x := by rfl) (hdb : (x == ("__debug__" : Str)) = false := by decide) : Names X x c := ⟨hg, hdb, .inl hm⟩
end DL
set_option Elab.async false
set_option linter.all false
set_option maxRecDepth 100000
set_option maxHeartbeats 4000000
namespace DL
open PySem PySem.Spec PyProof.Rows L2
section
variable {X : Cx} {W : WX} {R : Rx X.K} {e e0 e1 l : Expr} {es : List Expr} {δ : DEnv} {I : Iv X.K} {P : D → Iv X.K → Prop} {PB : Bool → Iv X.K → Prop} {d : D} {ds : List D} {pos p ps : Pos} {a b : Addr} {n k m : Int} {x : Str} {c : Rc X.K} {κ : Ko X.K} {sts els : List Stmt}
theorem et_nextEq (tk : Takes X W) (F : Def X.prog X.w X.K X.mg X.base x 1 ["_law_h", "_law_bound"] [] sNext) (hr : Room 1 X.A) (c : Rc X.K) (h0 : PV X I e0 δ (.adr a)) (h1 : PV X I e1 δ (.int n)) (hm : PV X I l δ (.int m)) (eI : I = c.fill (iDr X.K a b)) (hn : 0 < n ∧ n < 1000000000) (q : ∀ b, PB b I)
    (hg : Gl X x := by rfl) (hdb : (x == ("__debug__" : Str)) = false := by decide)
    (he : starEach [e0, e1] X.env = (false, eval e0 X.env) :: starEach [e1] X.env := by rfl) (he2 : starEach [e1] X.env = (false, eval e1 X.env) :: starEach [] X.env := by rfl) (hpl : (backTo pos (starEach [e1] X.env)).any (·.1) = false := by rfl) : EvT X W R (.Compare (.Call (.Name x p) [e0, e1] [] pos) [.Eq] [l] ps) δ I PB :=
  et_cmp op_eq (ev_nextP tk F hr c h0 h1 eI hn (fun k _ _ => hm.ev (eqV_int k m _ ⟨_, rfl, q _⟩)) hg hdb he he2 hpl)
theorem ev_pick (tk : Takes X W) (F : Def X.prog X.w X.K X.mg X.base x 1 ["_law_h", "_law_bound"] [] sNext) (hr : Room 1 X.A) (c : Rc X.K) (hl : PV X I l δ (.lst ds)) (h0 : PV X I e0 δ (.adr a)) (h1 : EvX X W R e1 δ I fun d I1 => ∃ n : Int, d = .int n ∧ I1 = I ∧ 0 < n ∧ n < 1000000000 ∧ n ≤ ds.length) (eI : I = c.fill (iDr X.K a b)) (k : ∀ d ∈ ds, P d I)
    (hg : Gl X x := by rfl) (hdb : (x == ("__debug__" : Str)) = false := by decide)
    (he : starEach [e0, e1] X.env = (false, eval e0 X.env) :: starEach [e1] X.env := by rfl) (he2 : starEach [e1] X.env = (false, eval e1 X.env) :: starEach [] X.env := by rfl) (hpl : (backTo pos (starEach [e1] X.env)).any (·.1) = false := by rfl) (hs : PlainIx (.Call (.Name x p) [e0, e1] [] pos) := by exact fun _ _ => rfl) : EvX X W R (.Subscript l (.Call (.Name x p) [e0, e1] [] pos) ps) δ I P :=
  ev_ix ix_list (hl.ev (ev_next tk F hr c h0 (h1.imp fun d I1 ⟨n, ed, ei, n0, n1, n2⟩ => ⟨n, ed, ei, n0, n1, fun k' k0 k1 => o2_ixL k0 (by omega) k⟩) eI hg hdb he he2 hpl)) hs
end
end DL
set_option Elab.async false
set_option linter.all false
set_option maxRecDepth 100000
set_option maxHeartbeats 4000000
namespace DL
open PySem PySem.Spec PyProof.Rows L2
def sLaw {K : PySem.W.Frag} : Spec K := fun I ds P R => ∃ ns : List Int, ds = [.lsf (ns.map D.int)] ∧ ns.length ≤ 63 ∧ ∀ I', P (.bl true) I'
theorem repsInt {K : PySem.W.Frag} {G : Hp} : ∀ ns : List Int, Reps K G (ns.map D.int) (ns.map V.int)
  | [] => rfl
  | n :: ns => ⟨.int n, ns.map V.int, rfl, rfl, repsInt ns⟩
theorem sp_law {K : PySem.W.Frag} {H : Hp} {a : Addr} {ns : List Int} (hl : ns.length ≤ 63) (hS : SqL K H a (ns.map V.int)) : spD K sLaw [.ref a] H (fun v _ => v = .bl true) (fun _ _ _ => False) :=
  ⟨iEmp K, H, [.lsf (ns.map D.int)], fun d _ => d = .bl true, fun _ _ _ => False, Same.refl H, Hd.emp, ⟨.ref a, [], rfl, ⟨a, _, rfl, hS, repsInt ns⟩, rfl⟩, ⟨ns, rfl, hl, fun _ => rfl⟩, fun v d _ _ _ _ _ _ r e => by subst e; exact r, fun _ _ _ _ _ _ _ _ _ _ _ _ z => z⟩
theorem cx0 {P : Program} {w : World} {H : Hp} {s s' : Shared} {e : Value} (z : L2.CX P w [] H s (fun _ _ _ => False) e s') : False := by
  obtain ⟨_, _, _, _, _, _, _, _, _, _, _, _, h⟩ := z
  exact h
section
variable {X : Cx} {W : WX} {st : Stmt} {rest : List Stmt} {κ : Ko X.K}
end
end DL
set_option Elab.async false
set_option linter.all false
set_option maxRecDepth 100000
set_option maxHeartbeats 1000000
namespace DL
open PySem PySem.Spec PyProof.Rows L2

theorem reps_rev {K : PySem.W.Frag} {G : Hp} : ∀ {ds : List D} {vs : List V}, Reps K G ds vs → Reps K G ds.reverse vs.reverse
  | [], vs, h => by
    rw [show vs = [] from h]
    exact rfl
  | d :: ds, _, ⟨v, r, e, r1, r2⟩ => by
    rw [e, List.reverse_cons, List.reverse_cons]
    exact (reps_rev r2).append (Reps.one r1)
mutual
def pyD : D → PyData
  | .bl b => .bool b
  | .int i => .int i
  | .str s => .str s
  | .tup ds => .tuple (pyDs ds)
  | .lst ds => .list (pyDs ds)
  | .lsf ds => .list (pyDs ds)
  | _ => .none
def pyDs : List D → List PyData
  | [] => []
  | d :: ds => pyD d :: pyDs ds
end
mutual
def okPy : D → Bool
  | .non => true
  | .bl _ => true
  | .int _ => true
  | .str _ => true
  | .tup ds => okPys ds
  | .lst ds => okPys ds
  | .lsf ds => okPys ds
  | _ => false
def okPys : List D → Bool
  | [] => true
  | d :: ds => okPy d && okPys ds
end
mutual
theorem dp_of {K : PySem.W.Frag} {G H : Hp} (s : Same G H) : ∀ {d : D} {v : V}, okPy d = true → Rep K G d v → Dp K H v (pyD d)
  | .non, _, _, r => by rw [show _ = V.non from r]; exact .non
  | .bl b, _, _, r => by rw [show _ = V.bl b from r]; exact .bl b
  | .int i, _, _, r => by rw [show _ = V.int i from r]; exact .int i
  | .str x, _, _, r => by rw [show _ = V.str x from r]; exact .str x
  | .tup ds, _, h, ⟨a, vs, e1, e2, e3⟩ => by rw [e1]; exact .tup (sqT_mono s e2) (dps_of s h e3)
  | .lst ds, _, h, ⟨a, vs, e1, e2, e3⟩ => by rw [e1]; exact .lst (SqL.of (s _ _ e2)) (dps_of s h e3)
  | .lsf ds, _, h, ⟨a, vs, e1, e2, e3⟩ => by rw [e1]; exact .lst (sqL_mono s e2) (dps_of s h e3)
  | .ty _, _, h, _ => by cases h
  | .adr _, _, h, _ => by cases h
  | .slo _ _, _, h, _ => by cases h
  | .exc _ _ _ _ _, _, h, _ => by cases h
  | .dic _ _, _, h, _ => by cases h
  | .tub _, _, h, _ => by cases h
theorem dps_of {K : PySem.W.Frag} {G H : Hp} (s : Same G H) : ∀ {ds : List D} {vs : List V}, okPys ds = true → Reps K G ds vs → DpAll K H vs (pyDs ds)
  | [], _, _, r => by rw [show _ = [] from r]; exact .nil
  | d :: ds, _, h, ⟨v, r, e1, e2, e3⟩ => by
    have h2 : (okPy d && okPys ds) = true := h
    obtain ⟨ha, hb⟩ := Bool.and_eq_true_iff.mp h2
    rw [e1]
    exact .cons (dp_of s ha e2) (dps_of s hb e3)
end
def okEq (d : D) : Bool := okPy d && SeqAt.shaped (pyD d)
section
variable {K : PySem.W.Frag} {I : Iv K} {x y z d : D}
theorem p2_eqD (hx : okEq x = true) (hy : okEq y = true) : P2 K I (rEqD K) x y (.bl (PyData.eqv (pyD x) (pyD y))) := fun P p G H v w Q s hI r1 r2 q => by
  obtain ⟨a1, a2⟩ := Bool.and_eq_true_iff.mp hx
  obtain ⟨b1, b2⟩ := Bool.and_eq_true_iff.mp hy
  exact ⟨_, _, dp_of s a1 r1, dp_of s b1 r2, a2, b2, q _ (.bl _) G H I (Same.refl G) s hI rfl p⟩
theorem p2_neD (hx : okEq x = true) (hy : okEq y = true) : P2 K I (rNeD K) x y (.bl (!PyData.eqv (pyD x) (pyD y))) := fun P p G H v w Q s hI r1 r2 q => by
  obtain ⟨a1, a2⟩ := Bool.and_eq_true_iff.mp hx
  obtain ⟨b1, b2⟩ := Bool.and_eq_true_iff.mp hy
  exact ⟨_, _, dp_of s a1 r1, dp_of s b1 r2, a2, b2, q _ (.bl _) G H I (Same.refl G) s hI rfl p⟩
end
structure PropC (K : PySem.W.Frag) (C : Addr) (f : Str) (p g : Addr) : Prop where
  at_ : PySem.W.findIn K (.ref C) f = some (some (.ref p))
  get : PySem.W.specialIn K (.ref p) "__get__" = some (some (.builtin "property.__get__"))
  tk : PySem.W.takesIn K (.ref p) = some true
  rc : ∃ rest, PySem.W.recIn K p "property" = some (.ref g :: rest)
def gtr (K : PySem.W.Frag) (C : Addr) (f : Str) : Addr := match PySem.W.recIn K (He.ma K C f) "property" with
  | some (.ref g :: _) => g
  | _ => 0
def prB (K : PySem.W.Frag) (C : Addr) (f : Str) : Bool := He.eqO (PySem.W.findIn K (.ref C) f) (some (some (.ref (He.ma K C f)))) && He.eqO (PySem.W.specialIn K (.ref (He.ma K C f)) "__get__") (some (some (.builtin "property.__get__"))) && decide (PySem.W.takesIn K (.ref (He.ma K C f)) = some true) &&
  (match PySem.W.recIn K (He.ma K C f) "property" with
  | some (.ref g :: _) => true
  | _ => false)
theorem prB_ok {K : PySem.W.Frag} {C : Addr} {f : Str} (h : prB K C f = true) : PropC K C f (He.ma K C f) (gtr K C f) := by
  obtain ⟨h, h4⟩ := Bool.and_eq_true_iff.mp h
  obtain ⟨h, h3⟩ := Bool.and_eq_true_iff.mp h
  obtain ⟨h1, h2⟩ := Bool.and_eq_true_iff.mp h
  refine ⟨He.eqO_ok h1, He.eqO_ok h2, of_decide_eq_true h3, ?_⟩
  unfold gtr
  split at h4
  · rename_i g r e
    rw [e]
    exact ⟨r, rfl⟩
  · cases h4
def siB (K : PySem.W.Frag) (C : Addr) : Bool := He.eqO (PySem.W.findIn K (.ref C) "__class__") (some (some (.builtin "object.__class__"))) && He.eqO (PySem.W.specialIn K (.builtin "object.__class__") "__get__") (some (some (.builtin "getset_descriptor.__get__"))) && decide (PySem.W.takesIn K (.builtin "object.__class__") = some true) && decide (PySem.W.mroIn K C (.type "object") = some true)
theorem siB_ok {K : PySem.W.Frag} {C : Addr} (h : siB K C = true) : SlX.SIsi K C := by
  obtain ⟨h, h4⟩ := Bool.and_eq_true_iff.mp h
  obtain ⟨h, h3⟩ := Bool.and_eq_true_iff.mp h
  obtain ⟨h1, h2⟩ := Bool.and_eq_true_iff.mp h
  exact ⟨He.eqO_ok h1, He.eqO_ok h2, of_decide_eq_true h3, of_decide_eq_true h4⟩
abbrev F0 {K : PySem.W.Frag} : Rx K := fun _ _ _ => False
theorem cxF {P : Program} {w : World} {outer : List Env} {H : Hp} {s s' : Shared} {e : Value} (z : L2.CX P w outer H s (fun _ _ _ => False) e s') : False := by
  obtain ⟨_, _, _, _, _, _, _, _, _, _, _, _, h⟩ := z
  exact h
theorem spD_of {K : PySem.W.Frag} {S : Spec K} {I : Iv K} {G H : Hp} {ds : List D} {vs : List V} {Q : VK} {P : D → Iv K → Prop} (s : Same G H) (h : Hd I G H) (r : Reps K G ds vs) (k : S I ds P F0) (q : Kv K Q G P) : spD K S vs H Q (fun _ _ _ => False) :=
  ⟨I, G, ds, P, F0, s, h, r, k, q, fun _ _ _ _ _ _ _ _ _ _ _ _ z => z⟩
section
variable {X : Cx} {W : WX} {R : Rx X.K} {I : Iv X.K} {e a b : Expr} {δ : DEnv} {pos : Pos} {C p g : Addr} {f : Str} {n : Nat} {S : Spec X.K} {fs : List D} {d d2 : D} {P : D → Iv X.K → Prop}
theorem pv_prop (c : SlX.SCls X.K C) (pr : PropC X.K C f p g) (F : FnR X.prog X.w X.K X.mg X.base (L2.CX X.prog X.w) n g (spD X.K S)) (hr : Room (n + 1) X.A) (he : PV X I e δ (.slo C fs)) (hS : ∀ P : D → Iv X.K → Prop, P d I → S I [.slo C fs] P F0)
    (hb : attributeBase e f X.env (eval e X.env) = eval e X.env := by rfl) : PV X I (.Attribute e f pos) δ d := fun W R P pp σ G H Q hE s hI qx q =>
  PE.wp (SlX.pe_propSl (E := fun _ _ _ => False) peC c pr.at_ pr.get pr.tk pr.rc F hr (fun _ _ _ _ z => cxF z) hb) (he W R (fun z I1 => z = .slo C fs ∧ I1 = I) ⟨rfl, rfl⟩ σ G H _ hE s hI qx fun v d1 G1 H1 I1 s1 t1 h1 r1 ⟨ed, ei⟩ => by
    subst ed ei
    obtain ⟨a, dx, vs, e1, e2, e3⟩ := r1
    exact ⟨a, dx, vs.map some, e1, slt_mono t1 e2, spD_of (ds := [.slo C fs]) t1 h1 ⟨.ref a, [], rfl, ⟨a, dx, vs, rfl, e2, e3⟩, rfl⟩ (hS P pp) (q.mono s1)⟩)
end
section
variable {K : PySem.W.Frag} {I : Iv K} {C T : Addr} {fs : List D} {d : D} {b : Bool}
theorem pn_isiSl (c : SlX.SCls K C) (si : SlX.SIsi K C) (hk : PySem.W.kitOne K (.ref C) (.ref T) = some b) : PN K I (SlX.rIsiSl K (.ref T)) [.slo C fs, .adr T] (.bl b) := fun P p G H vs Q s hI ⟨v, r, e1, ⟨a, dx, ws, e2, e3, e4⟩, v2, r2, e5, e6, e7⟩ q =>
  ⟨a, C, dx, ws.map some, .ref T, b, by rw [e1, e2, e5, show v2 = .ref T from e6, show r2 = [] from e7], rfl, fun _ z => z, slt_mono s e3, c, si, hk, q _ (.bl b) G H I (Same.refl G) s hI rfl p⟩
theorem pn_isiO {t : String} (h : tyD d = some t) (hk : PySem.W.kitOne K (.type t) (.ref T) = some b) : PN K I (rIsi K) [d, .adr T] (.bl b) := fun P p G H vs Q s hI ⟨v, r, e1, e2, v2, r2, e3, e4, e5⟩ q =>
  ⟨v, .ref T, .type t, .ref T, b, by rw [e1, e3, show v2 = .ref T from e4, show r2 = [] from e5], .own T, tyX_of s e2 h, hk, q _ (.bl b) G H I (Same.refl G) s hI rfl p⟩
end
end DL
set_option Elab.async false
set_option linter.all false
set_option maxRecDepth 100000
set_option maxHeartbeats 4000000
namespace DL
open PySem PySem.Spec PyProof.Rows L2
def pAd (K : PySem.W.Frag) (p : Str × Option Str) : Addr := gtr K (He.ga K p.1) (p.2.getD Str.empty)
def fnP (K : PySem.W.Frag) (p : Str × Option Str) : He.FnW := match K.lookup (pAd K p) with
  | some ⟨_, _, .func fd, _⟩ => some (fd.name, fd.qualname, fd.params, fd.body, fd.scope, fd.globals, fd.closure, fd.builtins)
  | _ => none
def okP (K : PySem.W.Frag) (d : He.DefD) : Bool := PySem.W.keepIn K (.ref (pAd K d.at_)) && (match K.lookup (pAd K d.at_) with
  | some ⟨_, _, .func fd, _⟩ => PySem.W.codeIn K fd.code d.qual && (He.dflB K fd.defaults (d.dvs K) && He.kwdB K fd.kwdefaults (d.kws K))
  | _ => false)
theorem funP {K : PySem.W.Frag} {d : He.DefD} (e : fnP K d.at_ = d.val) (c : okP K d = true) : ∃ fd, FunD K d.name d.qual d.params d.body d.scope (d.dvs K) (d.kws K) (pAd K d.at_) fd := by
  obtain ⟨kp, c2⟩ := He.ba c
  unfold fnP at e
  cases q : K.lookup (pAd K d.at_) with
  | none =>
    rw [q] at c2
    cases c2
  | some o =>
    obtain ⟨oc, od, dt, osl⟩ := o
    rw [q] at c2 e
    cases dt with
    | func fd =>
      obtain ⟨n1, n2, n3, n4, n5, n6, n7, n8, n9, n10, n11, n12, n13, n14, n15⟩ := fd
      have e2 : (some (n1, n2, n3, n4, n5, n6, n7, n15) : He.FnW) = some (d.name, d.qual, d.params, .stmts d.body, d.scope, mainGlobals, [], builtinsNs) := e
      simp only [Option.some.injEq, Prod.mk.injEq] at e2
      obtain ⟨h1, h2, h3, h4, h5, h6, h7, h8⟩ := e2
      subst h1 h2 h3 h4 h5 h6 h7 h8
      have c3 : (PySem.W.codeIn K n13 d.qual && (He.dflB K n8 (d.dvs K) && He.kwdB K n9 (d.kws K))) = true := c2
      obtain ⟨k1, k2⟩ := He.ba c3
      obtain ⟨k3, k4⟩ := He.ba k2
      exact ⟨_, ⟨oc, od, n8, n9, n10, n11, n12, n13, n14, osl, rfl, q, k1, He.dflB_ok k3, He.kwdB_ok k4⟩, kp⟩
    | _ => cases c2
def exP (gs : List He.DefD) (ex : PySem.W.Frag → Bool) (K : PySem.W.Frag) : Bool := ex K && gs.all fun d => okP K d
abbrev AlP : Type := He.AlX × List He.FnW
structure SaysP (fn gs : List He.DefD) (ex : PySem.W.Frag → Bool) (w : World) (h : Heap) (K : PySem.W.Frag) : Prop where
  x : He.SaysX [] fn [] [] (exP gs ex) w h K
  g : (gs.map fun d => fnP K d.at_) = gs.map He.DefD.val
section
variable {fn gs : List He.DefD} {ex : PySem.W.Frag → Bool} {w : World} {h : Heap} {K : PySem.W.Frag}
theorem SaysP.more (c : SaysP fn gs ex w h K) : ex K = true := (He.ba c.x.more).1
theorem SaysP.def_ (c : SaysP fn gs ex w h K) (i : Nat) {d : He.DefD} (h : fn[i]? = some d := by rfl) : ∃ fd, FunD K d.name d.qual d.params d.body d.scope (d.dvs K) (d.kws K) (He.fAd K d.at_) fd := c.x.t.d.def_ i h
theorem SaysP.get_ (c : SaysP fn gs ex w h K) (i : Nat) {d : He.DefD} (hd : gs[i]? = some d := by rfl) : ∃ fd, FunD K d.name d.qual d.params d.body d.scope (d.dvs K) (d.kws K) (pAd K d.at_) fd := by
  have c2 := (He.ba c.x.more).2
  have e2 : (gs.map fun d => fnP K d.at_)[i]? = (gs.map He.DefD.val)[i]? := by rw [c.g]
  rw [List.getElem?_map, List.getElem?_map, hd] at e2
  exact funP (Option.some.inj e2) (List.all_eq_true.mp c2 d (List.mem_of_getElem? hd))
end
def dF (x : Str) (st : Stmt) (dfl : List He.Dv := []) (kws : List (Str × He.Dv) := []) : He.DefD := ⟨(x, none), x, x, defArgs st, defBody st, defScope st, dfl, kws⟩
def dM (C m q : Str) (st : Stmt) (dfl : List He.Dv := []) (kws : List (Str × He.Dv) := []) : He.DefD := ⟨(C, some m), m, q, defArgs st, defBody st, defScope st, dfl, kws⟩
end DL
set_option Elab.async false
set_option linter.all false
set_option maxRecDepth 100000
set_option maxHeartbeats 1000000
namespace DL
open PySem PySem.Spec PyProof.Rows L2
def KR (K : PySem.W.Frag) (G : Hp) : List (Key × D) → List (Key × V) → Prop
  | [], l => l = []
  | p :: ps, l => ∃ v r, l = (p.1, v) :: r ∧ Rep K G p.2 v ∧ KR K G ps r
def putG {α : Type} (kvs : List (Key × α)) (k : Key) (v : α) : List (Key × α) := if (kvs.any fun kv => decide (kv.1 = k)) = true then kvs.map (fun kv => if kv.1 = k then (kv.1, v) else kv) else kvs ++ [(k, v)]
def getG {α : Type} (kvs : List (Key × α)) (k : Key) : Option α := (kvs.find? fun kv => decide (kv.1 = k)).map (·.2)
def dicD (kds : List (Key × D)) : D := .dic (kds.map (·.1)) (kds.map (·.2))
section
variable {K : PySem.W.Frag} {G G' H : Hp}
theorem KR.mono (s : Same G G') : ∀ {kds : List (Key × D)} {kvs : List (Key × V)}, KR K G kds kvs → KR K G' kds kvs
  | [], _, h => h
  | _ :: _, _, ⟨v, r, e, r1, r2⟩ => ⟨v, r, e, r1.mono s, KR.mono s r2⟩
theorem KR.length : ∀ {kds : List (Key × D)} {kvs : List (Key × V)}, KR K G kds kvs → kvs.length = kds.length
  | [], _, h => by rw [show _ = [] from h]; rfl
  | _ :: _, _, ⟨v, r, e, r1, r2⟩ => by rw [e, List.length_cons, List.length_cons, KR.length r2]
theorem KR.keys : ∀ {kds : List (Key × D)} {kvs : List (Key × V)}, KR K G kds kvs → kvs.map (·.1) = kds.map (·.1)
  | [], _, h => by rw [show _ = [] from h]; rfl
  | _ :: _, _, ⟨v, r, e, r1, r2⟩ => by rw [e, List.map_cons, List.map_cons, KR.keys r2]
theorem KR.vals : ∀ {kds : List (Key × D)} {kvs : List (Key × V)}, KR K G kds kvs → Reps K G (kds.map (·.2)) (kvs.map (·.2))
  | [], _, h => by rw [show _ = [] from h]; exact rfl
  | _ :: _, _, ⟨v, r, e, r1, r2⟩ => by rw [e]; exact ⟨v, _, rfl, r1, KR.vals r2⟩
theorem KR.any (k : Key) : ∀ {kds : List (Key × D)} {kvs : List (Key × V)}, KR K G kds kvs → (kvs.any fun kv => decide (kv.1 = k)) = (kds.any fun kv => decide (kv.1 = k))
  | [], _, h => by rw [show _ = [] from h]; rfl
  | _ :: _, _, ⟨v, r, e, r1, r2⟩ => by rw [e, List.any_cons, List.any_cons, KR.any k r2]
theorem KR.snoc {k : Key} {d : D} {v : V} (rv : Rep K G d v) : ∀ {kds : List (Key × D)} {kvs : List (Key × V)}, KR K G kds kvs → KR K G (kds ++ [(k, d)]) (kvs ++ [(k, v)])
  | [], _, h => by rw [show _ = [] from h]; exact ⟨v, [], rfl, rv, rfl⟩
  | _ :: _, _, ⟨v', r, e, r1, r2⟩ => by rw [e]; exact ⟨v', r ++ [(k, v)], rfl, r1, KR.snoc rv r2⟩
theorem KR.over {k : Key} {d : D} {v : V} (rv : Rep K G d v) : ∀ {kds : List (Key × D)} {kvs : List (Key × V)}, KR K G kds kvs → KR K G (kds.map fun kv => if kv.1 = k then (kv.1, d) else kv) (kvs.map fun kv => if kv.1 = k then (kv.1, v) else kv)
  | [], _, h => by rw [show _ = [] from h]; exact rfl
  | p :: _, _, ⟨v', r, e, r1, r2⟩ => by
    rw [e, List.map_cons, List.map_cons]
    by_cases h : p.1 = k
    · rw [if_pos h, if_pos h]
      exact ⟨v, _, rfl, rv, KR.over rv r2⟩
    · rw [if_neg h, if_neg h]
      exact ⟨v', _, rfl, r1, KR.over rv r2⟩
theorem KR.put {k : Key} {d : D} {v : V} {kds : List (Key × D)} {kvs : List (Key × V)} (h : KR K G kds kvs) (rv : Rep K G d v) : KR K G (putG kds k d) (L2.putK kvs k v) := by
  unfold putG L2.putK
  rw [h.any k]
  split
  · exact h.over rv
  · exact h.snoc rv
theorem KR.get {k : Key} : ∀ {kds : List (Key × D)} {kvs : List (Key × V)}, KR K G kds kvs → (∀ d, getG kds k = some d → ∃ v, L2.valV kvs k = some v ∧ Rep K G d v) ∧ (getG kds k = none → L2.valV kvs k = none)
  | [], _, h => by rw [show _ = [] from h]; exact ⟨(fun d z => nomatch z), (fun _ => rfl)⟩
  | p :: ps, _, ⟨v', r, e, r1, r2⟩ => by
    rw [e]
    by_cases h : p.1 = k
    · have h' : decide (p.1 = k) = true := decide_eq_true h
      refine ⟨fun d z => ?_, fun z => ?_⟩
      · have e2 : p.2 = d := by simpa [getG, List.find?, h'] using z
        exact ⟨v', by simp [L2.valV, List.find?, h'], e2 ▸ r1⟩
      · simp [getG, List.find?, h'] at z
    · have h' : decide (p.1 = k) = false := decide_eq_false h
      have q := KR.get (k := k) r2
      refine ⟨fun d z => ?_, fun z => ?_⟩
      · have z2 : getG ps k = some d := by simpa [getG, List.find?, h'] using z
        obtain ⟨v, e1, e2⟩ := q.1 d z2
        exact ⟨v, by simpa [L2.valV, List.find?, h'] using e1, e2⟩
      · have z2 : getG ps k = none := by simpa [getG, List.find?, h'] using z
        simpa [L2.valV, List.find?, h'] using q.2 z2
theorem zip_pairs {α : Type} : ∀ l : List (Key × α), (l.map (·.1)).zip (l.map (·.2)) = l
  | [] => rfl
  | p :: l => by simp [zip_pairs l]
theorem KR.of_zip : ∀ {ks : List Key} {ds : List D} {vs : List V}, ks.length = ds.length → Reps K G ds vs → KR K G (ks.zip ds) (ks.zip vs)
  | [], [], _, _, _ => rfl
  | k :: ks, d :: ds, _, h, ⟨v, r, e, r1, r2⟩ => by rw [e]; exact ⟨v, ks.zip r, rfl, r1, KR.of_zip (by simpa using h) r2⟩
theorem rep_dicD {kds : List (Key × D)} {v : V} : Rep K G (dicD kds) v ↔ ∃ a od kvs, v = .ref a ∧ G a = some (.frz od (.dK kvs)) ∧ KR K G kds kvs := by
  constructor
  · rintro ⟨a, od, vs, e1, e2, e3, e4⟩
    refine ⟨a, od, _, e1, e2, ?_⟩
    have q := KR.of_zip e3 e4
    rw [zip_pairs] at q
    exact q
  · rintro ⟨a, od, kvs, e1, e2, e3⟩
    refine ⟨a, od, kvs.map (·.2), e1, ?_, by simp, e3.vals⟩
    rw [e2, ← e3.keys, zip_pairs]
end
def iDic (K : PySem.W.Frag) (p : Addr) (kds : List (Key × D)) : Iv K := iObj K p (fun G o => ∃ kvs, o = .dK kvs ∧ KR K G kds kvs) fun _ _ _ s ⟨kvs, h1, h2⟩ => ⟨kvs, h1, h2.mono s⟩
def keyD : D → Option Key
  | .int i => some (.inl i)
  | .str s => some (.inr s)
  | _ => none
theorem rep_key {K : PySem.W.Frag} {G : Hp} {d : D} {k : Key} {v : V} (h : keyD d = some k) (r : Rep K G d v) : v = kV k := by
  cases d with
  | int i => cases h; exact r
  | str s => cases h; exact r
  | _ => cases h
section
variable {K : PySem.W.Frag} {G H : Hp} {p : Addr} {kds : List (Key × D)} {c : Rc K} {I : Iv K}
theorem Hd.dic (h : Hd (c.fill (iDic K p kds)) G H) : ∃ kvs, H p = some (.dK kvs) ∧ KR K G kds kvs ∧ G p = none := by
  have q := h.inner
  obtain ⟨o, ho, vs, ev, r⟩ := q.ph
  subst ev
  exact ⟨vs, ho, r, q.fr p rfl⟩
theorem Hd.dicSet {kds' : List (Key × D)} {kvs' : List (Key × V)} (h : Hd (c.fill (iDic K p kds)) G H) (r : KR K G kds' kvs') : Hd (c.fill (iDic K p kds')) G (upd H p (.dK kvs')) :=
  Hd.change (I := iDic K p kds) (I' := iDic K p kds') (fun _ => Iff.rfl) (fun a ha => upd_ne ha) ⟨⟨_, upd_same, kvs', rfl, r⟩, h.inner.fr⟩ h
theorem freeze_dic {od : Obj} {kvs : List (Key × V)} (s : Same G H) (h : Hd (I.and (iDic K p kds)) G H) (hp : H p = some (.dK kvs)) : ∃ G', Same G G' ∧ Same G' (upd H p (.frz od (.dK kvs))) ∧ Hd I G' (upd H p (.frz od (.dK kvs))) ∧ Rep K G' (dicD kds) (.ref p) := by
  obtain ⟨o, ho, vs, ev, rv⟩ := h.right.ph
  subst ev
  rw [hp] at ho
  cases ho
  have gp : G p = none := h.right.fr p rfl
  refine ⟨upd G p (.frz od (.dK kvs)), Evl.Ex.new gp, same_upd2 s, ⟨I.loc G _ H _ (Evl.Ex.new gp) (fun a ha => upd_ne fun e => h.apart a ⟨ha, e⟩) h.left.ph, fun a ha => ?_⟩, rep_dicD.mpr ⟨p, od, kvs, rfl, upd_same, rv.mono (Evl.Ex.new gp)⟩⟩
  rw [upd_ne fun e => h.apart a ⟨ha, e⟩]
  exact h.left.fr a ha
end
section
variable {X : Cx} {sts : List Stmt} {e : Expr} {σ : L2.St} {H : Hp} {E : Ends} {Q : VK} {d : Addr} {u : HO}
theorem wpB_lock (h : H d = some u) (mu : Mut (some u)) (k : ∀ od, wpB X sts E σ (upd H d (.frz od u))) : wpB X sts E σ H := ⟨fun pins s I => by
  obtain ⟨od, I1⟩ := I.lock h mu
  exact (k od).run pins s I1⟩
end
end DL
set_option Elab.async false
set_option linter.all false
set_option maxRecDepth 100000
set_option maxHeartbeats 1000000
namespace DL
open PySem PySem.Spec PyProof.Rows L2
section
variable {X : Cx} {W : WX} {R : Rx X.K} {a b e o i : Expr} {sts : List Stmt} {δ : DEnv} {I : Iv X.K} {P : D → Iv X.K → Prop} {pos ps p2 : Pos} {x : Str} {d y z : D} {p : Addr} {kds : List (Key × D)} {k : Key} {κ : Ko X.K} {n : Nat}
theorem wpE_lock {σ : L2.St} {H : Hp} {Q : VK} (h : wpE X e σ H fun v H' => ∃ d u, H' d = some u ∧ Mut (some u) ∧ ∀ od, Q v (upd H' d (.frz od u))) : wpE X e σ H Q := ⟨fun pins s I => by
  refine thn (h.run pins s I) fun u s' ⟨v, H', I1, r, d, u', hd, mu, q⟩ => ?_
  obtain ⟨od, I2⟩ := I1.lock hd mu
  exact ⟨v, _, I2, r, q od⟩⟩
theorem ev_freezeD (h : EvX X W R e δ I fun d I1 => ∃ p kds I2, d = .adr p ∧ I1 = I2.and (iDic X.K p kds) ∧ P (dicD kds) I2) : EvX X W R e δ I P := fun σ G H Q hE s hI qx q =>
  wpE_lock (h σ G H _ hE s hI qx fun v d G1 H1 I1 s1 t1 h1 r1 ⟨p, kds, I2, ed, ei, pp⟩ => by
    subst ed ei
    obtain ⟨kvs, hp, _, _⟩ := Hd.dic (c := .r I2 .here) h1
    refine ⟨p, .dK kvs, hp, trivial, fun od => ?_⟩
    obtain ⟨G', s2, t2, h2, r2⟩ := freeze_dic (od := od) t1 h1 hp
    have ev : v = .ref p := r1
    subst ev
    exact q _ _ G' _ I2 (s1.trans s2) t2 h2 r2 pp)
theorem sx_freezeD {j : Nat} (hd : δ[j]? = some (some (.adr p))) (h : SX X W sts (δ.set j (some (dicD kds))) I κ) : SX X W sts δ (I.and (iDic X.K p kds)) κ := fun σ G H E hE s hI kk => by
  obtain ⟨kvs, hp, _, _⟩ := Hd.dic (c := .r I .here) hI
  refine wpB_lock hp trivial fun od => ?_
  obtain ⟨G', s1, t1, h1, r⟩ := freeze_dic (od := od) s hI hp
  obtain ⟨v, hv, rv⟩ := hE.2 j _ hd
  have ev : v = .ref p := rv
  subst ev
  have e2 := (hE.mono s1).set (i := j) r
  have e3 : σ.set j (some (.ref p)) = σ := by
    apply List.ext_getElem?
    intro q
    by_cases hj : j = q
    · subst hj
      rw [List.getElem?_set_self (List.getElem?_eq_some_iff.mp hv).1, hv]
    · rw [List.getElem?_set_ne hj]
  rw [e3] at e2
  exact h σ G' _ E e2 t1 h1 (kk.mono s1)
theorem ev_dnew (h : ∀ p, (∀ a, ¬ (I.F a ∧ a = p)) → P (.adr p) (I.and (iDic X.K p []))) : EvX X W R (.Dict [] [] pos) δ I P := fun σ G H Q hE s hI qx q =>
  PE.wp pe_dnewK fun p hp => by
    have hg : G p = none := s.free hp
    have na : ∀ a, ¬ (I.F a ∧ a = p) := fun a ha => hI.dom ha.1 (by rw [ha.2]; exact hp)
    exact q (.ref p) (.adr p) G _ (I.and (iDic X.K p [])) (Same.refl G) (same_upd s hg) (Hd.mk2 (hI.newp hp) ⟨⟨_, upd_same, [], rfl, rfl⟩, fun a ha => by rw [show a = p from ha]; exact hg⟩ na) rfl (h p na)
def DicI (X : Cx) (I : Iv X.K) (d : D) (kds : List (Key × D)) : Prop := d = dicD kds ∨ ∃ p c, d = .adr p ∧ I = Rc.fill c (iDic X.K p kds)
theorem dic_rd (h : DicI X I d kds) {G H : Hp} {v : V} (s : Same G H) (hI : Hd I G H) (r : Rep X.K G d v) : ∃ a kvs, v = .ref a ∧ Rd H a (.dK kvs) ∧ KR X.K G kds kvs := by
  rcases h with e | ⟨p, c, e1, e2⟩
  · subst e
    obtain ⟨a, od, kvs, e1, e2, e3⟩ := rep_dicD.mp r
    exact ⟨a, kvs, e1, .inr ⟨od, s _ _ e2⟩, e3⟩
  · subst e1 e2
    obtain ⟨kvs, hp, r2, _⟩ := hI.dic
    exact ⟨p, kvs, r, .inl hp, r2⟩
theorem pv_dget (hu : X.A.units + 1 < cLine) (dI : DicI X I z kds) (ho : PV X I o δ z) (hi : PV X I i δ y) (hk : keyD y = some k) (hd : getG kds k = some d) (hs : NoSl i := by exact fun _ _ => rfl) : PV X I (.Subscript o i pos) δ d := fun W R P pp σ G H Q hE s hI qx q =>
  PE.wp (pe_dget hu peC peC hs) (ho W R (fun z1 I1 => z1 = z ∧ I1 = I) ⟨rfl, rfl⟩ σ G H _ hE s hI qx fun v d1 G1 H1 I1 s1 t1 h1 r1 ⟨ed, ei⟩ => by
    subst ed ei
    refine hi W R (fun z1 J => z1 = y ∧ J = I1) ⟨rfl, rfl⟩ σ G1 H1 _ (hE.mono s1) t1 h1 (qx.mono s1) fun v2 d2 G2 H2 I2 s2 t2 h2 r2 ⟨ed2, ei2⟩ => ?_
    subst ed2 ei2
    obtain ⟨a, kvs, e1, rd, kr⟩ := dic_rd dI t2 h2 (r1.mono s2)
    obtain ⟨u, e3, e4⟩ := (kr.get (k := k)).1 d hd
    exact ⟨a, u, e1, .inl ⟨kvs, k, rd, rep_key hk r2, e3.symm⟩, q u d G2 H2 _ (s1.trans s2) t2 h2 e4 pp⟩)
theorem s_dput (hu : X.A.units + 1 < cLine) (c : Rc X.K) (he : EvX X W (κ.r δ) e δ I fun d I1 => I1 = c.fill (iDic X.K p kds) ∧ PV X I1 o δ (.adr p) ∧ PV X I1 i δ y ∧ keyD y = some k ∧ kds.length < 100000 ∧ κ.nx δ (c.fill (iDic X.K p (putG kds k d))))
    (hs : swapsWith e (some (.Subscript o i ps)) pos.line X.env = pure false := by rfl) : S1 X W (.Assign [.Subscript o i ps] e pos) δ I κ := fun σ G H E hE s hI kk =>
  PS.wp (ps_dput hu peC peC peC hs) (he σ G H _ hE s hI (kk.kx hE) fun v d1 G1 H1 I1 s1 t1 h1 r1 ⟨ei, ho, hi, hk, hz, nx⟩ => by
    refine ho W (κ.r δ) (fun z1 J => z1 = .adr p ∧ J = I1) ⟨rfl, rfl⟩ σ G1 H1 _ (hE.mono s1) t1 h1 ((kk.kx hE).mono s1) fun v2 d2 G2 H2 I2 s2 t2 h2 r2 ⟨ed2, ei2⟩ => ?_
    subst ed2 ei2
    refine hi W (κ.r δ) (fun z1 J => z1 = y ∧ J = I2) ⟨rfl, rfl⟩ σ G2 H2 _ (hE.mono (s1.trans s2)) t2 h2 ((kk.kx hE).mono (s1.trans s2)) fun v3 d3 G3 H3 I3 s3 t3 h3 r3 ⟨ed3, ei3⟩ => ?_
    subst ed3 ei3
    have h4 : Hd (c.fill (iDic X.K p kds)) G3 H3 := ei ▸ h3
    obtain ⟨kvs, hp, kr, gp⟩ := h4.dic
    have e2 : v2 = .ref p := r2
    subst e2
    refine ⟨p, _, rfl, .inl ⟨kvs, k, hp, rep_key hk r3, by rw [kr.length, sizeLine_eq]; omega, rfl⟩, ?_⟩
    exact kk.nx δ σ G3 _ _ ((s1.trans s2).trans s3) (same_upd t3 gp) (h4.dicSet (kr.put ((r1.mono s2).mono s3))) (hE.mono ((s1.trans s2).trans s3)) nx)
def keyV : Key → D
  | .inl i => .int i
  | .inr s => .str s
theorem rep_keyV {K : PySem.W.Frag} {G : Hp} (k : Key) : Rep K G (keyV k) (kV k) := by
  cases k <;> exact rfl
end
end DL
set_option Elab.async false
set_option linter.all false
set_option maxRecDepth 100000
set_option maxHeartbeats 4000000
namespace PySem
open Sem (wp)
open AutoSeq1 (wpAny_loadPart')
end PySem
namespace DL
open PySem PySem.Spec PyProof.Rows L2
def enumD (ds : List D) : List D := (ds.zipIdx).map fun p => .tup [.int p.2, p.1]
theorem enumD_get {ds : List D} {i : Nat} {d : D} (h : ds[i]? = some d) : (enumD ds)[i]? = some (.tup [.int i, d]) := by
  unfold enumD
  rw [List.getElem?_map, List.getElem?_zipIdx, h]
  simp
theorem enumD_len {ds : List D} : (enumD ds).length = ds.length := by unfold enumD; simp
theorem walk_eL {K : PySem.W.Frag} {a : Addr} {ds : List D} {vs : List V} {G : Hp} (h : SqL K G a vs) (r : Reps K G ds vs) : WalkD K (Ite K a) (enumD ds) G := by
  have hl := r.length
  refine ⟨fun i G' H' s1 s2 hi => (walk_enum (K := K) (a := a) (xs := vs)).goes i H' (by rw [enumD_len] at hi; omega) (sqL_mono (s1.trans s2) h), fun G' H' s1 s2 => by rw [enumD_len, ← hl]; exact walk_enum.stops H' (sqL_mono (s1.trans s2) h), fun i G' H' I x H'' s1 s2 hI hi y => ?_⟩
  rw [enumD_len] at hi
  obtain ⟨T, x1, y1, ex, hT, eH, e1, e2⟩ := (walk_enum (K := K) (a := a) (xs := vs)).yields i H' x H'' (by omega) (sqL_mono (s1.trans s2) h) y
  subst ex eH
  cases e1
  obtain ⟨d, hd⟩ : ∃ d, ds[i]? = some d := ⟨ds[i], by simp [hi]⟩
  obtain ⟨v, h1, h2⟩ := r.get hd
  rw [show vs[i]? = some y1 from e2] at h1
  cases h1
  have gT : G' T = none := s2.free hT
  exact ⟨upd G' T (.tup [.int (i : Nat), y1]), Evl.Ex.new gT, same_upd2 s2, hI.keep hT s2, fun b o z => by rw [upd_ne (fun q => by rw [q, hT] at z; cases z)]; exact z, _, enumD_get hd, T, _, rfl, SqT.of upd_same, .cons rfl (.one ((h2.mono s1).mono (Evl.Ex.new gT)))⟩
section
variable {X : Cx} {W : WX} {R : Rx X.K} {a e : Expr} {δ : DEnv} {I : Iv X.K} {pos p tpos : Pos} {elts : List Expr} {kk : Nat} {ds : List D}
theorem vi_enumL (hm : X.mg "enumerate" = none) (h : PV X I e δ (.lst ds)) (hg : Gl X "enumerate" := by rfl) (hs : starEach [e] X.env = [(false, eval e X.env)] := by rfl) (hs2 : starEach [e] X.env = (false, eval e X.env) :: starEach [] X.env := by rfl) : PVI X I (.Tuple elts kk tpos) (.Call (.Name "enumerate" p) [e] [] pos) δ (enumD ds) := fun W R P pp σ G H RR hE s hI qx q =>
  PI.wp (pi_enum (ta := wpA X [e]) hg hm paC hs) ((va_cons h va_nil hs2) W R (fun es I1 => es = [.lst ds] ∧ I1 = I) ⟨rfl, rfl⟩ σ G H _ hE s hI qx fun vs es G1 H1 I1 s1 t1 h1 r1 ⟨ee, ei⟩ => by
    subst ee ei
    obtain ⟨v, r, rfl, ⟨a, xs, rfl, e2, e3⟩, er⟩ := r1
    rw [show r = [] from er]
    exact ⟨a, xs, rfl, SqL.of (t1 _ _ e2), q _ _ G1 H1 _ s1 t1 h1 (walk_eL (SqL.of e2) e3) pp⟩)
end
end DL
set_option Elab.async false
set_option linter.all false
set_option maxRecDepth 100000
set_option maxHeartbeats 4000000
namespace DL
open PySem PySem.Spec PyProof.Rows L2

def eqD (x y : D) : Bool := PyData.eqv (pyD x) (pyD y)
def eqDs : List D → List D → Bool
  | [], [] => true
  | x :: xs, y :: ys => eqD x y && eqDs xs ys
  | _, _ => false
theorem eqvAll_eq : ∀ xs ys : List D, PyData.eqvAll (pyDs xs) (pyDs ys) = eqDs xs ys
  | [], [] => rfl
  | [], _ :: _ => rfl
  | _ :: _, [] => rfl
  | x :: xs, y :: ys => by
    show (PyData.eqv (pyD x) (pyD y) && PyData.eqvAll (pyDs xs) (pyDs ys)) = _
    rw [eqvAll_eq xs ys]; rfl
section
variable {s t : Str} {i j : Int} {a b : Bool} {xs ys : List D}
@[simp] theorem eqD_str : eqD (.str s) (.str t) = decide (s = t) := by
  show (s == t) = _
  exact Bool.eq_iff_iff.mpr (by simp)
@[simp] theorem eqD_int : eqD (.int i) (.int j) = decide (i = j) := by
  show (i == j) = _
  exact Bool.eq_iff_iff.mpr (by simp)
@[simp] theorem eqD_bl : eqD (.bl a) (.bl b) = decide (a = b) := by
  show (a == b) = _
  exact Bool.eq_iff_iff.mpr (by simp)
@[simp] theorem eqD_non : eqD .non .non = true := rfl
@[simp] theorem eqD_tup : eqD (.tup xs) (.tup ys) = eqDs xs ys := eqvAll_eq xs ys
@[simp] theorem eqD_lst : eqD (.lst xs) (.lst ys) = eqDs xs ys := eqvAll_eq xs ys
@[simp] theorem eqD_lstf : eqD (.lst xs) (.lsf ys) = eqDs xs ys := eqvAll_eq xs ys
@[simp] theorem eqD_lsfl : eqD (.lsf xs) (.lst ys) = eqDs xs ys := eqvAll_eq xs ys
@[simp] theorem eqD_tl : eqD (.tup xs) (.lst ys) = false := rfl
@[simp] theorem eqD_lt : eqD (.lst xs) (.tup ys) = false := rfl
@[simp] theorem eqD_tn : eqD (.tup xs) .non = false := rfl
@[simp] theorem eqD_nt : eqD .non (.tup xs) = false := rfl
@[simp] theorem eqD_ln : eqD (.lst xs) .non = false := rfl
@[simp] theorem eqD_nl : eqD .non (.lst xs) = false := rfl
@[simp] theorem eqD_sn : eqD (.str s) .non = false := rfl
@[simp] theorem eqD_ns : eqD .non (.str s) = false := rfl
@[simp] theorem eqD_in : eqD (.int i) .non = false := rfl
@[simp] theorem eqD_ni : eqD .non (.int i) = false := rfl
@[simp] theorem eqD_is : eqD (.int i) (.str s) = false := rfl
@[simp] theorem eqD_si : eqD (.str s) (.int i) = false := rfl
@[simp] theorem eqD_st : eqD (.str s) (.tup xs) = false := rfl
@[simp] theorem eqD_ts : eqD (.tup xs) (.str s) = false := rfl
@[simp] theorem eqD_it : eqD (.int i) (.tup xs) = false := rfl
@[simp] theorem eqD_ti : eqD (.tup xs) (.int i) = false := rfl
@[simp] theorem eqD_sl : eqD (.str s) (.lst xs) = false := rfl
@[simp] theorem eqD_ls : eqD (.lst xs) (.str s) = false := rfl
@[simp] theorem eqD_il : eqD (.int i) (.lst xs) = false := rfl
@[simp] theorem eqD_li : eqD (.lst xs) (.int i) = false := rfl
@[simp] theorem eqDs_nil : eqDs [] [] = true := rfl
@[simp] theorem eqDs_cons {x y : D} : eqDs (x :: xs) (y :: ys) = (eqD x y && eqDs xs ys) := rfl
@[simp] theorem eqDs_nc {y : D} : eqDs [] (y :: ys) = false := rfl
@[simp] theorem eqDs_cn {x : D} : eqDs (x :: xs) [] = false := rfl
end
structure Inj {α : Type} (g : α → D) : Prop where
  eq : ∀ a b, eqD (g a) (g b) = true ↔ a = b
theorem Inj.str : Inj D.str := ⟨fun a b => by simp⟩
theorem Inj.int : Inj D.int := ⟨fun a b => by simp⟩
theorem Inj.eqs {α : Type} {g : α → D} (h : Inj g) : ∀ xs ys : List α, eqDs (xs.map g) (ys.map g) = true ↔ xs = ys
  | [], [] => by simp
  | [], y :: ys => by simp
  | x :: xs, [] => by simp
  | x :: xs, y :: ys => by simp [h.eq x y, h.eqs xs ys]
theorem Inj.lst {α : Type} {g : α → D} (h : Inj g) : Inj fun xs : List α => D.lst (xs.map g) := ⟨fun a b => by simp [h.eqs]⟩
theorem Inj.tup {α : Type} {g : α → D} (h : Inj g) : Inj fun xs : List α => D.tup (xs.map g) := ⟨fun a b => by simp [h.eqs]⟩
theorem Inj.any {α : Type} [DecidableEq α] {g : α → D} (h : Inj g) (x : α) (xs : List α) : (xs.map g).any (fun z => eqD z (g x)) = decide (x ∈ xs) := Bool.eq_iff_iff.mpr (by
  simp only [List.any_map, List.any_eq_true, Function.comp, decide_eq_true_eq]
  exact ⟨fun ⟨y, hy, e⟩ => ((h.eq y x).mp e) ▸ hy, fun hx => ⟨x, hx, (h.eq x x).mpr rfl⟩⟩)

structure OkD (n : Nat) (d : D) : Prop where
  py : okPy d = true
  cl : (pyD d).canLay0 = true
  dp : (pyD d).depth ≤ n
theorem OkD.okEq {n : Nat} {d : D} (h : OkD n d) (hn : n ≤ 64) : okEq d = true := by
  unfold DL.okEq SeqAt.shaped
  rw [h.py, h.cl, decide_eq_true (Nat.le_trans h.dp hn)]; rfl
theorem OkD.mono {n m : Nat} {d : D} (h : OkD n d) (hn : n ≤ m) : OkD m d := ⟨h.py, h.cl, Nat.le_trans h.dp hn⟩
theorem OkD.non {n : Nat} : OkD n .non := ⟨rfl, rfl, Nat.zero_le _⟩
theorem OkD.bl {n : Nat} {b : Bool} : OkD n (.bl b) := ⟨rfl, rfl, Nat.zero_le _⟩
theorem OkD.int {n : Nat} {i : Int} : OkD n (.int i) := ⟨rfl, rfl, Nat.zero_le _⟩
theorem OkD.str {n : Nat} {s : Str} (h : PyData.strOk s = true) : OkD n (.str s) := ⟨rfl, h, Nat.zero_le _⟩
theorem okds {n : Nat} : ∀ {ds : List D}, (∀ d ∈ ds, OkD n d) → okPys ds = true ∧ PyData.canLayAll0 (pyDs ds) = true ∧ PyData.depthAll (pyDs ds) ≤ n
  | [], _ => ⟨rfl, rfl, Nat.zero_le _⟩
  | d :: ds, h => by
    obtain ⟨a, b, c⟩ := okds fun e he => h e (List.mem_cons_of_mem _ he)
    have q := h d (List.mem_cons_self ..)
    exact ⟨by show (okPy d && okPys ds) = true; rw [q.py, a]; rfl, by show (PyData.canLay0 (pyD d) && PyData.canLayAll0 (pyDs ds)) = true; rw [q.cl, b]; rfl, Nat.max_le.mpr ⟨q.dp, c⟩⟩
theorem OkD.tup {n : Nat} {ds : List D} (h : ∀ d ∈ ds, OkD n d) : OkD (n + 1) (.tup ds) := ⟨(okds h).1, (okds h).2.1, Nat.succ_le_succ (okds h).2.2⟩
theorem OkD.lst {n : Nat} {ds : List D} (h : ∀ d ∈ ds, OkD n d) : OkD (n + 1) (.lst ds) := ⟨(okds h).1, (okds h).2.1, Nat.succ_le_succ (okds h).2.2⟩
theorem OkD.lsf {n : Nat} {ds : List D} (h : ∀ d ∈ ds, OkD n d) : OkD (n + 1) (.lsf ds) := ⟨(okds h).1, (okds h).2.1, Nat.succ_le_succ (okds h).2.2⟩
theorem OkD.map {α : Type} {n : Nat} {g : α → D} {xs : List α} (h : ∀ x ∈ xs, OkD n (g x)) : ∀ d ∈ xs.map g, OkD n d := fun d hd => by
  obtain ⟨x, hx, rfl⟩ := List.mem_map.mp hd
  exact h x hx
theorem OkD.t1 {n : Nat} {a : D} (h : OkD n a) : OkD (n + 1) (.tup [a]) := .tup (by simp [h])
theorem OkD.t2 {n : Nat} {a b : D} (h : OkD n a) (h2 : OkD n b) : OkD (n + 1) (.tup [a, b]) := .tup (by simp [h, h2])
theorem OkD.t3 {n : Nat} {a b c : D} (h : OkD n a) (h2 : OkD n b) (h3 : OkD n c) : OkD (n + 1) (.tup [a, b, c]) := .tup (by simp [h, h2, h3])
theorem OkD.t4 {n : Nat} {a b c d : D} (h : OkD n a) (h2 : OkD n b) (h3 : OkD n c) (h4 : OkD n d) : OkD (n + 1) (.tup [a, b, c, d]) := .tup (by simp [h, h2, h3, h4])

section
variable {X : Cx}
def rInDT (K : PySem.W.Frag) : R2 := fun x y H Q => ∃ d ds, Dp K H x d ∧ (Dp K H y (.list ds) ∨ Dp K H y (.tuple ds)) ∧ SeqAt.shaped d = true ∧ PyData.canLayAll0 ds = true ∧ Q (.bl (ds.any fun z => PyData.eqv z d)) H
def rNotInDT (K : PySem.W.Frag) : R2 := fun x y H Q => ∃ d ds, Dp K H x d ∧ (Dp K H y (.list ds) ∨ Dp K H y (.tuple ds)) ∧ SeqAt.shaped d = true ∧ PyData.canLayAll0 ds = true ∧ Q (.bl (!ds.any fun z => PyData.eqv z d)) H
theorem op_inDT (hu : X.A.units + 65 < cLine) : OpR X (compareOp .In) (rInDT X.K) := by
  intro pins s σ H x y v u Q I rx ry h
  obtain ⟨d, ds, hd, he, sd, se, q⟩ := h
  obtain ⟨as, r1⟩ := Dp.reads I d x v hd rx
  rcases he with he | he
  · obtain ⟨bs, r2⟩ := Dp.reads I (.list ds) y u he ry
    exact SeqAt.in_list_reads r2 r1 se (SeqAt.canLay_of_shaped sd) (room_in_shaped sd hu) ⟨.bl _, H, I, rfl, q⟩
  · obtain ⟨bs, r2⟩ := Dp.reads I (.tuple ds) y u he ry
    exact SeqAt.in_tuple_reads r2 r1 se (SeqAt.canLay_of_shaped sd) (room_in_shaped sd hu) ⟨.bl _, H, I, rfl, q⟩
theorem op_notInDT (hu : X.A.units + 65 < cLine) : OpR X (compareOp .NotIn) (rNotInDT X.K) := by
  intro pins s σ H x y v u Q I rx ry h
  obtain ⟨d, ds, hd, he, sd, se, q⟩ := h
  obtain ⟨as, r1⟩ := Dp.reads I d x v hd rx
  rcases he with he | he
  · obtain ⟨bs, r2⟩ := Dp.reads I (.list ds) y u he ry
    exact SeqAt.notIn_list_reads r2 r1 se (SeqAt.canLay_of_shaped sd) (room_in_shaped sd hu) ⟨.bl _, H, I, rfl, q⟩
  · obtain ⟨bs, r2⟩ := Dp.reads I (.tuple ds) y u he ry
    exact SeqAt.notIn_tuple_reads r2 r1 se (SeqAt.canLay_of_shaped sd) (room_in_shaped sd hu) ⟨.bl _, H, I, rfl, q⟩
theorem any_py (d : D) : ∀ ds : List D, (pyDs ds).any (fun z => PyData.eqv z (pyD d)) = ds.any fun z => eqD z d
  | [] => rfl
  | e :: ds => by
    show (PyData.eqv (pyD e) (pyD d) || (pyDs ds).any _) = _
    rw [any_py d ds]; rfl
def itemsD : D → Option (List D)
  | .tup ds => some ds
  | .lst ds => some ds
  | .lsf ds => some ds
  | _ => none
theorem items_dp {K : PySem.W.Frag} {G H : Hp} {z : D} {ds : List D} {v : V} (s : Same G H) (hz : itemsD z = some ds) (h : okPys ds = true) (r : Rep K G z v) : Dp K H v (.list (pyDs ds)) ∨ Dp K H v (.tuple (pyDs ds)) := by
  cases z <;> first | cases hz | skip
  · exact .inr (dp_of (d := .tup _) s h r)
  · exact .inl (dp_of (d := .lst _) s h r)
  · exact .inl (dp_of (d := .lsf _) s h r)
theorem p2_inD {K : PySem.W.Frag} {I : Iv K} {x z : D} {ds : List D} {n : Nat} (hz : itemsD z = some ds) (hx : OkD 64 x) (hd : ∀ d ∈ ds, OkD n d) : P2 K I (rInDT K) x z (.bl (ds.any fun y => eqD y x)) := fun P p G H v w Q s hI r1 r2 q =>
  ⟨_, _, dp_of s hx.py r1, items_dp s hz (okds hd).1 r2, (Bool.and_eq_true_iff.mp (hx.okEq (by decide))).2, (okds hd).2.1, by rw [any_py]; exact q _ (.bl _) G H I (Same.refl G) s hI rfl p⟩
theorem p2_ninD {K : PySem.W.Frag} {I : Iv K} {x z : D} {ds : List D} {n : Nat} (hz : itemsD z = some ds) (hx : OkD 64 x) (hd : ∀ d ∈ ds, OkD n d) : P2 K I (rNotInDT K) x z (.bl (!ds.any fun y => eqD y x)) := fun P p G H v w Q s hI r1 r2 q =>
  ⟨_, _, dp_of s hx.py r1, items_dp s hz (okds hd).1 r2, (Bool.and_eq_true_iff.mp (hx.okEq (by decide))).2, (okds hd).2.1, by rw [any_py]; exact q _ (.bl _) G H I (Same.refl G) s hI rfl p⟩
end

section
variable {X : Cx} {W : WX} {R : Rx X.K} {a b c e : Expr} {es : List Expr} {δ : DEnv} {I : Iv X.K} {P : D → Iv X.K → Prop} {pos p p2 : Pos} {x y z d : D} {x' : Str} {ds : List D} {i j : Int} {k : Bool} {C : Prop}
theorem pv_w (i : Nat) (hd : δ[i]? = some (some d)) (hN : X.N[i]? = some x' := by rfl) (hv : Vis X.env.scope x' := by first | exact Or.inl rfl | exact Or.inr (Or.inl rfl) | exact Or.inr (Or.inr rfl)) (hdb : (x' == ("__debug__" : Str)) = false := by decide)
    (hcd : (x' == ("__classdict__" : Str)) = false := by decide) : PV X I (.Name x' pos) δ d := pv_v i hd hN hv hdb hcd
end
class EqC (x y : D) (b : outParam Bool) (C : outParam Prop) : Prop where
  e : C → ∀ (X : Cx) (I : Iv X.K), X.A.units + 64 < cLine → ∃ r, OpR X (compareOp .Eq) r ∧ P2 X.K I r x y (.bl b)
  n : C → ∀ (X : Cx) (I : Iv X.K), X.A.units + 64 < cLine → ∃ r, OpR X (compareOp .NotEq) r ∧ P2 X.K I r x y (.bl (!b))
theorem EqC.flat {x y : D} {v u : V} {b : Bool} (hx : flatD x = some v) (hy : flatD y = some u) (hs : scal v u = true) (hb : decide (v = u) = b) : EqC x y b True :=
  ⟨fun _ X I _ => ⟨_, op_eq, p2_eq hx hy hs hb⟩, fun _ X I _ => ⟨_, op_ne, p2_ne hx hy hs (by rw [hb])⟩⟩
theorem EqC.data {x y : D} : EqC x y (eqD x y) (okEq x = true ∧ okEq y = true) :=
  ⟨fun c X I hu => ⟨_, op_eqD hu, p2_eqD c.1 c.2⟩, fun c X I hu => ⟨_, op_neD hu, p2_neD c.1 c.2⟩⟩
instance {s t : Str} : EqC (.str s) (.str t) (decide (s = t)) True := .flat rfl rfl rfl (by simp)
instance {s t : Int} : EqC (.int s) (.int t) (decide (s = t)) True := .flat rfl rfl rfl (by simp)
instance {s t : Bool} : EqC (.bl s) (.bl t) (decide (s = t)) True := .flat rfl rfl rfl (by simp)
instance : EqC .non .non true True := .flat rfl rfl rfl rfl
instance {s : Str} : EqC (.str s) .non false True := .flat rfl rfl rfl rfl
instance {s : Str} : EqC .non (.str s) false True := .flat rfl rfl rfl rfl
instance {s : Int} : EqC (.int s) .non false True := .flat rfl rfl rfl rfl
instance {s : Int} : EqC .non (.int s) false True := .flat rfl rfl rfl rfl
instance {s : Int} {t : Str} : EqC (.int s) (.str t) false True := .flat rfl rfl rfl rfl
instance {s : Int} {t : Str} : EqC (.str t) (.int s) false True := .flat rfl rfl rfl rfl
instance {s : Bool} : EqC .non (.bl s) false True := .flat rfl rfl rfl rfl
instance {s : Bool} : EqC (.bl s) .non false True := .flat rfl rfl rfl rfl
instance {xs ys : List D} : EqC (.tup xs) (.tup ys) (eqD (.tup xs) (.tup ys)) (okEq (.tup xs) = true ∧ okEq (.tup ys) = true) := .data
instance {xs ys : List D} : EqC (.lst xs) (.lst ys) (eqD (.lst xs) (.lst ys)) (okEq (.lst xs) = true ∧ okEq (.lst ys) = true) := .data
instance {xs ys : List D} : EqC (.lst xs) (.tup ys) (eqD (.lst xs) (.tup ys)) (okEq (.lst xs) = true ∧ okEq (.tup ys) = true) := .data
instance {xs ys : List D} : EqC (.tup xs) (.lst ys) (eqD (.tup xs) (.lst ys)) (okEq (.tup xs) = true ∧ okEq (.lst ys) = true) := .data
instance {xs : List D} : EqC (.tup xs) .non (eqD (.tup xs) .non) (okEq (.tup xs) = true ∧ okEq .non = true) := .data
instance {xs : List D} : EqC .non (.tup xs) (eqD .non (.tup xs)) (okEq .non = true ∧ okEq (.tup xs) = true) := .data
instance {xs : List D} : EqC (.lst xs) .non (eqD (.lst xs) .non) (okEq (.lst xs) = true ∧ okEq .non = true) := .data
section
variable {X : Cx} {W : WX} {R : Rx X.K} {a b c e : Expr} {es : List Expr} {δ : DEnv} {I : Iv X.K} {P : D → Iv X.K → Prop} {pos p p2 : Pos} {x y z d : D} {x' : Str} {ds : List D} {i j : Int} {k : Bool} {C : Prop}
theorem pv_eq (hu : X.A.units + 64 < cLine) (ha : PV X I a δ x) (hb : PV X I b δ y) [E : EqC x y k C] (c : C) (hm : behindInMarks .Eq b = false := by first | exact nomark _ | rfl) : PV X I (.Compare a [.Eq] [b] pos) δ (.bl k) := by
  obtain ⟨r, ho, h⟩ := E.e c X I hu
  exact pv_cmp ho ha hb h hm
theorem pv_ne (hu : X.A.units + 64 < cLine) (ha : PV X I a δ x) (hb : PV X I b δ y) [E : EqC x y k C] (c : C) (hm : behindInMarks .NotEq b = false := by first | exact nomark _ | rfl) : PV X I (.Compare a [.NotEq] [b] pos) δ (.bl (!k)) := by
  obtain ⟨r, ho, h⟩ := E.n c X I hu
  exact pv_cmp ho ha hb h hm
theorem pt_eq (hu : X.A.units + 64 < cLine) (ha : PV X I a δ x) (hb : PV X I b δ y) [E : EqC x y k C] (c : C) (hm : behindInMarks .Eq b = false := by first | exact nomark _ | rfl) : PVT X I (.Compare a [.Eq] [b] pos) δ k := by
  obtain ⟨r, ho, h⟩ := E.e c X I hu
  exact pt_cmp ho ha hb h hm
theorem pt_ne (hu : X.A.units + 64 < cLine) (ha : PV X I a δ x) (hb : PV X I b δ y) [E : EqC x y k C] (c : C) (hm : behindInMarks .NotEq b = false := by first | exact nomark _ | rfl) : PVT X I (.Compare a [.NotEq] [b] pos) δ (!k) := by
  obtain ⟨r, ho, h⟩ := E.n c X I hu
  exact pt_cmp ho ha hb h hm
theorem pt_chn {op op' : CmpOp} {r r' : R2} {k l : Bool} (ho : OpR X (compareOp op) r) (ho' : OpR X (compareOp op') r') (ha : PV X I a δ x) (hb : PV X I b δ y) (h1 : P2 X.K I r x y (.bl k)) (hc : PV X I c δ z) (h2 : P2 X.K I r' y z (.bl l))
    (hm : lastMarks [op, op'] [b, c] = false := by with_unfolding_all rfl) : PVT X I (.Compare a [op, op'] [b, c] pos) δ (k && l) := fun W R P pp σ G H Q hE s hI qx q =>
  PT.wp (pt_chain ho ho' peC peC peC hm) (ha W R (fun z1 J => z1 = x ∧ J = I) ⟨rfl, rfl⟩ σ G H _ hE s hI qx fun v d1 G1 H1 I1 s1 t1 g1 r1 ⟨ed, ei⟩ => by
    subst ed ei
    refine hb W R (fun z1 J => z1 = y ∧ J = I1) ⟨rfl, rfl⟩ σ G1 H1 _ (hE.mono s1) t1 g1 (qx.mono s1) fun v2 d2 G2 H2 I2 s2 t2 g2 r2 ⟨ed2, ei2⟩ => ?_
    subst ed2 ei2
    refine h1 (fun z1 J => z1 = .bl k ∧ J = I2) ⟨rfl, rfl⟩ G2 H2 v v2 _ t2 g2 (r1.mono s2) r2 fun v3 d3 G3 H3 I3 s3 t3 g3 r3 ⟨ed3, ei3⟩ => ?_
    subst ed3 ei3
    refine ⟨k, r3, ?_⟩
    cases k with
    | false =>
      exact ⟨false, rfl, q false G3 H3 _ ((s1.trans s2).trans s3) t3 g3 pp⟩
    | true =>
      simp only [if_true]
      refine hc W R (fun z1 J => z1 = z ∧ J = I3) ⟨rfl, rfl⟩ σ G3 H3 _ (hE.mono ((s1.trans s2).trans s3)) t3 g3 (qx.mono ((s1.trans s2).trans s3)) fun v4 d4 G4 H4 I4 s4 t4 g4 r4 ⟨ed4, ei4⟩ => ?_
      subst ed4 ei4
      refine h2 (fun z1 J => z1 = .bl l ∧ J = I4) ⟨rfl, rfl⟩ G4 H4 v2 v4 _ t4 g4 ((r2.mono s3).mono s4) r4 fun v5 d5 G5 H5 I5 s5 t5 g5 r5 ⟨ed5, ei5⟩ => ?_
      subst ed5 ei5
      exact ⟨l, r5, q l G5 H5 _ ((((s1.trans s2).trans s3).trans s4).trans s5) t5 g5 pp⟩)
end
end DL
set_option Elab.async false
set_option linter.all false
set_option maxRecDepth 100000
set_option maxHeartbeats 4000000
namespace DL
open PySem PySem.Spec PyProof.Rows L2

structure wpGs (X : Cx) (ts : List Expr) (vs : List V) (σ : L2.St) (H : Hp) (Q : L2.St → Hp → Prop) : Prop where
  run : ∀ (pins : List (Addr × Obj)) (s : Shared) (us : List Value), Inv X pins σ H s → Vals vs us → wpAny (model X.prog X.w) X.A (assignInOrder ((assignEach ts X.env).map (·.2)) us) (fun _ s' => ∃ σ' H', Inv X pins σ' H' s' ∧ Q σ' H') X.xe s
def BindsD (X : Cx) (ts : List Expr) (ds : List D) (δ δ' : DEnv) (ws : List Nat) : Prop := ∀ (vs : List V) (σ : L2.St) (G H : Hp) (Q : L2.St → Hp → Prop), EnvR X.K G δ σ → Same G H → Reps X.K G ds vs → (∀ σ', EnvR X.K G δ' σ' → wipe σ' ws = wipe σ ws → Q σ' H) → wpGs X ts vs σ H Q
section
variable {X : Cx} {t e : Expr} {ts : List Expr} {d : D} {ds : List D} {δ δ1 δ2 : DEnv} {ws : List Nat} {pos : Pos} {W : WX} {I : Iv X.K} {κ : Ko X.K} {kk : Nat}
theorem pgsC : PGs X ts (wpGs X ts) := ⟨fun pins s σ H vs us Q I r h => h.run pins s us I r⟩
theorem bs_nil : BindsD X [] [] δ δ ws := fun vs σ G H Q hE s r q => ⟨fun pins s us J rv => pgs_nil.run pins s σ H vs us Q J rv ⟨r, q σ hE rfl⟩⟩
theorem bs_cons (h : BindD X t d δ δ1 ws) (h2 : BindsD X ts ds δ1 δ2 ws) (hs : (assignEach (t :: ts) X.env).map (·.2) = assign t X.env :: (assignEach ts X.env).map (·.2) := by rfl) : BindsD X (t :: ts) (d :: ds) δ δ2 ws := fun vs σ G H Q hE s ⟨v, r, ev, r1, r2⟩ q => by
  subst ev
  exact ⟨fun pins st us J rv => (pgs_cons pgC pgsC hs).run pins st σ H _ us Q J rv ⟨v, r, rfl, h v σ G H _ hE s r1 fun σ1 e1 w1 => h2 r σ1 G H Q e1 s r2 fun σ2 e2 w2 => q σ2 e2 (w2.trans w1)⟩⟩
theorem bind_tup (h : BindsD X ts ds δ δ2 ws) (hc : X.calm = true := by rfl) (hn : (assignEach ts X.env).length = ds.length := by rfl) (hst : (assignEach ts X.env).findIdx? (·.1) = none := by rfl) : BindD X (.Tuple ts kk pos) (.tup ds) δ δ2 ws := fun v σ G H Q hE s ⟨a, vs, ev, e1, r⟩ q =>
  PG.wp (pg_tup hc pgsC hn hst) ⟨a, vs, ev, sqT_mono s e1, r.length, h vs σ G H Q hE s r q⟩
end

theorem lt_irr : ∀ a : List Nat, ltCps a a = false
  | [] => rfl
  | a :: r => by simp [ltCps, lt_irr r]
theorem lt_tr : ∀ a b c : List Nat, ltCps a b = true → ltCps b c = true → ltCps a c = true
  | [], [], _, h, _ => by simp [ltCps] at h
  | [], _ :: _, [], _, h => by simp [ltCps] at h
  | [], _ :: _, _ :: _, _, _ => rfl
  | _ :: _, [], _, h, _ => by simp [ltCps] at h
  | _ :: _, _ :: _, [], _, h => by simp [ltCps] at h
  | a :: r, b :: t, c :: u, h, k => by
    simp only [ltCps, Bool.or_eq_true, decide_eq_true_eq, Bool.and_eq_true, beq_iff_eq] at h k ⊢
    rcases h with h | ⟨h, h2⟩
    · rcases k with k | ⟨k, k2⟩
      · exact .inl (by omega)
      · exact .inl (by omega)
    · rcases k with k | ⟨k, k2⟩
      · exact .inl (by omega)
      · exact .inr ⟨by omega, lt_tr r t u h2 k2⟩
theorem lt_tri : ∀ a b : List Nat, ltCps a b = false → ltCps b a = false → a = b
  | [], [], _, _ => rfl
  | [], _ :: _, h, _ => by simp [ltCps] at h
  | _ :: _, [], _, h => by simp [ltCps] at h
  | a :: r, b :: t, h, k => by
    simp only [ltCps, Bool.or_eq_false_iff, decide_eq_false_iff_not, Bool.and_eq_false_iff, beq_eq_false_iff_ne] at h k
    have e : a = b := by omega
    subst e
    have h2 : ltCps r t = false := h.2.resolve_left (by simp)
    have k2 : ltCps t r = false := k.2.resolve_left (by simp)
    rw [lt_tri r t h2 k2]
def leS (a b : Str) : Bool := !ltCps b.cps.toList a.cps.toList
theorem leS_tr (a b c : Str) (h : leS a b = true) (k : leS b c = true) : leS a c = true := by
  unfold leS at h k ⊢
  simp only [Bool.not_eq_true'] at h k ⊢
  cases q : ltCps c.cps.toList a.cps.toList with
  | false => rfl
  | true =>
    cases q2 : ltCps a.cps.toList b.cps.toList with
    | true => rw [lt_tr _ _ _ q q2] at k; cases k
    | false =>
      have e := lt_tri _ _ h q2
      rw [e, q] at k
      cases k
theorem leS_total (a b : Str) : (leS a b || leS b a) = true := by
  unfold leS
  cases q : ltCps b.cps.toList a.cps.toList with
  | false => rfl
  | true =>
    cases q2 : ltCps a.cps.toList b.cps.toList with
    | false => rfl
    | true => have := lt_tr _ _ _ q q2; rw [lt_irr] at this; cases this
theorem leS_anti {a b : Str} (h : leS a b = true) (k : leS b a = true) : a = b := by
  unfold leS at h k
  simp only [Bool.not_eq_true'] at h k
  exact str_ext (lt_tri _ _ k h)
def sortS (xs : List Str) : List Str := xs.mergeSort leS
theorem sortS_perm (xs : List Str) : (sortS xs).Perm xs := List.mergeSort_perm xs _
theorem sortS_pw (xs : List Str) : (sortS xs).Pairwise (fun a b => leS a b = true) := List.pairwise_mergeSort leS_tr leS_total xs
theorem rising_pw : ∀ (ys : List Str) (p : Str), risingS p ys = true → (∀ y ∈ ys, leS p y = true) ∧ ys.Pairwise (fun a b => leS a b = true)
  | [], _, _ => ⟨(fun _ h => nomatch h), List.Pairwise.nil⟩
  | y :: ys, p, h => by
    obtain ⟨h1, h2⟩ := Bool.and_eq_true_iff.mp (show (!ltCps y.cps.toList p.cps.toList && risingS y ys) = true from h)
    obtain ⟨q1, q2⟩ := rising_pw ys y h2
    exact ⟨fun z hz => (List.mem_cons.mp hz).elim (fun e => e ▸ h1) fun hz => leS_tr _ _ _ h1 (q1 z hz), List.Pairwise.cons q1 q2⟩
theorem sorted_pw {ys : List Str} (h : sortedS ys = true) : ys.Pairwise (fun a b => leS a b = true) := by
  cases ys with
  | nil => exact .nil
  | cons y ys => exact .cons (rising_pw ys y h).1 (rising_pw ys y h).2
theorem sort_uniq {xs ys : List Str} (h1 : ys.Pairwise (fun a b => leS a b = true)) (h2 : ys.Perm xs) : ys = sortS xs :=
  List.Perm.eq_of_pairwise (fun a b _ _ => leS_anti) h1 (sortS_pw xs) (h2.trans (sortS_perm xs).symm)
theorem sortS_len (xs : List Str) : (sortS xs).length = xs.length := (sortS_perm xs).length_eq
theorem sortS_mem {x : Str} {xs : List Str} : x ∈ sortS xs ↔ x ∈ xs := (sortS_perm xs).mem_iff
theorem sortS_congr {xs ys : List Str} (h : xs.Perm ys) : sortS xs = sortS ys := sort_uniq (sortS_pw xs) ((sortS_perm xs).trans h)

section
variable {K : PySem.W.Frag} {I : Iv K} {d : D} {ds : List D} {kds : List (Key × D)} {ss : List Str}
theorem pn_sortedS (h : ss.length < 64) : PN K I (rSortedS K) [.lst (ss.map D.str)] (.lst ((sortS ss).map D.str)) := fun P p G H vs Q s hI r q => by
  obtain ⟨v, r1, rfl, ⟨a, xs, rfl, e2, e3⟩, er⟩ := r
  rw [show r1 = [] from er]
  rw [repsStr e3] at e2
  refine ⟨a, ss, rfl, SqL.of (s _ _ e2), h, fun ys p hp hs hq => ?_⟩
  rw [sort_uniq (sorted_pw hs) hp]
  have hg : G p = none := s.free hq
  exact q (.ref p) (.lst ((sortS ss).map D.str)) (upd G p (.lst ((sortS ss).map V.str))) _ I (Evl.Ex.new hg) (same_upd2 s) (hI.keep hq s) ⟨p, _, rfl, upd_same, (reps_flat (flatDs_str _))⟩ ‹_›
theorem pn_listD : PN K I (fun xs H Q => ∃ (a : Addr) (kvs : List (Key × V)), xs = [.ref a] ∧ Rd H a (.dK kvs) ∧ ∀ p, H p = none → Q (.ref p) (upd H p (.lst (kvs.map fun kv => kV kv.1)))) [dicD kds] (.lst (kds.map fun p => keyV p.1)) := fun P pp G H vs Q s hI r q => by
  obtain ⟨v, r1, rfl, rd, er⟩ := r
  rw [show r1 = [] from er]
  obtain ⟨a, od, kvs, rfl, e1, kr⟩ := rep_dicD.mp rd
  refine ⟨a, kvs, rfl, .inr ⟨od, s _ _ e1⟩, fun p hq => ?_⟩
  have hg : G p = none := s.free hq
  have rr : Reps K (upd G p (.lst (kvs.map fun kv => kV kv.1))) (kds.map fun p => keyV p.1) (kvs.map fun kv => kV kv.1) := by
    have e := kr.keys
    have e2 : (kvs.map fun kv => kV kv.1) = (kds.map (·.1)).map kV := by rw [← e, List.map_map]; rfl
    have e3 : (kds.map fun p => keyV p.1) = (kds.map (·.1)).map keyV := by rw [List.map_map]; rfl
    rw [e2, e3]
    generalize kds.map (·.1) = ks
    generalize upd G p _ = G'
    induction ks with
    | nil => exact .nil
    | cons k ks ih => exact .cons (rep_keyV k) ih
  exact q (.ref p) (.lst (kds.map fun p => keyV p.1)) (upd G p (.lst _)) _ I (Evl.Ex.new hg) (same_upd2 s) (hI.keep hq s) ⟨p, _, rfl, upd_same, rr⟩ pp
end

def cutD (ds : List D) (lo hi : Option Int) : List D := (ds.drop (HT.sIx ds.length 0 lo)).take (HT.sIx ds.length ds.length hi - HT.sIx ds.length 0 lo)
theorem Reps.drop {K : PySem.W.Frag} {G : Hp} : ∀ {ds : List D} {vs : List V} (n : Nat), Reps K G ds vs → Reps K G (ds.drop n) (vs.drop n)
  | _, _, 0, h => h
  | [], _, n + 1, h => by rw [show _ = [] from h]; exact rfl
  | _ :: _, _, n + 1, ⟨v, r, e, _, h3⟩ => by rw [e]; exact Reps.drop n h3
theorem Reps.take {K : PySem.W.Frag} {G : Hp} : ∀ {ds : List D} {vs : List V} (n : Nat), Reps K G ds vs → Reps K G (ds.take n) (vs.take n)
  | [], _, n, h => by rw [show _ = [] from h, List.take_nil, List.take_nil]; exact rfl
  | _ :: _, _, 0, _ => rfl
  | _ :: _, _, n + 1, ⟨v, r, e, h2, h3⟩ => by rw [e]; exact ⟨v, r.take n, rfl, h2, Reps.take n h3⟩
theorem Reps.cut {K : PySem.W.Frag} {G : Hp} {ds : List D} {vs : List V} (h : Reps K G ds vs) (lo hi : Option Int) : Reps K G (cutD ds lo hi) (cutV vs lo hi) := by
  unfold cutD cutV
  rw [h.length]
  exact (h.drop _).take _
theorem cut_take (ds : List D) (n : Nat) : cutD ds none (some (n : Int)) = ds.take n := by
  unfold cutD
  rw [HT.sIx_none, HT.sIx_nat, List.drop_zero, Nat.sub_zero]
  rw [Nat.min_def]
  split
  · rfl
  · rw [List.take_length, List.take_of_length_le (by omega)]
theorem cut_mid (ds : List D) (n m : Nat) : cutD ds (some (n : Int)) (some (m : Int)) = (ds.drop n).take (m - n) := by
  unfold cutD
  rw [HT.sIx_nat, HT.sIx_nat]
  by_cases h : n ≤ ds.length
  · rw [Nat.min_eq_left h]
    by_cases h2 : m ≤ ds.length
    · rw [Nat.min_eq_left h2]
    · rw [Nat.min_eq_right (show ds.length ≤ m by omega), List.take_of_length_le (show (ds.drop n).length ≤ ds.length - n by simp), List.take_of_length_le (show (ds.drop n).length ≤ m - n by simp; omega)]
  · rw [Nat.min_eq_right (show ds.length ≤ n by omega), List.drop_length, List.take_nil, List.drop_of_length_le (show ds.length ≤ n by omega), List.take_nil]
theorem cut_last (ds : List D) : cutD ds (some (-1)) none = ds.drop (ds.length - 1) := by
  unfold cutD
  have e : HT.sIx ds.length 0 (some (-1)) = ds.length - 1 := by
    show (if (-1 : Int) < 0 then ((-1 : Int) + (ds.length : Int)).toNat else min (-1 : Int).toNat ds.length) = _
    rw [if_pos (by decide)]
    omega
  rw [e, HT.sIx_none, List.take_of_length_le (by simp)]
structure wpO (X : Cx) (o : Option Expr) (σ : L2.St) (H : Hp) (Q : Option Int → Hp → Prop) : Prop where
  run : ∀ (pins : List (Addr × Obj)) (s : Shared), Inv X pins σ H s → wpAny (model X.prog X.w) X.A (evalPart o X.env) (fun u s' => ∃ o H', Inv X pins σ H' s' ∧ IsPart u o ∧ Q o H') X.xe s
section
variable {X : Cx} {a e : Expr} {lo hi : Option Expr} {δ : DEnv} {I : Iv X.K} {pos p2 : Pos} {ds : List D} {l h : Option Int} {i : Int} {z : Str}
theorem poC : PO X lo (wpO X lo) := ⟨fun pins s σ H Q I h => h.run pins s I⟩
def PVO (X : Cx) (I : Iv X.K) (lo : Option Expr) (δ : DEnv) (l : Option Int) : Prop := ∀ (W : WX) (R : Rx X.K) (σ : L2.St) (G H : Hp) (Q : Option Int → Hp → Prop), EnvR X.K G δ σ → Same G H → Hd I G H → Kx X.K W σ G R →
  (∀ G' H', Same G G' → Same G' H' → Hd I G' H' → Q l H') → wpO X lo σ H Q
theorem vo_none : PVO X I none δ none := fun W R σ G H Q _ s hI _ q => ⟨fun pins st J => po_none.run pins st σ H Q J (q G H (Same.refl G) s hI)⟩
theorem vo_some (he : PV X I e δ (.int i)) : PVO X I (some e) δ (some i) := fun W R σ G H Q hE s hI qx q => ⟨fun pins st J => (po_some peC).run pins st σ H Q J
  (he W R (fun z J => z = .int i ∧ J = I) ⟨rfl, rfl⟩ σ G H _ hE s hI qx fun v d G1 H1 I1 s1 t1 g1 r1 ⟨ed, ei⟩ => by
    subst ed ei
    exact ⟨i, r1, q G1 H1 s1 t1 g1⟩)⟩
theorem pv_slice {r : V → Option Int → Option Int → Hp → VK → Prop} {x z : D} (hr : SlR X r) (ha : PV X I a δ x) (hl : PVO X I lo δ l) (hh : PVO X I hi δ h)
    (k : ∀ (G H : Hp) (v : V) (Q : VK), Same G H → Hd I G H → Rep X.K G x v → (∀ (w : V) (G' H' : Hp), Same G G' → Same G' H' → Hd I G' H' → Rep X.K G' z w → Q w H') → r v l h H Q) : PV X I (.Subscript a (.Slice lo hi none p2) pos) δ z := fun W R P pp σ G H Q hE s hI qx q =>
  PE.wp (pe_slice hr peC poC poC) (ha W R (fun y J => y = x ∧ J = I) ⟨rfl, rfl⟩ σ G H _ hE s hI qx fun v d G1 H1 I1 s1 t1 g1 r1 ⟨ed, ei⟩ => by
    subst ed ei
    refine hl W R σ G1 H1 _ (hE.mono s1) t1 g1 (qx.mono s1) fun G2 H2 s2 t2 g2 => ?_
    refine hh W R σ G2 H2 _ (hE.mono (s1.trans s2)) t2 g2 (qx.mono (s1.trans s2)) fun G3 H3 s3 t3 g3 => ?_
    exact k G3 H3 v Q t3 g3 ((r1.mono s2).mono s3) fun w G4 H4 s4 t4 g4 r4 => q w z G4 H4 _ (((s1.trans s2).trans s3).trans s4) t4 g4 r4 pp)
theorem pv_slL (ha : PV X I a δ (.lst ds)) (hl : PVO X I lo δ l) (hh : PVO X I hi δ h) : PV X I (.Subscript a (.Slice lo hi none p2) pos) δ (.lst (cutD ds l h)) :=
  pv_slice sl_list ha hl hh fun G H v Q s hI ⟨b, vs, ev, e1, e2⟩ q => ⟨b, vs, ev, SqL.of (s _ _ e1), fun p hp => by
    have hg : G p = none := s.free hp
    exact q (.ref p) _ _ (Evl.Ex.new hg) (same_upd2 s) (hI.keep hp s) ⟨p, _, rfl, upd_same, (e2.cut l h).mono (Evl.Ex.new hg)⟩⟩
end
end DL
set_option Elab.async false
set_option linter.all false
set_option maxRecDepth 100000
set_option maxHeartbeats 4000000
namespace DL
open PySem PySem.Spec PyProof.Rows L2

def msk : DEnv → DEnv → DEnv
  | a :: as, none :: bs => none :: msk as bs
  | a :: as, some _ :: bs => a :: msk as bs
  | _, _ => []
def DLe (δ δ0 : DEnv) : Prop := δ.length = δ0.length ∧ ∀ (i : Nat) (d : D), δ0[i]? = some (some d) → δ[i]? = some (some d)
theorem DLe.refl {δ : DEnv} : DLe δ δ := ⟨rfl, fun _ _ h => h⟩
theorem DLe.trans {a b c : DEnv} (h : DLe a b) (k : DLe b c) : DLe a c := ⟨h.1.trans k.1, fun i d e => h.2 i d (k.2 i d e)⟩
theorem msk_of : ∀ {δ δ0 : DEnv}, msk δ δ0 = δ0 → DLe δ δ0 ∨ δ0.length < δ.length ∨ δ0 = []
  | [], [], _ => .inl .refl
  | [], b :: bs, h => by cases b <;> cases h
  | a :: as, [], _ => .inr (.inr rfl)
  | a :: as, none :: bs, h => by
    have h2 : msk as bs = bs := (List.cons.inj h).2
    rcases msk_of h2 with q | q | q
    · refine .inl ⟨by simp [q.1], fun i d e => ?_⟩
      cases i with
      | zero => cases e
      | succ i => exact q.2 i d e
    · exact .inr (.inl (by simpa using q))
    · subst q
      cases as with
      | nil => exact .inl ⟨rfl, fun i d e => by cases i with
        | zero => cases e
        | succ i => cases e⟩
      | cons _ _ => exact .inr (.inl (by simp))
  | a :: as, some b :: bs, h => by
    have h1 : a = some b := (List.cons.inj h).1
    have h2 : msk as bs = bs := (List.cons.inj h).2
    rcases msk_of h2 with q | q | q
    · refine .inl ⟨by simp [q.1], fun i d e => ?_⟩
      cases i with
      | zero => rw [h1]; exact e
      | succ i => exact q.2 i d e
    · exact .inr (.inl (by simpa using q))
    · subst q
      cases as with
      | nil => exact .inl ⟨rfl, fun i d e => by cases i with
        | zero => rw [h1]; exact e
        | succ i => cases e⟩
      | cons _ _ => exact .inr (.inl (by simp))
theorem DLe.of {δ δ0 : DEnv} (h : msk δ δ0 = δ0) (hl : δ.length = δ0.length) : DLe δ δ0 := by
  rcases msk_of h with q | q | q
  · exact q
  · omega
  · subst q
    exact ⟨hl, fun i d e => by simp at e⟩
theorem DLe.wipe (δ : DEnv) : ∀ vs, DLe δ (wipeD δ vs)
  | [] => .refl
  | v :: vs => (DLe.wipe δ vs).trans ⟨by show _ = ((wipeD δ vs).set v none).length; simp, fun i d e => by
    have e : ((wipeD δ vs).set v none)[i]? = some (some d) := e
    by_cases h : v = i
    · subst h
      rw [List.getElem?_set] at e
      simp at e
    · rwa [List.getElem?_set_ne h] at e⟩
theorem EnvR.le {K : PySem.W.Frag} {G : Hp} {δ δ0 : DEnv} {σ : L2.St} (h : EnvR K G δ σ) (k : DLe δ δ0) : EnvR K G δ0 σ := ⟨h.1.trans k.1, fun i d e => h.2 i d (k.2 i d e)⟩
section
variable {X : Cx} {W : WX} {R : Rx X.K} {tg iter e elt c : Expr} {ifs : List Expr} {scope : Scope} {sts body : List Stmt} {st : Stmt} {δ δ0 : DEnv} {I : Iv X.K} {κ : Ko X.K} {P : D → Iv X.K → Prop} {pos : Pos} {d : D} {vs : List Nat}
theorem SX.le (k : DLe δ δ0) (h : SX X W sts δ0 I κ) : SX X W sts δ I κ := fun σ G H E hE => h σ G H E (hE.le k)
theorem S1.le (k : DLe δ δ0) (h : S1 X W st δ0 I κ) : S1 X W st δ I κ := fun σ G H E hE => h σ G H E (hE.le k)
theorem BindD.le {δ1 : DEnv} (k : DLe δ δ0) (h : BindD X tg d δ0 δ1 vs) : BindD X tg d δ δ1 vs := fun v σ G H Q hE => h v σ G H Q (hE.le k)
def Ko.w {K : PySem.W.Frag} (κ : Ko K) : Ko K := { κ with nx := fun δ' I' => ∃ δ0, DLe δ' δ0 ∧ κ.nx δ0 I', bk := fun δ' I' => ∃ δ0, DLe δ' δ0 ∧ κ.bk δ0 I', ct := fun δ' I' => ∃ δ0, DLe δ' δ0 ∧ κ.ct δ0 I' }
theorem KoLe.w {K : PySem.W.Frag} {W : WX} {E : Ends} {G : Hp} {κ : Ko K} (h : KoLe K W E G κ) : KoLe K W E G κ.w where
  nx := fun δ σ G' H' I' s1 s2 hI hE ⟨δ0, k, q⟩ => h.nx δ0 σ G' H' I' s1 s2 hI (hE.le k) q
  bk := fun δ σ G' H' I' s1 s2 hI hE ⟨δ0, k, q⟩ => h.bk δ0 σ G' H' I' s1 s2 hI (hE.le k) q
  ct := fun δ σ G' H' I' s1 s2 hI hE ⟨δ0, k, q⟩ => h.ct δ0 σ G' H' I' s1 s2 hI (hE.le k) q
  rt := h.rt
  ex := h.ex
theorem SX.w (h : SX X W sts δ I κ.w) : SX X W sts δ I κ := fun σ G H E hE s hI k => h σ G H E hE s hI k.w
theorem S1.w (h : S1 X W st δ I κ.w) : S1 X W st δ I κ := fun σ G H E hE s hI k => h σ G H E hE s hI k.w

theorem get_map {α : Type} {g : α → D} {xs : List α} {i : Nat} {d : D} (h : (xs.map g)[i]? = some d) : ∃ x, xs[i]? = some x ∧ d = g x := by
  rw [List.getElem?_map] at h
  cases e : xs[i]? with
  | none => rw [e] at h; cases h
  | some x => rw [e] at h; exact ⟨x, rfl, (Option.some.inj h).symm⟩
theorem s_forT {α : Type} {xs : List α} {g : α → D} (po : PassesOwn (model X.prog X.w) X.A X.env X.xe) (hi : PVI X I tg iter δ (xs.map g)) (Nv : List α → DEnv → Iv X.K → Prop) (h0 : Nv [] δ I)
    (step : ∀ p x r δ' I', xs = p ++ x :: r → Nv p δ' I' → ∃ δ'' vs, BindD X tg (g x) δ' δ'' vs ∧ SX X W body δ'' I' { κ with nx := Nv (p ++ [x]), ct := Nv (p ++ [x]), bk := κ.nx }) (fin : ∀ δ' I', Nv xs δ' I' → κ.nx δ' I')
    (hc : X.calm = true := by rfl) (hs : ∀ x, foldedSetIterable iter X.env x = pure x := by intro _; rfl) : S1 X W (.For tg iter body [] pos) δ I κ :=
  s_for po (hi W (κ.r δ) _ ⟨fun i => Nv (xs.take i), h0, fun i d δ' I' hd nv => by
    obtain ⟨x, hx, rfl⟩ := get_map hd
    have hl := (List.getElem?_eq_some_iff.mp hx).1
    have e : xs = xs.take i ++ x :: xs.drop (i + 1) := by
      rw [← (List.getElem?_eq_some_iff.mp hx).2, List.getElem_cons_drop hl, List.take_append_drop]
    have e2 : xs.take (i + 1) = xs.take i ++ [x] := take_snoc hx
    obtain ⟨δ'', vs, b, q⟩ := step _ x _ δ' I' e nv
    rw [← e2] at q
    exact ⟨δ'', vs, b, q⟩, fun δ' I' nv => fin δ' I' (by rw [List.length_map, List.take_length] at nv; exact nv)⟩) hc hs
def LcH (X : Cx) (W : WX) (R : Rx X.K) (elt tg iter : Expr) (ifs : List Expr) (scope : Scope) (own : List (Str × Nat)) (δ : DEnv) (I : Iv X.K) (P : D → Iv X.K → Prop) : Prop := EvI X W R tg iter δ I fun ds I1 => ds.length ≤ 1000000 ∧ ∃ (Nv : Nat → List D → Prop), Nv 0 [] ∧ (∀ i d ys, ds[i]? = some d → Nv i ys → ∃ (T : Bool → Prop) (δ' : DEnv), (∀ (J : Iv X.K) (s : Shared) (H : Hp) (C : Addr) (cl : List (Str × Addr)) (fp : List Addr),
        BindD (X.blk s H scope (compEnvC scope cl C X.env) fp) tg d (wipeD δ (own.map (·.2))) δ' (own.map (·.2)) ∧
        EvTs (X.blk s H scope (compEnvC scope cl C X.env) fp) W0 R0 ifs δ' (I1.and J) fun b I2 => I2 = I1.and J ∧ T b) ∧
        (T true → ∀ (J : Iv X.K) (s : Shared) (H : Hp) (C : Addr) (cl : List (Str × Addr)) (fp : List Addr), EvX (X.blk s H scope (compEnvC scope cl C X.env) fp) W0 R0 elt δ' (I1.and J) fun y I3 => I3 = I1.and J ∧ Nv (i + 1) (ys ++ [y])) ∧ (T false → Nv (i + 1) ys)) ∧
      ∀ ys, Nv ds.length ys → P (.lst ys) I1
theorem lcH_t {own : List (Str × Nat)} (h : LcH X W R elt tg iter ifs scope own δ I P) {σ : L2.St} {G H : Hp} {Q : VK} (hE : EnvR X.K G δ σ) (s : Same G H) (hI : Hd I G H) (qx : Kx X.K W σ G R) (q : Kv X.K Q G P) :
    tLc (wpI X tg iter) (fun v σ H Q => ∀ s0 H0 C cl fp, wpG (X.blk s0 H0 scope (compEnvC scope cl C X.env) fp) tg v σ H Q) (fun σ H Q => ∀ s0 H0 C cl fp, wpTs (X.blk s0 H0 scope (compEnvC scope cl C X.env) fp) ifs σ H Q)
      (fun σ H Q => ∀ s0 H0 C cl fp, wpE (X.blk s0 H0 scope (compEnvC scope cl C X.env) fp) elt σ H Q) (own.map (·.2)) σ H Q := by
  refine h σ G H _ hE s hI qx fun J ds G1 H1 I1 s1 t1 h1 wk ⟨hz, Nv, n0, step, fin⟩ D hD => ?_
  have gD : G1 D = none := t1.free hD
  have apart : ∀ a, ¬ (I1.F a ∧ a = D) := fun a ha => h1.dom ha.1 (by rw [ha.2]; exact hD)
  refine ⟨fun i m H' => m = ds.length - i ∧ i ≤ ds.length ∧ ∃ ys G', Nv i ys ∧ ys.length ≤ i ∧ Same G1 G' ∧ Same G' H' ∧ Hd (I1.and (iLst X.K D ys)) G' H', ⟨_, rfl, Nat.zero_le _, [], G1, n0, Nat.le_refl _, Same.refl _, same_upd t1 gD, ?_⟩, ?_⟩
  · exact Hd.mk2 (h1.newp hD) ⟨⟨_, upd_same, [], rfl, rfl⟩, fun a ha => by rw [show a = D from ha]; exact gD⟩ apart
  · rintro i m H' ⟨rfl, hi, ys, G', nv, hy, s2, t2, hd2⟩
    by_cases hlt : i < ds.length
    · refine .inr ⟨wk.go i G' H' s2 t2 hlt, fun H3 => ∃ ys3 G3, Nv (i + 1) ys3 ∧ ys3.length ≤ i + 1 ∧ Same G1 G3 ∧ Same G3 H3 ∧ Hd (I1.and (iLst X.K D ys3)) G3 H3, fun H3 ⟨ys3, G3, q1, q2, q3, q4, q5⟩ => ⟨ds.length - (i + 1), by omega, rfl, hlt, ys3, G3, q1, q2, q3, q4, q5⟩, fun x H3 hyl => ?_⟩
      obtain ⟨G3, s3, t3, h3, _, d, hd, rd⟩ := wk.yld i G' H' _ x H3 s2 t2 hd2 hlt hyl
      obtain ⟨T, δ', stA, stB, stC⟩ := step i d ys hd nv
      intro s0 H0 C cl fp
      refine (stA (iLst X.K D ys) s0 H0 C cl fp).1 x _ G3 H3 _ (((hE.mono s1).mono (s2.trans s3)).wipe _) t3 rd fun σ4 e4 ew => ⟨by rw [ew, wipe_wipe], ?_⟩
      intro s0 H0 C cl fp
      refine (stA (iLst X.K D ys) s0 H0 C cl fp).2 σ4 G3 H3 _ e4 t3 h3 kx0 fun b G4 H4 I4 s4 t4 h4 ⟨eI, pb⟩ => ?_
      subst eI
      cases b with
      | false => exact ⟨ys, G4, stC pb, by omega, (s2.trans s3).trans s4, t4, h4⟩
      | true =>
        intro s0 H0 C cl fp
        refine stB pb (iLst X.K D ys) s0 H0 C cl fp σ4 G4 H4 _ (e4.mono s4) t4 h4 kx0 fun y dy G5 H5 I5 s5 t5 h5 r5 ⟨eI, nv5⟩ => ?_
        subst eI
        obtain ⟨o, ho, vs, ev, rv⟩ := h5.right.ph
        subst ev
        have g5 : G5 D = none := h5.right.fr D rfl
        refine ⟨vs, ho, ?_, ys ++ [dy], G5, nv5, by simp; omega, ((s2.trans s3).trans s4).trans s5, same_upd t5 g5, ?_⟩
        · rw [rv.length, sizeLine_eq]; omega
        · refine Hd.mk2 (h5.left.chg fun hf => apart D ⟨hf, rfl⟩) ⟨⟨_, upd_same, _, rfl, rv.append (Reps.one r5)⟩, h5.right.fr⟩ apart
    · have ei : i = ds.length := by omega
      subst ei
      obtain ⟨o, ho, vs, ev, rv⟩ := hd2.right.ph
      subst ev
      have g5 : G' D = none := hd2.right.fr D rfl
      refine .inl ⟨wk.stop G' H' s2 t2, q (.ref D) (.lst ys) (upd G' D (.lst vs)) H' I1 ((s1.trans s2).trans (Evl.Ex.new g5)) (same_freeze t2 ho) ?_ ⟨D, vs, rfl, upd_same, rv.mono (Evl.Ex.new g5)⟩ (fin ys nv)⟩
      exact ⟨I1.loc G' _ H' H' (Evl.Ex.new g5) (fun _ _ => rfl) hd2.left.ph, fun a ha => by rw [upd_ne fun e => apart a ⟨ha, e⟩]; exact hd2.left.fr a ha⟩
theorem ev_lcG (own : List (Str × Nat)) (hN : X.N.Nodup) (ok : BlkOk X.N X.env.scope scope own) (h : LcH X W R elt tg iter ifs scope own δ I P)
    (hc : X.calm = true := by rfl) (hs : ∀ x, foldedSetIterable iter X.env x = pure x := by intro _; rfl) : EvX X W R (.ListComp elt [⟨tg, iter, ifs, 0⟩] scope pos) δ I P := fun σ G H Q hE s hI qx q =>
  PE.wp (pe_lc hc hN piC ok (fun s0 H0 C cl fp => ⟨fun pins s σ H v u Q J r k => (k s0 H0 C cl fp).run pins s u J r⟩) (fun s0 H0 C cl fp => ⟨fun pins s σ H Q J k => (k s0 H0 C cl fp).run pins s J⟩) (fun s0 H0 C cl fp => ⟨fun pins s σ H Q J k => (k s0 H0 C cl fp).run pins s J⟩) hs) (lcH_t h hE s hI qx q)
theorem s_setLc (i : Nat) {y : Str} {py spos : Pos} (own : List (Str × Nat)) (h : LcH X W (κ.r δ) elt tg iter ifs scope own δ I fun d I1 => κ.nx (δ.set i (some d)) I1) (hN : X.N.Nodup := by assumption) (hi : X.N[i]? = some y := by rfl) (hyl : X.env.scope.names.lookup y = some .local := by rfl)
    (hsw : swapsWith (.ListComp elt [⟨tg, iter, ifs, 0⟩] scope pos) (some (.Name y py)) spos.line X.env = pure true := by exact sw_true rfl rfl rfl (by decide +kernel)) (ok : blkC X.N X.env.scope scope own = true := by rfl)
    (hc : X.calm = true := by rfl) (hs : ∀ x, foldedSetIterable iter X.env x = pure x := by intro _; rfl) : S1 X W (.Assign [.Name y py] (.ListComp elt [⟨tg, iter, ifs, 0⟩] scope pos) spos) δ I κ := fun σ G H E hE s hI k =>
  PS.wp (ps_setLc hc hN hi hyl hsw piC (blkOk_by ok) (fun s0 H0 C cl fp => ⟨fun pins s σ H v u Q J r k => (k s0 H0 C cl fp).run pins s u J r⟩) (fun s0 H0 C cl fp => ⟨fun pins s σ H Q J k => (k s0 H0 C cl fp).run pins s J⟩) (fun s0 H0 C cl fp => ⟨fun pins s σ H Q J k => (k s0 H0 C cl fp).run pins s J⟩) hs)
    (lcH_t h hE s hI (k.kx hE) fun v d G1 H1 I1 s1 t1 h1 r1 p => k.nx _ _ G1 H1 I1 s1 t1 h1 ((hE.mono s1).set r1) p)
theorem lcM {α : Type} {xs : List α} {g : α → D} (f : α → D) (own : List (Str × Nat)) (δ' : α → DEnv) (hi : PVI X I tg iter δ (xs.map g)) (hz : xs.length ≤ 1000000)
    (hb : ∀ (x : α) (s : Shared) (H : Hp) (C : Addr) (cl : List (Str × Addr)) (fp : List Addr), BindD (X.blk s H scope (compEnvC scope cl C X.env) fp) tg (g x) (wipeD δ (own.map (·.2))) (δ' x) (own.map (·.2)))
    (he : ∀ x, x ∈ xs → ∀ (J : Iv X.K) (s : Shared) (H : Hp) (C : Addr) (cl : List (Str × Addr)) (fp : List Addr), PV (X.blk s H scope (compEnvC scope cl C X.env) fp) (I.and J) elt (δ' x) (f x)) (pp : P (.lst (xs.map f)) I) : LcH X W R elt tg iter [] scope own δ I P := by
  refine hi W R _ ⟨by simpa using hz, fun i ys => ys = (xs.take i).map f, rfl, ?_, fun ys e => ?_⟩
  · rintro i d ys hd rfl
    obtain ⟨x, hx, rfl⟩ := get_map hd
    have hm : x ∈ xs := List.mem_of_getElem? hx
    refine ⟨fun b => b = true, δ' x, fun J s H C cl fp => ⟨hb x s H C cl fp, ets_nil ⟨rfl, rfl⟩⟩, fun e J s H C cl fp => ((he x hm J s H C cl fp).ev ⟨rfl, ?_⟩), fun e => nomatch (show false = true from e)⟩
    show _ = (xs.take (i + 1)).map f
    rw [take_snoc hx, List.map_append]; rfl
  · have e : ys = (xs.take (xs.map g).length).map f := e
    rw [List.length_map, List.take_length] at e
    rw [e]; exact pp
theorem pv_lcTM {α : Type} {xs : List α} {g : α → D} (f : α → D) (own : List (Str × Nat)) (δ' : α → DEnv) (hi : PVI X I tg iter δ (xs.map g)) (hz : xs.length ≤ 1000000)
    (hb : ∀ (x : α) (s : Shared) (H : Hp) (C : Addr) (cl : List (Str × Addr)) (fp : List Addr), BindD (X.blk s H scope (compEnvC scope cl C X.env) fp) tg (g x) (wipeD δ (own.map (·.2))) (δ' x) (own.map (·.2)))
    (he : ∀ x, x ∈ xs → ∀ (J : Iv X.K) (s : Shared) (H : Hp) (C : Addr) (cl : List (Str × Addr)) (fp : List Addr), PV (X.blk s H scope (compEnvC scope cl C X.env) fp) (I.and J) elt (δ' x) (f x))
    (hN : X.N.Nodup := by assumption) (ok : blkC X.N X.env.scope scope own = true := by rfl)
    (hc : X.calm = true := by rfl) (hs : ∀ x, foldedSetIterable iter X.env x = pure x := by intro _; rfl) : PV X I (.ListComp elt [⟨tg, iter, [], 0⟩] scope pos) δ (.lst (xs.map f)) := fun W R P pp =>
  ev_lcG own hN (blkOk_by ok) (lcM f own δ' hi hz hb he pp) hc hs
end

section
variable {X : Cx} {W : WX} {R : Rx X.K} {tg iter kx vx : Expr} {scope : Scope} {δ : DEnv} {I : Iv X.K} {P : D → Iv X.K → Prop} {pos : Pos}
theorem putG_new {α : Type} {acc : List (Key × α)} {k : Key} {v : α} (h : k ∉ acc.map (·.1)) : putG acc k v = acc ++ [(k, v)] := by
  unfold putG
  rw [if_neg]
  intro q
  obtain ⟨z, hz, e⟩ := List.any_eq_true.mp q
  exact h (List.mem_map.mpr ⟨z, hz, of_decide_eq_true e⟩)
theorem pv_dcT {α : Type} {xs : List α} {g : α → D} (fk : α → Key) (f : α → D) (own : List (Str × Nat)) (δ' : α → DEnv) (hi : PVI X I tg iter δ (xs.map g)) (hz : xs.length ≤ 1000000)
    (hb : ∀ (x : α) (s : Shared) (H : Hp) (C : Addr) (cl : List (Str × Addr)) (fp : List Addr), BindD (X.blk s H scope (compEnvC scope cl C X.env) fp) tg (g x) (wipeD δ (own.map (·.2))) (δ' x) (own.map (·.2)))
    (hk : ∀ x, x ∈ xs → ∀ (J : Iv X.K) (s : Shared) (H : Hp) (C : Addr) (cl : List (Str × Addr)) (fp : List Addr), PV (X.blk s H scope (compEnvC scope cl C X.env) fp) (I.and J) kx (δ' x) (keyV (fk x)))
    (he : ∀ x, x ∈ xs → ∀ (J : Iv X.K) (s : Shared) (H : Hp) (C : Addr) (cl : List (Str × Addr)) (fp : List Addr), PV (X.blk s H scope (compEnvC scope cl C X.env) fp) (I.and J) vx (δ' x) (f x))
    (nd : (xs.map fk).Nodup)
    (hN : X.N.Nodup := by assumption) (ok : blkC X.N X.env.scope scope own = true := by rfl)
    (hc : X.calm = true := by rfl) (hs : ∀ x, foldedSetIterable iter X.env x = pure x := by intro _; rfl) : PV X I (.DictComp kx vx [⟨tg, iter, [], 0⟩] scope pos) δ (dicD (xs.map fun x => (fk x, f x))) := fun W R P pp => by
  refine ev_freezeD fun σ G H Q hE s hI qx q => ?_
  refine PE.wp (pe_dc (wi := wpI X tg iter) (g := fun v σ H Q => ∀ s0 H0 C cl fp, wpG (X.blk s0 H0 scope (compEnvC scope cl C X.env) fp) tg v σ H Q) (tt := fun σ H Q => ∀ s0 H0 C cl fp, wpTs (X.blk s0 H0 scope (compEnvC scope cl C X.env) fp) [] σ H Q)
    (tk := fun σ H Q => ∀ s0 H0 C cl fp, wpE (X.blk s0 H0 scope (compEnvC scope cl C X.env) fp) kx σ H Q) (tv := fun σ H Q => ∀ s0 H0 C cl fp, wpE (X.blk s0 H0 scope (compEnvC scope cl C X.env) fp) vx σ H Q) hc hN piC (blkOk_by ok)
    (fun s0 H0 C cl fp => ⟨fun pins s σ H v u Q J r k => (k s0 H0 C cl fp).run pins s u J r⟩) (fun s0 H0 C cl fp => ⟨fun pins s σ H Q J k => (k s0 H0 C cl fp).run pins s J⟩) (fun s0 H0 C cl fp => ⟨fun pins s σ H Q J k => (k s0 H0 C cl fp).run pins s J⟩) (fun s0 H0 C cl fp => ⟨fun pins s σ H Q J k => (k s0 H0 C cl fp).run pins s J⟩) hs) ?_
  refine hi W R (fun ds J => ds = xs.map g ∧ J = I) ⟨rfl, rfl⟩ σ G H _ hE s hI qx fun J ds G1 H1 I1 s1 t1 h1 wk ⟨ed, ei⟩ D hD => ?_
  subst ed ei
  have gD : G1 D = none := t1.free hD
  have apart : ∀ a, ¬ (I1.F a ∧ a = D) := fun a ha => h1.dom ha.1 (by rw [ha.2]; exact hD)
  refine ⟨fun i m H' => m = xs.length - i ∧ i ≤ xs.length ∧ ∃ G', Same G1 G' ∧ Same G' H' ∧ Hd (I1.and (iDic X.K D ((xs.take i).map fun x => (fk x, f x)))) G' H', ⟨_, rfl, Nat.zero_le _, G1, Same.refl _, same_upd t1 gD, ?_⟩, ?_⟩
  · exact Hd.mk2 (h1.newp hD) ⟨⟨_, upd_same, [], rfl, rfl⟩, fun a ha => by rw [show a = D from ha]; exact gD⟩ apart
  · rintro i m H' ⟨rfl, hi, G', s2, t2, hd2⟩
    by_cases hlt : i < xs.length
    · refine .inr ⟨wk.go i G' H' s2 t2 (by simpa using hlt), fun H3 => ∃ G3, Same G1 G3 ∧ Same G3 H3 ∧ Hd (I1.and (iDic X.K D ((xs.take (i + 1)).map fun x => (fk x, f x)))) G3 H3, fun H3 ⟨G3, q3, q4, q5⟩ => ⟨xs.length - (i + 1), by omega, rfl, hlt, G3, q3, q4, q5⟩, fun x H3 hyl => ?_⟩
      obtain ⟨G3, s3, t3, h3, _, d, hd, rd⟩ := wk.yld i G' H' _ x H3 s2 t2 hd2 (by simpa using hlt) hyl
      obtain ⟨x0, hx, rfl⟩ := get_map hd
      have hm : x0 ∈ xs := List.mem_of_getElem? hx
      intro s0 H0 C cl fp
      refine hb x0 s0 H0 C cl fp x _ G3 H3 _ (((hE.mono s1).mono (s2.trans s3)).wipe _) t3 rd fun σ4 e4 ew => ⟨by rw [ew, wipe_wipe], ?_⟩
      intro s0 H0 C cl fp
      refine (ets_nil (X := X.blk s0 H0 scope (compEnvC scope cl C X.env) fp) (PB := fun b I2 => b = true ∧ I2 = I1.and (iDic X.K D ((xs.take i).map fun x => (fk x, f x)))) ⟨rfl, rfl⟩) σ4 G3 H3 _ e4 t3 h3 kx0 fun b G4 H4 I4 s4 t4 h4 ⟨eb, eI⟩ => ?_
      subst eb eI
      rw [if_pos rfl]
      intro s0 H0 C cl fp
      refine hk x0 hm (iDic X.K D _) s0 H0 C cl fp W0 R0 (fun z J => z = keyV (fk x0) ∧ J = I1.and (iDic X.K D ((xs.take i).map fun x => (fk x, f x)))) ⟨rfl, rfl⟩ σ4 G4 H4 _ (e4.mono s4) t4 h4 kx0 fun y dy G5 H5 I5 s5 t5 h5 r5 ⟨ey, eI⟩ => ?_
      subst ey eI
      intro s0 H0 C cl fp
      refine he x0 hm (iDic X.K D _) s0 H0 C cl fp W0 R0 (fun z J => z = f x0 ∧ J = I1.and (iDic X.K D ((xs.take i).map fun x => (fk x, f x)))) ⟨rfl, rfl⟩ σ4 G5 H5 _ ((e4.mono s4).mono s5) t5 h5 kx0 fun y2 dy2 G6 H6 I6 s6 t6 h6 r6 ⟨ey2, eI2⟩ => ?_
      subst ey2 eI2
      obtain ⟨o, ho, kvs, ev, kr⟩ := h6.right.ph
      subst ev
      have g6 : G6 D = none := h6.right.fr D rfl
      have hkey : y = kV (fk x0) := by
        have := rep_keyV (K := X.K) (G := G5) (fk x0)
        cases hh : fk x0 with
        | inl i => rw [hh] at r5; exact r5
        | inr t => rw [hh] at r5; exact r5
      have hnew : fk x0 ∉ (((xs.take i).map fun x => (fk x, f x)).map (·.1)) := by
        rw [List.map_map]
        intro q
        have e2 : xs.map fk = (xs.take i).map fk ++ fk x0 :: (xs.drop (i + 1)).map fk := by
          have e : xs = xs.take i ++ x0 :: xs.drop (i + 1) := by
            have hl := (List.getElem?_eq_some_iff.mp hx).1
            rw [← (List.getElem?_eq_some_iff.mp hx).2, List.getElem_cons_drop hl, List.take_append_drop]
          conv => lhs; rw [e]
          rw [List.map_append, List.map_cons]
        rw [e2] at nd
        exact (List.nodup_append.mp nd).2.2 _ q _ (List.mem_cons_self ..) rfl
      refine ⟨kvs, fk x0, hkey, ho, ?_, G6, (((s2.trans s3).trans s4).trans s5).trans s6, same_upd t6 g6, ?_⟩
      · rw [kr.length, List.length_map, List.length_take, sizeLine_eq]; omega
      · have e7 : (xs.take (i + 1)).map (fun x => (fk x, f x)) = putG ((xs.take i).map fun x => (fk x, f x)) (fk x0) (f x0) := by
          rw [putG_new hnew, take_snoc hx, List.map_append]; rfl
        rw [e7]
        exact Hd.mk2 (h6.left.chg fun hf => apart D ⟨hf, rfl⟩) ⟨⟨_, upd_same, _, rfl, kr.put r6⟩, h6.right.fr⟩ apart
    · have ei : i = xs.length := by omega
      subst ei
      rw [List.take_length] at hd2
      refine .inl ⟨by have := wk.stop G' H' s2 t2; rwa [List.length_map] at this, q (.ref D) (.adr D) G' H' (I1.and (iDic X.K D (xs.map fun x => (fk x, f x)))) (s1.trans s2) t2 hd2 rfl ⟨D, _, I1, rfl, rfl, pp⟩⟩
end
end DL
set_option Elab.async false
set_option linter.all false
set_option maxRecDepth 100000
set_option maxHeartbeats 4000000
namespace DL
open PySem PySem.Spec PyProof.Rows L2
def rIsiTT (K : PySem.W.Frag) : List V → Hp → VK → Prop := fun xs H Q => ∃ (x : V) (tp : Addr) (cs : List V) (t : Value) (us : List Value) (b : Bool), xs = [x, .ref tp] ∧ SqT K H tp cs ∧ Paired ClsV cs us ∧ TyX K H x t ∧ PySem.W.kitAny K t us = some b ∧ Q (.bl b) H
theorem call_isiTT {X : Cx} : CallR X (.builtin "isinstance") (rIsiTT X.K) := by
  intro pins s σ H xs us Q I r h
  obtain ⟨x, tp, cs, t, ws, b, rfl, hT, k, ty, e, q⟩ := h
  obtain ⟨u1, u2, rfl, r1, r2⟩ := vals2 r
  cases (show u2 = Value.ref tp from r2)
  obtain ⟨P, Z, p, hx⟩ := kit_of I r1 ty
  obtain ⟨its, rv, ⟨o, h1, h2, n, h3⟩, _⟩ := I.tuple hT
  have e3 := ClsV.all k rv
  subst e3
  obtain ⟨oc, od, dt, sl⟩ := o
  simp only at h2 h3
  subst h2 h3
  exact PySem.W.kia_tup Z I.kIn p h1 e hx fun tk => ⟨.bl b, H, I.tok tk, rfl, q⟩
theorem pn_isiT2 {K : PySem.W.Frag} {I : Iv K} {d : D} {t u1 u2 : String} {b : Bool} (h : tyD d = some t) (hb : PySem.W.kitAny K (.type t) [.type u1, .type u2] = some b) : PN K I (rIsiTT K) [d, .tup [.ty u1, .ty u2]] (.bl b) := fun P p G H vs Q s hI ⟨v, r, e1, e2, v2, r2, e3, ⟨tp, cs, ec, st, w1, r1, ew, q1, w2, r2', ew2, q2, er⟩, e5⟩ q => by
  subst e1 e3 ec ew ew2
  rw [show r2' = [] from er, show w1 = .ty u1 from q1, show w2 = .ty u2 from q2] at st
  rw [show r2 = [] from e5]
  exact ⟨v, tp, _, .type t, [.type u1, .type u2], b, rfl, sqT_mono s st, .cons (.ty u1) (.cons (.ty u2) .nil), tyX_of s e2 h, hb, q _ (.bl b) G H I (Same.refl G) s hI rfl p⟩
theorem kit2 {K : PySem.W.Frag} {t u1 u2 : String} {b1 b2 : Bool} (h1 : kitB t u1 = some b1) (h2 : kitB t u2 = some b2) : PySem.W.kitAny K (.type t) [.type u1, .type u2] = some (b1 || b2) :=
  kitAny_cons (kit_ty h1) (fun e => kitAny_cons (kit_ty h2) (fun e2 => by rw [e, e2]; rfl) (fun e2 => by rw [e2, e]; rfl)) (fun e => by rw [e]; rfl)

class LenC (x : D) (n : outParam Int) (C : outParam Prop) : Prop where
  h : C → ∀ (X : Cx) (I : Iv X.K), ∃ r, CallR X (.builtin "len") r ∧ PN X.K I r [x] (.int n)
instance {ds : List D} : LenC (.lst ds) (ds.length : Int) True := ⟨fun _ X I => ⟨_, call_len_seq, pn_lenL⟩⟩
instance {ds : List D} : LenC (.tup ds) (ds.length : Int) True := ⟨fun _ X I => ⟨_, call_len_seq, pn_lenT⟩⟩
instance {ds : List D} : LenC (.lsf ds) (ds.length : Int) True := ⟨fun _ X I => ⟨_, call_len_seq, fun P p G H vs Q s hI ⟨v, r, e1, ⟨a, xs, ea, e2, e3⟩, er⟩ q => by
  rw [e1, ea, show r = [] from er]
  exact ⟨a, xs, rfl, .inl (sqL_mono s e2), by rw [e3.length]; exact q _ (.int ds.length) G H _ (Same.refl G) s hI rfl p⟩⟩⟩
instance {s : Str} : LenC (.str s) (s.length : Int) (s.length ≤ 100000) := ⟨fun c X I => ⟨_, call_len_str, pn_lenS c⟩⟩
theorem call_lenDR {X : Cx} : CallR X (.builtin "len") (fun xs H Q => ∃ a kvs, xs = [V.ref a] ∧ Rd H a (.dK kvs) ∧ Q (.int kvs.length) H) := by
  intro pins s σ H xs us Q I r h
  obtain ⟨a, kvs, rfl, ha, q⟩ := h
  obtain ⟨u, rfl, ru⟩ := vals1 r
  cases ru
  exact d_len I ha fun t s' I' => ⟨.int kvs.length, H, I', ⟨t, rfl⟩, q⟩
theorem lenC_dic {kds : List (Key × D)} : LenC (dicD kds) (kds.length : Int) True := ⟨fun _ X I => ⟨_, call_lenDR, fun P p G H vs Q s hI ⟨v, r, e1, rd, er⟩ q => by
  obtain ⟨a, od, kvs, rfl, e2, kr⟩ := rep_dicD.mp rd
  rw [e1, show r = [] from er]
  exact ⟨a, kvs, rfl, .inr ⟨od, s _ _ e2⟩, by rw [kr.length]; exact q _ (.int kds.length) G H _ (Same.refl G) s hI rfl p⟩⟩⟩
instance {kds : List (Key × D)} : LenC (dicD kds) (kds.length : Int) True := lenC_dic
instance {ks : List Key} {ds : List D} : LenC (.dic ks ds) (ds.length : Int) (ks.length = ds.length) := ⟨fun c X I => by
  have e : dicD (ks.zip ds) = .dic ks ds := by
    show D.dic ((ks.zip ds).map (·.1)) ((ks.zip ds).map (·.2)) = _
    rw [show (ks.zip ds).map (·.1) = ks from List.map_fst_zip (by omega), show (ks.zip ds).map (·.2) = ds from List.map_snd_zip (by omega)]
  obtain ⟨r, h1, h2⟩ := (lenC_dic (kds := ks.zip ds)).h trivial X I
  rw [e] at h2
  have e2 : (ks.zip ds).length = ds.length := by rw [List.length_zip]; omega
  rw [e2] at h2
  exact ⟨r, h1, h2⟩⟩
section
variable {X : Cx} {I : Iv X.K} {a b c e o : Expr} {es : List Expr} {δ : DEnv} {pos p : Pos} {x y z : D} {n : Int} {C : Prop} {k : Bool} {W : WX} {κ : Ko X.K} {ds fs : List D} {q : Addr}
theorem pv_len (hm : X.mg "len" = none) (ha : PV X I a δ x) [L : LenC x n C] (c : C) (hg : Gl X "len" := by rfl) (h1 : starEach [a] X.env = (false, eval a X.env) :: starEach [] X.env := by rfl) (hpl : (backTo pos (starEach [] X.env)).any (·.1) = false := by rfl) : PV X I (.Call (.Name "len" p) [a] [] pos) δ (.int n) := by
  obtain ⟨r, h1', h2⟩ := L.h c X I
  exact pv_cb h1' hm (va_cons ha va_nil h1) h2 (by decide +kernel) hg (by decide) (by decide) h1 hpl
end
def allStr : List D → Bool
  | [] => true
  | .str _ :: ds => allStr ds
  | _ => false
def strIn (s : Str) : List D → Bool
  | [] => false
  | .str t :: ds => decide (s = t) || strIn s ds
  | _ :: ds => strIn s ds
@[simp] theorem strIn_map (s : Str) : ∀ ws : List Str, strIn s (ws.map D.str) = decide (s ∈ ws)
  | [] => by simp [strIn]
  | w :: ws => by
    show (decide (s = w) || strIn s (ws.map D.str)) = _
    rw [strIn_map s ws]
    exact Bool.eq_iff_iff.mpr (by simp)
@[simp] theorem allStr_map : ∀ ws : List Str, allStr (ws.map D.str) = true
  | [] => rfl
  | _ :: ws => allStr_map ws
theorem allStr_ex : ∀ {ds : List D}, allStr ds = true → ∃ ws : List Str, ds = ws.map D.str
  | [], _ => ⟨[], rfl⟩
  | d :: ds, h => by
    cases d <;> first | cases h | skip
    rename_i s
    obtain ⟨ws, e⟩ := allStr_ex (ds := ds) h
    exact ⟨s :: ws, by rw [e]; rfl⟩
class InC (x y : D) (b : outParam Bool) (C : outParam Prop) : Prop where
  e : C → ∀ (X : Cx) (I : Iv X.K), X.A.units + 65 < cLine → ∃ r, OpR X (compareOp .In) r ∧ P2 X.K I r x y (.bl b)
  n : C → ∀ (X : Cx) (I : Iv X.K), X.A.units + 65 < cLine → ∃ r, OpR X (compareOp .NotIn) r ∧ P2 X.K I r x y (.bl (!b))
instance {s : Str} {ds : List D} : InC (.str s) (.tup ds) (strIn s ds) (allStr ds = true) := ⟨fun c X I _ => by
  obtain ⟨ws, rfl⟩ := allStr_ex c
  rw [strIn_map]; exact ⟨_, op_in_seq, p2_inStr⟩, fun c X I _ => by
  obtain ⟨ws, rfl⟩ := allStr_ex c
  rw [strIn_map]; exact ⟨_, op_notIn_seq, p2_ninStr⟩⟩
instance {s : Str} {ds : List D} : InC (.str s) (.lst ds) (strIn s ds) (allStr ds = true) := ⟨fun c X I _ => by
  obtain ⟨ws, rfl⟩ := allStr_ex c
  rw [strIn_map]; exact ⟨_, op_in_seq, p2_inStrL⟩, fun c X I _ => by
  obtain ⟨ws, rfl⟩ := allStr_ex c
  rw [strIn_map]; exact ⟨_, op_notIn_seq, p2_ninStrL⟩⟩
theorem InC.data {x z : D} {ds : List D} (hz : itemsD z = some ds) : InC x z (ds.any fun y => eqD y x) (OkD 64 x ∧ ∀ d ∈ ds, OkD 64 d) :=
  ⟨fun c X I hu => ⟨_, op_inDT hu, p2_inD hz c.1 c.2⟩, fun c X I hu => ⟨_, op_notInDT hu, p2_ninD hz c.1 c.2⟩⟩
instance {xs ds : List D} : InC (.tup xs) (.tup ds) (ds.any fun y => eqD y (.tup xs)) (OkD 64 (.tup xs) ∧ ∀ d ∈ ds, OkD 64 d) := .data rfl
instance {xs ds : List D} : InC (.tup xs) (.lst ds) (ds.any fun y => eqD y (.tup xs)) (OkD 64 (.tup xs) ∧ ∀ d ∈ ds, OkD 64 d) := .data rfl
section
variable {X : Cx} {I : Iv X.K} {a b c e o : Expr} {es : List Expr} {δ : DEnv} {pos p : Pos} {x y z : D} {n : Int} {C : Prop} {k : Bool} {W : WX} {κ : Ko X.K} {ds fs : List D} {q : Addr}
theorem ev_lstM' {R : Rx X.K} {P : D → Iv X.K → Prop} (h : PVA X I es δ ds) (hl : ds.length ≤ 1000) (hp : ∀ p, P (.adr p) (I.and (iLst X.K p ds))) : EvX X W R (.List es pos) δ I P := ev_lstM h hl fun p _ => hp p
end
section
variable {K : PySem.W.Frag} {I : Iv K} {d : D} {ds : List D}
theorem pn_tupL (h : d = .lst ds ∨ d = .lsf ds ∨ d = .tup ds) : PN K I (fun xs H Q => ∃ p ys, xs = [.ref p] ∧ ((SqL K H p ys ∧ ∀ l, H l = none → Q (.ref l) (upd H l (.tup ys))) ∨ (SqT K H p ys ∧ Q (.ref p) H))) [d] (.tup ds) := fun P pp G H vs Q s hI ⟨v, r, e1, rd, er⟩ q => by
  rw [e1, show r = [] from er]
  have fin : ∀ ys l, Reps K G ds ys → H l = none → Q (.ref l) (upd H l (.tup ys)) := fun ys l rr hl => by
    have hg : G l = none := s.free hl
    exact q (.ref l) (.tup ds) (upd G l (.tup ys)) _ I (Evl.Ex.new hg) (same_upd2 s) (hI.keep hl s) ⟨l, ys, rfl, SqT.of upd_same, rr.mono (Evl.Ex.new hg)⟩ pp
  rcases h with e | e | e
  · subst e
    obtain ⟨a, ys, ea, e2, e3⟩ := rd
    exact ⟨a, ys, by rw [ea], .inl ⟨SqL.of (s _ _ e2), fun l hl => fin ys l e3 hl⟩⟩
  · subst e
    obtain ⟨a, ys, ea, e2, e3⟩ := rd
    exact ⟨a, ys, by rw [ea], .inl ⟨sqL_mono s e2, fun l hl => fin ys l e3 hl⟩⟩
  · subst e
    obtain ⟨a, ys, ea, e2, e3⟩ := rd
    exact ⟨a, ys, by rw [ea], .inr ⟨sqT_mono s e2, q (.ref a) (.tup ds) G H I (Same.refl G) s hI ⟨a, ys, rfl, e2, e3⟩ pp⟩⟩
end
abbrev dicT {α : Type} (xs : List α) (k : α → Str) (v : α → D) : D := dicD (xs.map fun x => ((.inr (k x) : Key), v x))
theorem keys_dicT {α : Type} (xs : List α) (k : α → Str) (v : α → D) : ((xs.map fun x => ((.inr (k x) : Key), v x)).map fun p => keyV p.1) = xs.map fun x => D.str (k x) := by
  rw [List.map_map]; rfl
theorem get_dicT {α : Type} {xs : List α} {k : α → Str} {v : α → D} {x : α} (nd : (xs.map k).Nodup) (h : x ∈ xs) : getG (xs.map fun x => ((.inr (k x) : Key), v x)) (.inr (k x)) = some (v x) := by
  unfold getG
  induction xs with
  | nil => cases h
  | cons y ys ih =>
    rw [List.map_cons, List.find?_cons]
    by_cases e : k y = k x
    · have : decide (((.inr (k y) : Key)) = .inr (k x)) = true := decide_eq_true (by rw [e])
      rw [this]
      rcases List.mem_cons.mp h with rfl | hx
      · rfl
      · rw [List.map_cons] at nd
        exact absurd (e ▸ List.mem_map.mpr ⟨x, hx, rfl⟩) (List.nodup_cons.mp nd).1
    · have : decide (((.inr (k y) : Key)) = .inr (k x)) = false := decide_eq_false (by simp [e])
      rw [this]
      rcases List.mem_cons.mp h with rfl | hx
      · exact absurd rfl e
      · rw [List.map_cons] at nd
        exact ih (List.nodup_cons.mp nd).2 hx
section
variable {X : Cx} {I : Iv X.K} {tg iter e : Expr} {δ : DEnv} {pos p : Pos} {α : Type} {xs : List α} {k : α → Str} {v : α → D}
theorem pv_listD (hm : X.mg "list" = none) (h : PV X I e δ (dicT xs k v)) (hc : X.calm = true := by rfl) (hg : Gl X "list" := by rfl)
    (he : starEach [e] X.env = (false, eval e X.env) :: starEach [] X.env := by rfl) (hpl : (backTo pos (starEach [] X.env)).any (·.1) = false := by rfl) : PV X I (.Call (.Name "list" p) [e] [] pos) δ (.lst ((xs.map k).map D.str)) := by
  have e2 : (xs.map k).map D.str = (xs.map fun x => ((.inr (k x) : Key), v x)).map fun p => keyV p.1 := by rw [keys_dicT, List.map_map]; rfl
  rw [e2]
  exact pv_ct (call_listD hc) hm (va_cons h va_nil he) pn_listD (by decide +kernel) hg (by decide) (by decide) he hpl
theorem pv_sortedS {ss : List Str} (hm : X.mg "sorted" = none) (h : PV X I e δ (.lst (ss.map D.str))) (hz : ss.length < 64) (hg : Gl X "sorted" := by rfl)
    (he : starEach [e] X.env = (false, eval e X.env) :: starEach [] X.env := by rfl) (hpl : (backTo pos (starEach [] X.env)).any (·.1) = false := by rfl) : PV X I (.Call (.Name "sorted" p) [e] [] pos) δ (.lst ((sortS ss).map D.str)) :=
  pv_cb cr_sortedS hm (va_cons h va_nil he) (pn_sortedS hz) (by decide +kernel) hg (by decide) (by decide) he hpl
theorem pv_tuple {d : D} {ds : List D} (hm : X.mg "tuple" = none) (h : PV X I e δ d) (hd : d = .lst ds ∨ d = .lsf ds ∨ d = .tup ds) (hg : Gl X "tuple" := by rfl)
    (he : starEach [e] X.env = (false, eval e X.env) :: starEach [] X.env := by rfl) (hpl : (backTo pos (starEach [] X.env)).any (·.1) = false := by rfl) : PV X I (.Call (.Name "tuple" p) [e] [] pos) δ (.tup ds) :=
  pv_ct call_tuple_of hm (va_cons h va_nil he) (pn_tupL hd) (by decide +kernel) hg (by decide) (by decide) he hpl
end
end DL
set_option Elab.async false
set_option linter.all false
set_option maxRecDepth 100000
set_option maxHeartbeats 4000000
namespace DL
open PySem PySem.Spec PyProof.Rows L2
section
variable {X : Cx} {W : WX} {R : Rx X.K} {e a b o tg iter : Expr} {δ : DEnv} {I : Iv X.K} {P : D → Iv X.K → Prop} {pos p apos : Pos} {d z x : D} {ds : List D} {κ : Ko X.K} {es : List Expr} {n m : Int}
theorem vi_range1 (hm : X.mg "range" = none) (h : PV X I a δ (.int n)) (h1 : n < 1000000) (h2 : -1000000 < n) (hg : Gl X "range" := by rfl) (hst : starEach [a] X.env = [(false, eval a X.env)] := by rfl) (hpl : (backTo pos (starEach [] X.env)).any (·.1) = false := by rfl) : PVI X I tg (.Call (.Name "range" p) [a] [] pos) δ ((List.range n.toNat).map fun i : Nat => D.int i) := fun W R P pp =>
  ei_range1 hm (h W R _ ⟨n, rfl, h1, h2, by
    have e : DL.intsFrom 0 n.toNat = (List.range n.toNat).map fun i : Nat => D.int i := by unfold DL.intsFrom; simp
    rw [e]; exact pp⟩) hg hst hpl
theorem pv_neg (h : PV X I a δ (.int n)) : PV X I (.UnaryOp .USub a pos) δ (.int (-n)) := pv_un un_neg h fun P pp G H v Q s hI r q => ⟨n, r, q (.int (-n)) (.int (-n)) G H I (Same.refl G) s hI rfl pp⟩
theorem enumD_map {α : Type} (f : α → D) (xs : List α) : enumD (xs.map f) = xs.zipIdx.map fun p => .tup [.int p.2, f p.1] := by
  unfold enumD
  rw [List.zipIdx_map, List.map_map]; rfl
theorem mem_zipIdx {α : Type} {xs : List α} {x : α} {i : Nat} (h : (x, i) ∈ xs.zipIdx) : xs[i]? = some x := List.mem_zipIdx_iff_getElem?.mp h
theorem atI_n {α : Type} {xs : List α} {j : Nat} {x : α} (h : xs[j]? = some x) : atI xs (j : Int) = some x := by
  have hl := (List.getElem?_eq_some_iff.mp h).1
  unfold atI ixN
  rw [if_pos (by omega), if_pos (by omega)]
  simpa using h
theorem atI_m {α : Type} {xs : List α} {f : α → D} {j : Nat} {x : α} (h : xs[j]? = some x) : atI (xs.map f) (j : Int) = some (f x) := atI_n (by rw [List.getElem?_map, h]; rfl)
theorem findSome_hit {α β : Type} {f : α → Option β} {p r : List α} {x : α} {b : β} (h : ∀ y ∈ p, f y = none) (hx : f x = some b) : (p ++ x :: r).findSome? f = some b := by
  rw [List.findSome?_append, List.findSome?_eq_none_iff.mpr h, List.findSome?_cons, hx]; rfl
end
theorem _root_.L2.Room.u1 {k : Nat} {A : Around} (r : Room k A) : A.units + 1 < cLine := by have := r.un; omega
theorem nodup_key {α : Type} {k : α → Str} {xs : List α} (h : (xs.map k).Nodup) : (xs.map fun x => (Sum.inr (k x) : Key)).Nodup :=
  List.pairwise_map.mpr ((List.pairwise_map.mp h).imp fun hne e => hne (Sum.inr.inj e))
def sortW {α : Type} (ws : List (Str × α)) : List (Str × α) := ws.mergeSort fun a b => leS a.1 b.1
theorem sortW_perm {α : Type} (ws : List (Str × α)) : (sortW ws).Perm ws := List.mergeSort_perm ws _
theorem sortW_pw {α : Type} (ws : List (Str × α)) : (sortW ws).Pairwise (fun a b => leS a.1 b.1 = true) := List.pairwise_mergeSort (fun a b c => leS_tr a.1 b.1 c.1) (fun a b => leS_total a.1 b.1) ws
theorem sortW_names {α : Type} (ws : List (Str × α)) : (sortW ws).map (·.1) = sortS (ws.map (·.1)) :=
  sort_uniq (List.pairwise_map.mpr (sortW_pw ws)) ((sortW_perm ws).map _)
theorem sortW_nd {α : Type} {ws : List (Str × α)} (h : (ws.map (·.1)).Nodup) : ((sortW ws).map (·.1)).Nodup := ((sortW_perm ws).map (·.1)).nodup_iff.mpr h
theorem nd_inj {α : Type} : ∀ {ws : List (Str × α)}, (ws.map (·.1)).Nodup → ∀ {a b : Str × α}, a ∈ ws → b ∈ ws → a.1 = b.1 → a = b
  | [], _, _, _, h, _, _ => nomatch h
  | w :: ws, nd, a, b, ha, hb, e => by
    rw [List.map_cons] at nd
    obtain ⟨n1, n2⟩ := List.nodup_cons.mp nd
    rcases List.mem_cons.mp ha with e1 | ha1
    · rcases List.mem_cons.mp hb with e2 | hb1
      · rw [e1, e2]
      · exact absurd (List.mem_map.mpr ⟨b, hb1, by rw [← e, e1]⟩) n1
    · rcases List.mem_cons.mp hb with e2 | hb1
      · exact absurd (List.mem_map.mpr ⟨a, ha1, by rw [e, e2]⟩) n1
      · exact nd_inj n2 ha1 hb1 e
theorem sortW_uniq {α : Type} {ws vs : List (Str × α)} (nd : (ws.map (·.1)).Nodup) (h1 : vs.Pairwise (fun a b => leS a.1 b.1 = true)) (h2 : vs.Perm ws) : vs = sortW ws :=
  List.Perm.eq_of_pairwise (fun a b ha hb k l => nd_inj nd (h2.mem_iff.mp ha) ((sortW_perm ws).mem_iff.mp hb) (leS_anti k l)) h1 (sortW_pw ws) (h2.trans (sortW_perm ws).symm)
end DL
set_option Elab.async false
set_option linter.all false
set_option maxRecDepth 100000
set_option maxHeartbeats 4000000
namespace L2
open PySem PySem.Spec PyProof.Rows
section
variable {prog : Program} {w : World} {A : Around} {E : Value → Shared → Prop} {s : Shared} {T : String} {r d : Addr} {n : Nat} {P : Nat → Value → Prop} {OK : Heap → Prop}
end
end L2
namespace DL
open PySem PySem.Spec PyProof.Rows L2
end DL
set_option Elab.async false
set_option linter.all false
set_option maxRecDepth 100000
set_option maxHeartbeats 4000000
namespace GQ
open PySem PySem.SeqAt
open AutoSeq1 (wpAny_loadPart')
open MeetsSeq MeetsSeq2 MeetsSeq3 SeqRoads2
section
variable {prog : Program} {w : World} {A : Around} {R : Result → Shared → Prop}
theorem tuple_eqB (l b : Addr) (items items2 : Array Value) (n n2 : Nat) (dd dd2 : Option Addr) (sl sl2 : Array (Option Value)) (J : Shared → Prop) (e : Nat → Bool)
    (turn : ∀ i (h1 : i < items.size) (h2 : i < items2.size) s, J s → wpAny (model prog w) A.in1 (eqBool items[i] items2[i]) (fun r s' => r = e i ∧ J s') (fun e s' => R (.error e) s') s)
    (fin : ∀ s, J s → R (.ok (.ret (.bool ((items.size == items2.size) && (List.range (min items.size items2.size)).all e)))) s) {s : Shared} (hl1 : s.heap.get? l = some { cls := .type "tuple", dict := dd, data := .seq items n, slots := sl }) (hb1 : s.heap.get? b = some { cls := .type "tuple", dict := dd2, data := .seq items2 n2, slots := sl2 }) (h : J s) :
    wpAny (model prog w) A.in1 (Builtin.«tuple.__eq__» ⟨[.ref l, .ref b], []⟩) (FinOf prog w A R) (fun e s' => R (.error e) s') s := by
  have f2 := AutoSeq1.sub_tuple_tuple
  have hZ : (items.toList.zip items2.toList).length = min items.size items2.size := by simp
  have h0 := h
  obtain ⟨hp, g, d, tk, os⟩ := s
  wp_walk using wpAny_loadPart' hl1, wpAny_loadPart' hb1, wpAny_forIn_list _ (fun rest b s' => b.1 = none ∧ ∃ i, rest = (items.toList.zip items2.toList).drop i ∧ i ≤ min items.size items2.size ∧ (∀ j, j < i → e j = true) ∧ J s') _
  case turn =>
    rintro ⟨y, x⟩ rest b s' ⟨hb', i, hz, hi, he, hI⟩
    have hlt : i < (items.toList.zip items2.toList).length := by
      rcases Nat.lt_or_ge i (items.toList.zip items2.toList).length with h' | h'
      · exact h'
      · rw [List.drop_of_length_le h'] at hz; cases hz
    have h1 : i < items.size := by omega
    have h2 : i < items2.size := by omega
    rw [List.drop_eq_getElem_cons hlt] at hz
    injection hz with hyx hrest
    have hy : y = items[i] := by have := congrArg Prod.fst hyx; simpa using this
    have hx : x = items2[i] := by have := congrArg Prod.snd hyx; simpa using this
    subst hy hx
    refine wpAny_bind (wpAny_mono (turn i h1 h2 s' hI) (fun r s2 q2 => ?_) fun _ _ x => x)
    obtain ⟨hr, q2⟩ := q2
    subst hr
    cases q : e i with
    | true =>
      wp_walk
      refine ⟨rfl, i + 1, hrest, by omega, fun j hj => ?_, q2⟩
      rcases Nat.lt_or_ge j i with h' | h'
      · exact he j h'
      · have : j = i := by omega
        subst this; exact q
    | false =>
      wp_walk
      have ef : (List.range (min items.size items2.size)).all e = false := by
        rw [List.all_eq_false]
        exact ⟨i, List.mem_range.mpr (by omega), by rw [q]; simp⟩
      have hR := fin s2 q2
      rw [ef, Bool.and_false] at hR
      exact hR
  case fin =>
    rintro ⟨b1, b2⟩ s' ⟨hb', i, hz, hi, he, hI⟩
    simp only at hb'
    subst hb'
    have hge : min items.size items2.size ≤ i := by
      rcases Nat.lt_or_ge i (items.toList.zip items2.toList).length with h' | h'
      · rw [List.drop_eq_getElem_cons h'] at hz; cases hz
      · omega
    have hi' : i = min items.size items2.size := by omega
    have hR := fin s' hI
    have et : (List.range (min items.size items2.size)).all e = true := by
      rw [List.all_eq_true]
      exact fun j hj => he j (by rw [hi']; exact List.mem_range.mp hj)
    rw [et, Bool.and_true] at hR
    wp_walk
    simpa [Builtin.Tuple.tupleCompareSizes] using hR
  case h =>
    exact ⟨rfl, 0, rfl, Nat.zero_le _, fun j hj => absurd hj (by omega), h0⟩
end
end GQ
set_option Elab.async false
set_option linter.all false
set_option maxRecDepth 100000
set_option maxHeartbeats 4000000
namespace DL
open PySem PySem.Spec PyProof.Rows L2
structure EqB (X : Cx) (n : Nat) (E : D → D → Bool → Prop) : Prop where
  run : ∀ (A : Around) (pins : List (Addr × Obj)) (s : Shared) (σ : L2.St) (G H : Hp) (x y : V) (u v : Value) (dx dy : D) (b : Bool), L2.Sub X n A → Inv X pins σ H s → RelV x u → RelV y v → Same G H → Rep X.K G dx x → Rep X.K G dy y → E dx dy b →
    wpAny (model X.prog X.w) A (eqBool u v) (fun r s' => r = b ∧ ∃ H', Inv X pins σ H' s' ∧ Ext H H') X.xe s
  same : ∀ (pins : List (Addr × Obj)) (s : Shared) (σ : L2.St) (G H : Hp) (x : V) (dx dy : D) (b : Bool), Inv X pins σ H s → Same G H → Rep X.K G dx x → Rep X.K G dy x → E dx dy b → b = true
theorem EqB.mono {X : Cx} {n m : Nat} {E : D → D → Bool → Prop} (h : EqB X n E) (hn : n ≤ m) : EqB X m E := ⟨fun A pins s σ G H x y u v dx dy b sb => h.run A pins s σ G H x y u v dx dy b (sb.mono hn), h.same⟩
theorem relV_inj {a b : V} {u : Value} (ha : flatV a = true) (hb : flatV b = true) (h1 : RelV a u) (h2 : RelV b u) : a = b := by
  cases a <;> (first | (cases ha; done) | skip) <;> cases b <;> (first | (cases hb; done) | skip)
  all_goals first
    | rfl
    | (have e1 : u = _ := h1; have e2 : u = _ := h2; rw [e1] at e2; cases e2; first | rfl | done)
    | (have e1 : u = _ := h1; obtain ⟨t, e2⟩ := h2; rw [e1] at e2; cases e2; done)
    | (obtain ⟨t, e1⟩ := h1; have e2 : u = _ := h2; rw [e1] at e2; cases e2; done)
    | (obtain ⟨t, e1⟩ := h1; obtain ⟨t', e2⟩ := h2; rw [e1] at e2; cases e2; first | rfl | done)
def allPl : List D → Bool
  | [] => true
  | .str _ :: ds => allPl ds
  | .int _ :: ds => allPl ds
  | .bl _ :: ds => allPl ds
  | .non :: ds => allPl ds
  | _ => false
theorem allPl_vs : ∀ {ds : List D}, allPl ds = true → ∃ vs, flatDs ds = some vs ∧ ∀ v ∈ vs, flatV v = true
  | [], _ => ⟨[], rfl, fun _ h => nomatch h⟩
  | d :: ds, h => by
    have key : ∀ v, flatD d = some v → flatV v = true → allPl ds = true → ∃ vs, flatDs (d :: ds) = some vs ∧ ∀ v ∈ vs, flatV v = true := fun v e f q => by
      obtain ⟨vs, e2, k⟩ := allPl_vs q
      refine ⟨v :: vs, by unfold flatDs; rw [e, e2], fun w hw => ?_⟩
      rcases List.mem_cons.mp hw with rfl | hw
      · exact f
      · exact k w hw
    cases d <;> first | cases h | exact key _ rfl rfl h
theorem allPl_inj {K : PySem.W.Frag} {G : Hp} : ∀ {ds es : List D} {vs : List V}, allPl ds = true → allPl es = true → Reps K G ds vs → Reps K G es vs → ds = es
  | [], [], _, _, _, _, _ => rfl
  | [], e :: es, _, _, _, h, ⟨v, r, e2, _, _⟩ => by rw [show _ = [] from h] at e2; cases e2
  | d :: ds, [], _, _, _, ⟨v, r, e2, _, _⟩, h => by rw [show _ = [] from h] at e2; cases e2
  | d :: ds, e :: es, _, h1, h2, ⟨v, r, e1, r1, rr1⟩, ⟨v', r', e2, r2, rr2⟩ => by
    rw [e1] at e2
    cases e2
    have hd : d = e ∧ allPl ds = true ∧ allPl es = true := by
      cases d <;> cases e <;> first | cases h1 | cases h2 | skip
      all_goals (refine ⟨?_, h1, h2⟩; first | rfl | (have q := (show v = _ from r1).symm.trans (show v = _ from r2); cases q; first | rfl | done))
    rw [hd.1, allPl_inj hd.2.1 hd.2.2 rr1 rr2]
theorem EqB.own {X : Cx} {n : Nat} {C g : Addr} {S : Spec X.K} (hs : PySem.W.findIn X.K (.ref C) "__eq__" = some (some (.ref g))) (hf : PySem.W.isFn X.K (.ref g) = true) (hn : PySem.W.notFirst X.K C (.ref C) = true)
    (F : FnR X.prog X.w X.K X.mg X.base (L2.CX X.prog X.w) n g (spD X.K S)) :
    EqB X n (fun dx dy b => ∃ fs gs, dx = .slo C fs ∧ dy = .slo C gs ∧ allPl fs = true ∧ allPl gs = true ∧ fs.length = gs.length ∧ (fs = gs → b = true) ∧ ∀ P : D → Iv X.K → Prop, P (.bl b) (iEmp X.K) → S (iEmp X.K) [dx, dy] P F0) := by
  have hsame : ∀ (pins : List (Addr × Obj)) (s : Shared) (σ : L2.St) (G H : Hp) (x : V) (fs gs : List D), Inv X pins σ H s → Same G H → Rep X.K G (.slo C fs) x → Rep X.K G (.slo C gs) x → allPl fs = true → allPl gs = true → fs.length = gs.length → fs = gs := by
    intro pins s σ G H x fs gs J sm ⟨a, d1, vs, e1, t1, r1⟩ ⟨a', d2, us, e2, t2, r2⟩ pf pg hl
    rw [e1] at e2
    cases e2
    obtain ⟨sl, od, q1, i1, _⟩ := SlX.slt_inst J (slt_mono sm t1)
    obtain ⟨sl', od', q2, i2, _⟩ := SlX.slt_inst J (slt_mono sm t2)
    obtain ⟨h1, _, _, _⟩ := i1
    obtain ⟨h2, _, _, _⟩ := i2
    rw [h1] at h2
    have esl : sl = sl' := by
      have := Option.some.inj h2
      exact congrArg (fun o : Obj => o.slots) this
    subst esl
    obtain ⟨ws1, f1, p1⟩ := allPl_vs pf
    obtain ⟨ws2, f2, p2⟩ := allPl_vs pg
    have ev1 := r1.flat f1
    have ev2 := r2.flat f2
    have hg : ∀ {ws : List V}, SlX.SlR (ws.map some) sl → ∀ i v, ws[i]? = some v → ∃ u, sl[i]? = some (some u) ∧ RelV v u := fun q i v hv => q i v (by rw [List.getElem?_map, hv]; rfl)
    have hl1 := r1.length
    have hl2 := r2.length
    rw [ev1] at q1 hl1 r1
    rw [ev2] at q2 hl2 r2
    have hws : ws1 = ws2 := List.ext_getElem? fun i => by
      cases a1 : ws1[i]? with
      | none =>
        have := List.getElem?_eq_none_iff.mp a1
        rw [List.getElem?_eq_none_iff.mpr (by omega)]
      | some v =>
        have hlt := (List.getElem?_eq_some_iff.mp a1).1
        have a2 : ws2[i]? = some (ws2[i]'(by omega)) := List.getElem?_eq_getElem (by omega)
        rw [a2]
        obtain ⟨u, e1, k1⟩ := hg q1 i v a1
        obtain ⟨u', e2, k2⟩ := hg q2 i _ a2
        rw [e1] at e2
        cases e2
        rw [relV_inj (p1 v (List.mem_of_getElem? a1)) (p2 _ (List.mem_of_getElem? a2)) k1 k2]
    subst hws
    exact allPl_inj pf pg r1 r2
  refine ⟨?_, ?_⟩
  · intro A pins s σ G H x y u v dx dy b sb J rx ry sm r1 r2 ⟨fs, gs, e1, e2, pf, pg, hl, hb, hS⟩
    subst e1 e2
    obtain ⟨a, d1, vs, ea, t1, q1⟩ := id r1
    obtain ⟨c, d2, us, ec, t2, q2⟩ := id r2
    subst ea ec
    cases (show u = Value.ref a from rx)
    cases (show v = Value.ref c from ry)
    by_cases hac : a = c
    · subst hac
      have hbt := hb (hsame pins s σ G H _ fs gs J sm r1 r2 pf pg hl)
      subst hbt
      exact SeqAt.EqAt.same (A := A) (s := s) (.ref a) X.prog X.w X.xe _ ⟨rfl, H, J, Ext.rfl'⟩
    · refine GQ.eqBool_refG hac ?_
      obtain ⟨sl, od, _, O1, _⟩ := SlX.slt_inst J (slt_mono sm t1)
      obtain ⟨sl', od', _, O2, _⟩ := SlX.slt_inst J (slt_mono sm t2)
      obtain ⟨m, hF⟩ := J.fr
      refine PySem.W.cmp_K (op := .Eq) (tb := .ref C) sb.room.units0 hF J.ok.mod.kin O1 O2.type hn hs hf ?_
      have e0 : Env0 X.prog X.w X.K X.mg X.base A X.stack s H := by
        have e := J.env0
        exact ⟨by rw [sb.fr]; exact e.frames, e.mod, e.bs, e.bsz, e.funs, e.frf, e.hok, e.bare⟩
      have hsp : spD X.K S [.ref a, .ref c] H (fun v H' => v = .bl b ∧ Ext H H') (fun _ _ _ => False) :=
        spD_of (I := iEmp X.K) (G := H) (ds := [.slo C fs, .slo C gs]) (P := fun d _ => d = .bl b) (Same.refl H) Hd.emp (.cons (r1.mono sm) (.cons (r2.mono sm) .nil)) (hS (fun d _ => d = .bl b) rfl) fun v d G' H' I' s1 s2 h1 r e => by
          subst e
          exact ⟨r, fun p o hp => (s1.trans s2) p o hp⟩
      refine wpAny_call (codeAny_mono (F A X.stack s H [.ref a, .ref c] [.ref a, .ref c] _ _ sb.room e0 (.cons rfl (.cons rfl .nil)) hsp) fun r s' hq => ?_)
      cases r with
      | error e => exact (cxF hq).elim
      | ok fl =>
        cases fl with
        | ret w =>
          obtain ⟨z, H', J', rz, ez, ex⟩ := J.after hq
          subst ez
          cases rz
          exact ⟨b, rfl, rfl, H', J', ex⟩
        | next => exact False.elim hq
        | brk => exact False.elim hq
        | cont => exact False.elim hq
  · intro pins s σ G H x dx dy b J sm r1 r2 ⟨fs, gs, e1, e2, pf, pg, hl, hb, _⟩
    subst e1 e2
    exact hb (hsame pins s σ G H x fs gs J sm r1 r2 pf pg hl)
def ETup (E : D → D → Bool → Prop) (dx dy : D) (b : Bool) : Prop := ∃ (xs ys : List D) (e : Nat → Bool), dx = .tup xs ∧ dy = .tup ys ∧ (∀ i x y, xs[i]? = some x → ys[i]? = some y → E x y (e i)) ∧ b = ((xs.length == ys.length) && (List.range (min xs.length ys.length)).all e)
theorem EqB.tup {X : Cx} {n : Nat} {E : D → D → Bool → Prop} (h : EqB X n E) : EqB X (n + 1) (ETup E) := by
  have hsame : ∀ (pins : List (Addr × Obj)) (s : Shared) (σ : L2.St) (G H : Hp) (x : V) (dx dy : D) (b : Bool), Inv X pins σ H s → Same G H → Rep X.K G dx x → Rep X.K G dy x → ETup E dx dy b → b = true := by
    intro pins s σ G H x dx dy b J sm r1 r2 ⟨xs, ys, e, e1, e2, he, hb⟩
    subst e1 e2 hb
    obtain ⟨a, vs, ea, t1, q1⟩ := r1
    obtain ⟨a', us, ea', t2, q2⟩ := r2
    rw [ea] at ea'
    cases ea'
    have evs := J.tuple_inj (sqT_mono sm t1) (sqT_mono sm t2)
    subst evs
    have hl : xs.length = ys.length := by rw [← q1.length, ← q2.length]
    rw [Bool.and_eq_true, beq_iff_eq]
    refine ⟨hl, ?_⟩
    rw [List.all_eq_true]
    intro i hi
    have hi := List.mem_range.mp hi
    have h1 : xs[i]? = some (xs[i]'(by omega)) := List.getElem?_eq_getElem (by omega)
    have h2 : ys[i]? = some (ys[i]'(by omega)) := List.getElem?_eq_getElem (by omega)
    obtain ⟨v, k1, k2⟩ := q1.get h1
    obtain ⟨v', k3, k4⟩ := q2.get h2
    rw [k1] at k3
    cases k3
    exact h.same pins s σ G H v _ _ _ J sm k2 k4 (he i _ _ h1 h2)
  refine ⟨?_, hsame⟩
  intro A pins s σ G H x y u v dx dy b sb J rx ry sm r1 r2 hE
  obtain ⟨xs, ys, e, e1, e2, he, hb⟩ := id hE
  subst e1 e2
  obtain ⟨a, vs, ea, t1, q1⟩ := id r1
  obtain ⟨c, us, ec, t2, q2⟩ := id r2
  subst ea ec
  cases (show u = Value.ref a from rx)
  cases (show v = Value.ref c from ry)
  by_cases hac : a = c
  · subst hac
    have hbt := hsame pins s σ G H _ _ _ _ J sm r1 r2 hE
    rw [hbt]
    exact SeqAt.EqAt.same (A := A) (s := s) (.ref a) X.prog X.w X.xe _ ⟨rfl, H, J, Ext.rfl'⟩
  · refine GQ.eqBool_refG hac ?_
    obtain ⟨its, rv, ⟨⟨cls, dd, data, sl⟩, ho, hc, nn, hd⟩, _⟩ := J.tuple (sqT_mono sm t1)
    obtain ⟨its2, rv2, ⟨⟨cls2, dd2, data2, sl2⟩, ho2, hc2, nn2, hd2⟩, _⟩ := J.tuple (sqT_mono sm t2)
    simp only at hc hd hc2 hd2
    subst hc hd hc2 hd2
    have hn1 : its.toArray.size = xs.length := by rw [List.size_toArray, ← rv.length, q1.length]
    have hn2 : its2.toArray.size = ys.length := by rw [List.size_toArray, ← rv2.length, q2.length]
    refine wpAny_richCompare_same_room (op := .Eq) ⟨_, ho, rfl⟩ ⟨_, ho2, rfl⟩ F.slot_tuple_eq (GQ.call_here F.slot_tuple_eq ⟨_, ho, rfl⟩ F.entry_tuple_eq (F.args_tuple_eq_2 _ _) ?_) sb.room.units0
    refine GQ.tuple_eqB (R := wants (fun v s' => v ≠ .notImplemented ∧ ∃ r, v = .bool r ∧ r = b ∧ ∃ H', Inv X pins σ H' s' ∧ Ext H H') X.xe) a c its.toArray its2.toArray nn nn2 dd dd2 sl sl2 (fun s' => ∃ H', Inv X pins σ H' s' ∧ Ext H H') e ?_ ?_ ho ho2 ⟨H, J, Ext.rfl'⟩
    · rintro i h1 h2 s' ⟨H1, J1, ex1⟩
      have k1 : i < xs.length := by omega
      have k2 : i < ys.length := by omega
      obtain ⟨w1, g1, rw1⟩ := q1.get (List.getElem?_eq_getElem k1)
      obtain ⟨w2, g2, rw2⟩ := q2.get (List.getElem?_eq_getElem k2)
      obtain ⟨u1, gu1, ru1⟩ := rv.get g1
      obtain ⟨u2, gu2, ru2⟩ := rv2.get g2
      have m1 : its.toArray[i] = u1 := by
        have := (List.getElem?_eq_some_iff.mp gu1).2
        simpa using this
      have m2 : its2.toArray[i] = u2 := by
        have := (List.getElem?_eq_some_iff.mp gu2).2
        simpa using this
      rw [m1, m2]
      refine wpAny_mono (h.run A.in1 pins s' σ G H1 w1 w2 u1 u2 _ _ (e i) sb.in1 J1 ru1 ru2 (fun p o hp => ex1 p o (sm p o hp)) rw1 rw2 (he i _ _ (List.getElem?_eq_getElem k1) (List.getElem?_eq_getElem k2))) (fun r s2 q => ?_) fun _ _ x => x
      obtain ⟨hr, H2, J2, ex2⟩ := q
      exact ⟨hr, H2, J2, ex1.trans ex2⟩
    · rintro s' ⟨H', J', ex⟩
      exact ⟨(fun z => nomatch z), _, rfl, by rw [hb, hn1, hn2], H', J', ex⟩
end DL
set_option Elab.async false
set_option linter.all false
set_option maxRecDepth 100000
set_option maxHeartbeats 4000000
namespace DL
open PySem PySem.Calls PyProof.Rows PyProof.V PySem.Spec PySem.W
section
variable {prog : Program} {w : World} {K : Type} [DecidableEq K] {knd : KeyKind prog w K} {A : Around} {E : Value → Shared → Prop} {s : Shared}
inductive KHits {K : Type} [DecidableEq K] (prog : Program) (w : World) (A : Around) (E : Value → Shared → Prop) (J : Shared → Prop) (kb : List (K × Value)) : List (K × Value) → Bool → Prop
  | nil : KHits prog w A E J kb [] true
  | miss {k : K} {v : Value} {r : List (K × Value)} : valueAt kb k = none → KHits prog w A E J kb ((k, v) :: r) false
  | hit {k : K} {v y : Value} {r : List (K × Value)} {e b : Bool} : valueAt kb k = some y → (∀ s, J s → wpAny (model prog w) A (eqBool v y) (fun z s' => z = e ∧ J s') E s) → KHits prog w A E J kb r b → KHits prog w A E J kb ((k, v) :: r) (e && b)
theorem KHits.inv {J : Shared → Prop} {kb : List (K × Value)} {k : K} {v : Value} {r : List (K × Value)} {b : Bool} (h : KHits prog w A E J kb ((k, v) :: r) b) :
    (valueAt kb k = none ∧ b = false) ∨ ∃ y e b', valueAt kb k = some y ∧ (∀ s, J s → wpAny (model prog w) A (eqBool v y) (fun z s' => z = e ∧ J s') E s) ∧ KHits prog w A E J kb r b' ∧ b = (e && b') := by
  cases h with
  | miss hn => exact .inl ⟨hn, rfl⟩
  | hit hy he hr => exact .inr ⟨_, _, _, hy, he, hr, rfl⟩
end
end DL
namespace DL
open PySem PySem.Spec PyProof.Rows L2
inductive EHits (E : D → D → Bool → Prop) (kb : List (Key × D)) : List (Key × D) → Bool → Prop
  | nil : EHits E kb [] true
  | miss {k : Key} {d : D} {r : List (Key × D)} : getG kb k = none → EHits E kb ((k, d) :: r) false
  | hit {k : Key} {d e : D} {r : List (Key × D)} {b b' : Bool} : getG kb k = some e → E d e b → EHits E kb r b' → EHits E kb ((k, d) :: r) (b && b')
theorem Hd.ext {K : PySem.W.Frag} {I : Iv K} {G H H' : Hp} (h : Hd I G H) (e : Ext H H') : Hd I G H' :=
  ⟨I.loc G G H H' (Same.refl G) (fun a ha => by
    cases q : H a with
    | none => exact absurd q (h.dom ha)
    | some o => exact e a o q) h.ph, h.fr⟩
end DL
set_option Elab.async false
set_option linter.all false
set_option maxRecDepth 100000
set_option maxHeartbeats 4000000
namespace DL
open PySem PySem.Spec PyProof.Rows L2
section
variable {X : Cx} {W : WX} {R : Rx X.K} {n : Nat} {g : Addr} {S : Spec X.K} {pins : List (Addr × Obj)} {σ : L2.St} {H : Hp} {s : Shared}
end
structure PlG (K : PySem.W.Frag) (C : Addr) : Prop where
  g : ∀ f, PySem.W.plainGet K C f = true
section
variable {X : Cx} {W : WX} {R : Rx X.K} {n : Nat} {C : Addr} {m : Str} {S : Spec X.K} {δ : DEnv} {I : Iv X.K} {P : D → Iv X.K → Prop} {o a b e : Expr} {es : List Expr} {pos apos p : Pos} {κ : Ko X.K}
end
end DL
set_option Elab.async false
set_option linter.all false
set_option maxRecDepth 100000
set_option maxHeartbeats 4000000
namespace DL
open PySem PySem.Spec PyProof.Rows L2
section
variable {K : PySem.W.Frag} {I : Iv K} {y : D} {p : Addr} {ds : List D} {c : Rc K}
theorem pn_isiM {u : String} {b : Bool} (c : Rc K) (hb : kitB "list" u = some b := by decide +kernel) (eI : I = c.fill (iLst K p ds) := by rfl) : PN K I (rIsi K) [.adr p, .ty u] (.bl b) := fun P pp G H vs Q s hI ⟨v, r, e1, e2, v2, r2, e3, e4, e5⟩ q => by
  subst eI
  obtain ⟨ws, ho, rw', _⟩ := hI.lst
  rw [show v = .ref p from e2] at e1
  refine ⟨.ref p, .ty u, .type "list", .type u, b, by rw [e1, e3, show v2 = .ty u from e4, show r2 = [] from e5], .ty u, .base (.lst ho), kit_ty hb, ?_⟩
  exact q _ (.bl b) G H _ (Same.refl G) s hI rfl pp
end
section
variable {X : Cx} {I : Iv X.K} {a b e : Expr} {δ : DEnv} {pos pos2 : Pos} {y : D} {p : Addr} {ds : List D}
end
end DL
set_option Elab.async false
set_option linter.all false
set_option maxRecDepth 100000
set_option maxHeartbeats 4000000
namespace DL
open PySem PySem.Spec PyProof.Rows L2
section
variable {X : Cx} {W : WX} {R : Rx X.K} {a b e iter tg : Expr} {lo hi : Option Expr} {δ : DEnv} {I : Iv X.K} {pos p2 : Pos} {ds : List D} {P : D → Iv X.K → Prop} {κ : Ko X.K} {st : Stmt} {body : List Stmt}
theorem s_joint (M : DEnv → Iv X.K → Prop) (h : S1 X W st δ I { κ with nx := M }) (k : ∀ δ' I', M δ' I' → κ.nx δ' I') : S1 X W st δ I κ := S1.imp h k (fun _ _ x => x) (fun _ _ x => x) (fun _ _ x => x) (fun _ _ _ _ x => x)
def EvO (X : Cx) (W : WX) (R : Rx X.K) (lo : Option Expr) (δ : DEnv) (I : Iv X.K) (P : Option Int → Iv X.K → Prop) : Prop := ∀ (σ : L2.St) (G H : Hp) (Q : Option Int → Hp → Prop), EnvR X.K G δ σ → Same G H → Hd I G H → Kx X.K W σ G R →
  (∀ l G' H' I', Same G G' → Same G' H' → Hd I' G' H' → P l I' → Q l H') → wpO X lo σ H Q
theorem eo_none {P : Option Int → Iv X.K → Prop} (p : P none I) : EvO X W R none δ I P := fun σ G H Q hE s hI qx q => ⟨fun pins st J => po_none.run pins st σ H Q J (q none G H I (Same.refl G) s hI p)⟩
theorem eo_some {P : Option Int → Iv X.K → Prop} (h : EvX X W R e δ I fun d I1 => ∃ i, d = .int i ∧ P (some i) I1) : EvO X W R (some e) δ I P := fun σ G H Q hE s hI qx q => ⟨fun pins st J => (po_some peC).run pins st σ H Q J
  (h σ G H _ hE s hI qx fun v d G1 H1 I1 s1 t1 g1 r1 ⟨i, ed, p⟩ => by
    subst ed
    exact ⟨i, r1, q (some i) G1 H1 I1 s1 t1 g1 p⟩)⟩
theorem ev_slL (h : EvX X W R a δ I fun d I1 => ∃ ds, d = .lst ds ∧ EvO X W R lo δ I1 fun l I2 => EvO X W R hi δ I2 fun h I3 => P (.lst (cutD ds l h)) I3) : EvX X W R (.Subscript a (.Slice lo hi none p2) pos) δ I P := fun σ G H Q hE s hI qx q =>
  PE.wp (pe_slice sl_list peC poC poC) (h σ G H _ hE s hI qx fun v d G1 H1 I1 s1 t1 g1 r1 ⟨ds, ed, k1⟩ => by
    subst ed
    refine k1 σ G1 H1 _ (hE.mono s1) t1 g1 (qx.mono s1) fun l G2 H2 I2 s2 t2 g2 k2 => ?_
    refine k2 σ G2 H2 _ (hE.mono (s1.trans s2)) t2 g2 (qx.mono (s1.trans s2)) fun h G3 H3 I3 s3 t3 g3 pp => ?_
    obtain ⟨b, vs, ev, e1, e2⟩ := (r1.mono s2).mono s3
    refine ⟨b, vs, ev, SqL.of (t3 _ _ e1), fun p hp => ?_⟩
    have hg : G3 p = none := t3.free hp
    exact q (.ref p) (.lst (cutD ds l h)) _ _ I3 (((s1.trans s2).trans s3).trans (Evl.Ex.new hg)) (same_upd2 t3) (g3.keep hp t3) ⟨p, _, rfl, upd_same, (e2.cut l h).mono (Evl.Ex.new hg)⟩ pp)
theorem s_whileP {c : Expr} (po : PassesOwn (model X.prog X.w) X.A X.env X.xe) (Nv : Nat → DEnv → Iv X.K → Prop) (m : Nat) (i0 : Nv m δ I)
    (step : ∀ m δ' I', Nv m δ' I' → ∃ b, PVT X I' c δ' b ∧ (b = true → SX X W body δ' I' { κ with nx := fun δ'' I'' => ∃ m', m' < m ∧ Nv m' δ'' I'', ct := fun δ'' I'' => ∃ m', m' < m ∧ Nv m' δ'' I'', bk := κ.nx }) ∧ (b = false → κ.nx δ' I')) : S1 X W (.While c body [] pos) δ I κ :=
  s_while po Nv m i0 fun m δ' I' h => by
    obtain ⟨b, pt, h1, h2⟩ := step m δ' I' h
    refine pt W _ _ ?_
    cases b with
    | true => exact h1 rfl
    | false => exact h2 rfl
theorem s_forE (po : PassesOwn (model X.prog X.w) X.A X.env X.xe) (h : EvI X W (κ.r δ) tg iter δ I fun ds I1 => ∃ (α : Type) (xs : List α) (g : α → D) (Nv : List α → DEnv → Iv X.K → Prop), ds = xs.map g ∧ Nv [] δ I1 ∧
      (∀ p x r δ' I', xs = p ++ x :: r → Nv p δ' I' → ∃ δ'' vs, BindD X tg (g x) δ' δ'' vs ∧ SX X W body δ'' I' { κ with nx := Nv (p ++ [x]), ct := Nv (p ++ [x]), bk := κ.nx }) ∧ ∀ δ' I', Nv xs δ' I' → κ.nx δ' I')
    (hc : X.calm = true := by rfl) (hs : ∀ x, foldedSetIterable iter X.env x = pure x := by intro _; rfl) : S1 X W (.For tg iter body [] pos) δ I κ :=
  s_for po (fun σ G H RR hE s hI qx q => h σ G H RR hE s hI qx fun J ds G' H' I' s1 t1 h1 wd ⟨α, xs, g, Nv, ed, h0, step, fin⟩ => q J ds G' H' I' s1 t1 h1 wd (by
    subst ed
    exact ⟨fun i => Nv (xs.take i), h0, fun i d δ' I' hd nv => by
      obtain ⟨x, hx, rfl⟩ := get_map hd
      have hl := (List.getElem?_eq_some_iff.mp hx).1
      have e : xs = xs.take i ++ x :: xs.drop (i + 1) := by
        rw [← (List.getElem?_eq_some_iff.mp hx).2, List.getElem_cons_drop hl, List.take_append_drop]
      have e2 : xs.take (i + 1) = xs.take i ++ [x] := take_snoc hx
      obtain ⟨δ'', vs, b, q⟩ := step _ x _ δ' I' e nv
      rw [← e2] at q
      exact ⟨δ'', vs, b, q⟩, fun δ' I' nv => fin δ' I' (by rw [List.length_map, List.take_length] at nv; exact nv)⟩)) hc hs
end
theorem put_new {α : Type} {kvs : List (Key × α)} {k : Key} {v : α} (h : ∀ kv ∈ kvs, kv.1 ≠ k) : putG kvs k v = kvs ++ [(k, v)] := by
  unfold putG
  rw [if_neg]
  intro hh
  obtain ⟨kv, h1, h2⟩ := List.any_eq_true.mp hh
  exact h kv h1 (of_decide_eq_true h2)
theorem put_newT {α : Type} {xs : List α} {k : α → Str} {v : α → D} {n : Str} {d : D} (h : n ∉ xs.map k) : putG (xs.map fun x => ((.inr (k x) : Key), v x)) (.inr n) d = xs.map (fun x => ((.inr (k x) : Key), v x)) ++ [(.inr n, d)] := put_new fun kv hkv => by
  obtain ⟨x, hx, rfl⟩ := List.mem_map.mp hkv
  intro e
  exact h (List.mem_map.mpr ⟨x, hx, Sum.inr.inj e⟩)
end DL
set_option Elab.async false
set_option linter.all false
set_option maxRecDepth 100000
set_option maxHeartbeats 4000000
namespace DL
open PySem PySem.Spec PyProof.Rows L2
def iIns (K : PySem.W.Frag) (x C dx : Addr) (fs : List (Str × D)) : Iv K where
  F := fun a => a = x ∨ a = dx
  φ := fun G H => H dx = some (.own x) ∧ dx ≠ x ∧ ∃ vs, H x = some (.ins C dx vs) ∧ FRep K G fs vs
  loc := fun G G' H H' s k ⟨h1, h0, vs, h2, h3⟩ => ⟨by rw [k dx (.inr rfl)]; exact h1, h0, vs, by rw [k x (.inl rfl)]; exact h2, h3.mono s⟩
  dom := fun G H ⟨h1, _, vs, h2, _⟩ a ha => by
    rcases ha with e | e
    · subst e; rw [h2]; simp
    · subst e; rw [h1]; simp
def putA (f : Str) (d : D) : List (Str × D) → List (Str × D)
  | [] => [(f, d)]
  | (g, x) :: r => if g = f then (g, d) :: r else (g, x) :: putA f d r
theorem FRep.put {K : PySem.W.Frag} {G : Hp} {f : Str} {d : D} {v : V} (r : Rep K G d v) : ∀ {fs : List (Str × D)} {vs : List (Str × V)}, FRep K G fs vs → FRep K G (putA f d fs) (putF f v vs)
  | [], l, h => by
    rw [show l = [] from h]
    exact ⟨v, [], rfl, r, rfl⟩
  | (g, x) :: ps, l, ⟨u, m, e, r1, r2⟩ => by
    rw [e]
    show FRep K G (if g = f then _ else _) (if g = f then _ else _)
    by_cases hg : g = f
    · rw [if_pos hg, if_pos hg]
      exact ⟨v, m, rfl, r, r2⟩
    · rw [if_neg hg, if_neg hg]
      exact ⟨u, _, rfl, r1, FRep.put r r2⟩
theorem FRep.none {K : PySem.W.Frag} {G : Hp} {f : Str} : ∀ {fs : List (Str × D)} {vs : List (Str × V)}, FRep K G fs vs → fs.lookup f = none → vs.lookup f = none
  | [], l, h, _ => by rw [show l = [] from h]; rfl
  | (g, x) :: ps, l, ⟨u, m, e, r1, r2⟩, hn => by
    rw [e]
    simp only [List.lookup] at hn ⊢
    split at hn
    · cases hn
    · exact FRep.none r2 hn
theorem FRep.len {K : PySem.W.Frag} {G : Hp} {fs : List (Str × D)} {vs : List (Str × V)} (h : FRep K G fs vs) : vs.length = fs.length := by
  have := congrArg List.length (FRep.of h).1
  simpa using this
section
variable {K : PySem.W.Frag} {G H : Hp} {x C dx : Addr} {fs : List (Str × D)} {c : Rc K} {I : Iv K} {f m : Str} {d : D}
theorem Hd.ins (h : Hd (c.fill (iIns K x C dx fs)) G H) : ∃ vs, H x = some (.ins C dx vs) ∧ FRep K G fs vs ∧ G x = none := by
  obtain ⟨h1, h0, vs, h2, h3⟩ := h.inner.ph
  exact ⟨vs, h2, h3, h.inner.fr x (.inl rfl)⟩
end
section
variable {X : Cx} {W : WX} {R : Rx X.K} {a b e o : Expr} {es : List Expr} {δ : DEnv} {I : Iv X.K} {P : D → Iv X.K → Prop} {pos p q' : Pos} {f : Str} {d z : D} {x C dx : Addr} {fs : List (Str × D)} {κ : Ko X.K}
end
end DL
set_option Elab.async false
set_option linter.all false
set_option maxRecDepth 100000
set_option maxHeartbeats 4000000
namespace L2
open PySem PySem.Spec PyProof.Rows
section
variable {prog : Program} {w : World} {A : Around} {E : Value → Shared → Prop} {s : Shared} {l : Addr} {its : List Value} {ns : List Int} {Q : Value → Shared → Prop}
end
section
variable {X : Cx}
end
end L2
namespace DL
open PySem PySem.Spec PyProof.Rows L2
section
variable {X : Cx} {W : WX} {R : Rx X.K} {a b o e : Expr} {es : List Expr} {δ : DEnv} {I : Iv X.K} {P : D → Iv X.K → Prop} {pos p apos ep : Pos} {d x y z : D} {ds : List D} {κ : Ko X.K} {ns : List Int} {ss : List Str} {k : Str} {q : Addr} {n : Nat}
theorem reps_rep {K : PySem.W.Frag} {G : Hp} {vs : List V} (r : Reps K G ds vs) : ∀ n : Nat, Reps K G (List.replicate n ds).flatten (List.replicate n vs).flatten
  | 0 => rfl
  | n + 1 => by rw [List.replicate_succ, List.replicate_succ, List.flatten_cons, List.flatten_cons]; exact r.append (reps_rep r n)
end
end DL
set_option Elab.async false
set_option linter.all false
set_option maxRecDepth 100000
set_option maxHeartbeats 4000000
namespace L2
open PySem PySem.Spec PyProof.Rows
section
variable {X : Cx} {a b o e : Expr} {es : List Expr} {ta tb to : TE} {t : TA} {pos cpos apos : Pos} {name : Str} {id : String} {r : V → List V → Hp → VK → Prop}
end
end L2
namespace DL
open PySem PySem.Spec PyProof.Rows L2
section
variable {X : Cx} {W : WX} {R : Rx X.K} {a b o e : Expr} {es : List Expr} {δ : DEnv} {I : Iv X.K} {P : D → Iv X.K → Prop} {pos p apos ep : Pos} {d x y z : D} {ds : List D} {κ : Ko X.K} {ns : List Int} {ss : List Str} {k : Str} {q : Addr} {n : Nat}
theorem s_insert {i : Expr} (c : Rc X.K) (ho : PV X I o δ (.adr q)) (hI0 : I = c.fill (iLst X.K q ds)) (hz : ds.length < 1000000)
    (h : EvX X W (κ.r δ) i δ I fun z I1 => ∃ j : Nat, z = .int j ∧ j < 1000000 ∧ I1 = c.fill (iLst X.K q ds) ∧ PV X I1 e δ d ∧ κ.nx δ (c.fill (iLst X.K q (ds.take j ++ [d] ++ ds.drop j))))
    (hbase : attributeBase o "insert" X.env (eval o X.env) = eval o X.env := by rfl)
    (hfew : ((backTo pos (starEach [i, e] X.env)).all (fun x => !x.1) && (backToKw pos (keywordEach [] X.env)).all (fun x => x.1.isSome) && decide ([i, e].length + ([] : List Keyword).length + (if ([] : List Keyword).isEmpty then 0 else 1) < 30)) = true := by rfl)
    (hline : (apos.endLine == pos.line) = true := by rfl) (hst : starEach [i, e] X.env = (false, eval i X.env) :: starEach [e] X.env := by rfl) (hst2 : starEach [e] X.env = (false, eval e X.env) :: starEach [] X.env := by rfl) (hpl : (backTo pos (starEach [e] X.env)).any (·.1) = false := by rfl)
    (hs : swapsWith (.Call (.Attribute o "insert" apos) [i, e] [] pos) none ep.line X.env = pure false := by rfl) : S1 X W (.Expr (.Call (.Attribute o "insert" apos) [i, e] [] pos) ep) δ I κ := fun σ G H E hE s hI kk =>
  PS.wp (ps_expr (pe_bm PySem.F.plainAttrs_list PySem.F.slot_list_insert PySem.F.type_list_insert mt_insert peC (pa_cons peC (pa_cons peC pa_nil hst2) hst) hbase hfew hline hst hpl) hs) (ho W (κ.r δ) (fun z I1 => z = .adr q ∧ I1 = I) ⟨rfl, rfl⟩ σ G H _ hE s hI (kk.kx hE) fun v d1 G1 H1 I1 s1 t1 h1 r1 ⟨ed, ei⟩ => by
    subst ed ei hI0
    obtain ⟨vs, hp, rv, gp⟩ := h1.lst
    obtain rfl : v = .ref q := r1
    refine ⟨.inl ⟨rfl, _, .inl (.inl hp)⟩, ?_⟩
    refine h σ G1 H1 _ (hE.mono s1) t1 h1 ((kk.kx hE).mono s1) fun w d2 G2 H2 I2 s2 t2 h2 r2 ⟨j, ez, hj, ei, he, nx⟩ => ?_
    subst ez ei
    refine he W (κ.r δ) (fun z J => z = d ∧ J = c.fill (iLst X.K q ds)) ⟨rfl, rfl⟩ σ G2 H2 _ (hE.mono (s1.trans s2)) t2 h2 ((kk.kx hE).mono (s1.trans s2)) fun u d3 G3 H3 I3 s3 t3 h3 r3 ⟨ed3, ei3⟩ => ?_
    subst ed3 ei3
    obtain ⟨vs2, hp2, rv2, gp2⟩ := h3.lst
    refine ⟨q, vs2, j, u, rfl, by rw [show w = .int j from r2], hp2, by rw [rv2.length, sizeLine_eq]; omega, by omega, by omega, ?_⟩
    rw [show ((j : Int)).toNat = j by omega]
    exact kk.nx δ σ G3 _ _ ((s1.trans s2).trans s3) (same_upd t3 gp2) (h3.lstSet (((rv2.take j).append (Reps.one r3)).append (rv2.drop j))) (hE.mono ((s1.trans s2).trans s3)) nx)
end
end DL
set_option Elab.async false
set_option linter.all false
set_option maxRecDepth 100000
set_option maxHeartbeats 4000000
namespace DL
open PySem PySem.Spec PyProof.Rows L2
section
variable {X : Cx} {W : WX} {R : Rx X.K} {elt tg iter tg1 iter1 e a : Expr} {scope : Scope} {δ : DEnv} {I : Iv X.K} {P : D → Iv X.K → Prop} {pos p : Pos} {κ : Ko X.K} {d z : D} {ds : List D}
end
end DL
set_option Elab.async false
set_option linter.all false
set_option maxRecDepth 100000
set_option maxHeartbeats 4000000
namespace DL
open PySem PySem.Spec PyProof.Rows L2
section
variable {X : Cx} {W : WX} {R : Rx X.K} {a b o e : Expr} {es : List Expr} {δ : DEnv} {I : Iv X.K} {P : D → Iv X.K → Prop} {pos p : Pos} {κ : Ko X.K} {d z : D} {ds : List D} {x' : Str} {n m : Int}
end
section
variable {X : Cx} {W : WX} {R : Rx X.K} {a b o e i : Expr} {δ : DEnv} {I : Iv X.K} {pos p : Pos} {y z : D} {kds : List (Key × D)} {k : Key}
end
end DL
set_option Elab.async false
set_option linter.all false
set_option maxRecDepth 100000
set_option maxHeartbeats 4000000
namespace DL
open PySem PySem.Spec PyProof.Rows L2
section
variable {X : Cx} {W : WX} {R : Rx X.K} {e : Expr} {sts : List Stmt} {st : Stmt} {δ : DEnv} {I J : Iv X.K} {κ : Ko X.K} {P : D → Iv X.K → Prop}
theorem SX.drop (h : SX X W sts δ I κ) : SX X W sts δ (I.and J) κ := fun σ G H E hE s hI k => h σ G H E hE s hI.left k
theorem S1.drop (h : S1 X W st δ I κ) : S1 X W st δ (I.and J) κ := fun σ G H E hE s hI k => h σ G H E hE s hI.left k
theorem EvX.drop (h : EvX X W R e δ I fun d I1 => ∃ I2 J2, I1 = I2.and J2 ∧ P d I2) : EvX X W R e δ I P := fun σ G H Q hE s hI qx q => h σ G H Q hE s hI qx fun v d G1 H1 I1 s1 t1 h1 r1 ⟨I2, J2, ei, pp⟩ => by
  subst ei
  exact q v d G1 H1 I2 s1 t1 h1.left r1 pp
end
end DL
set_option Elab.async false
set_option linter.all false
set_option maxRecDepth 100000
set_option maxHeartbeats 4000000
namespace L2
open PySem PySem.Spec PyProof.Rows
abbrev MX := List (NestedKey × Addr × Value)
def memoΦ (P : Program) (w : World) (q : Addr) (xs : MX) (h : Heap) : Prop := (q == sysModules) = false ∧ xs.length ≤ 1000000 ∧ ∃ o es ep, h.get? q = some o ∧ o.ExactDict ∧ o.data = .dict es ep ∧ es.toList = xs.map (entryOfKey (nestedKind P w)) ∧ (xs.map (·.1)).Nodup
def memoO (P : Program) (w : World) (q : Addr) (xs : MX) : HO := .ext (memoΦ P w q xs)
section
variable {X : Cx} {pins : List (Addr × Obj)} {σ : St} {H H' : Hp} {s : Shared} {P : Program} {w : World} {q : Addr} {xs : MX} {h : Heap}
end
end L2
namespace DL
open PySem PySem.Spec PyProof.Rows L2
mutual
def keyN : NestedKey → D
  | .none => .non
  | .num i => .int i
  | .text x => .str x
  | .tup ks => .tup (keyNs ks)
def keyNs : List NestedKey → List D
  | [] => []
  | k :: ks => keyN k :: keyNs ks
end
mutual
theorem nested_of {X : Cx} {pins : List (Addr × Obj)} {σ : L2.St} {G H : Hp} {s : Shared} (I : Inv X pins σ H s) (sm : Same G H) : ∀ (k : NestedKey) (v : V) (u : Value), Rep X.K G (keyN k) v → RelV v u → NestedIs s.heap k u
  | .none, v, u, r, h => by
    rw [show v = .non from r] at h
    rw [show u = .none from h]; exact .none
  | .num i, v, u, r, h => by
    rw [show v = .int i from r] at h
    obtain ⟨t, rfl⟩ := (show ∃ t, u = Value.int i t from h)
    exact .int i t
  | .text x, v, u, r, h => by
    rw [show v = .str x from r] at h
    obtain ⟨t, rfl⟩ := (show ∃ t, u = Value.str x t from h)
    exact .text x t
  | .tup ks, v, u, ⟨a, vs, e1, e2, e3⟩, h => by
    rw [e1] at h
    obtain rfl : u = Value.ref a := h
    obtain ⟨its, r, ⟨o, ho, hc, n, hd⟩, _⟩ := I.tuple (sqT_mono sm e2)
    exact .tup ho hc hd (nesteds_of I sm ks vs its e3 r)
theorem nesteds_of {X : Cx} {pins : List (Addr × Obj)} {σ : L2.St} {G H : Hp} {s : Shared} (I : Inv X pins σ H s) (sm : Same G H) : ∀ (ks : List NestedKey) (vs : List V) (us : List Value), Reps X.K G (keyNs ks) vs → Vals vs us → NestedAll s.heap ks us
  | [], vs, us, r, h => by
    rw [show vs = [] from r] at h
    cases h; exact .nil
  | k :: ks, vs, us, ⟨v, vr, e, r1, r2⟩, h => by
    rw [e] at h
    cases h with
    | cons a b => exact .cons (nested_of I sm k _ _ r1 a) (nesteds_of I sm ks _ _ r2 b)
end
def MR (K : PySem.W.Frag) (G : Hp) : List (NestedKey × D) → MX → Prop
  | [], xs => xs = []
  | p :: r, xs => ∃ (a : Addr) (v : V) (u : Value) (rest : MX), xs = (p.1, a, u) :: rest ∧ Rep K G (keyN p.1) (.ref a) ∧ p.1.depth ≤ 8 ∧ RelV v u ∧ Rep K G p.2 v ∧ MR K G r rest
theorem MR.mono {K : PySem.W.Frag} {G G' : Hp} (s : Same G G') : ∀ {kds : List (NestedKey × D)} {xs : MX}, MR K G kds xs → MR K G' kds xs
  | [], _, h => h
  | _ :: _, _, ⟨a, v, u, rest, e, h1, h2, h3, h4, h5⟩ => ⟨a, v, u, rest, e, h1.mono s, h2, h3, h4.mono s, MR.mono s h5⟩
theorem MR.len {K : PySem.W.Frag} {G : Hp} : ∀ {kds : List (NestedKey × D)} {xs : MX}, MR K G kds xs → xs.length = kds.length
  | [], _, h => by rw [show _ = [] from h]; rfl
  | _ :: _, _, ⟨a, v, u, rest, e, _, _, _, _, h⟩ => by rw [e, List.length_cons, List.length_cons, MR.len h]
theorem MR.is {X : Cx} {pins : List (Addr × Obj)} {σ : L2.St} {G H : Hp} {s : Shared} (I : Inv X pins σ H s) (sm : Same G H) : ∀ {kds : List (NestedKey × D)} {xs : MX}, MR X.K G kds xs → ∀ x ∈ xs, (nestedKind X.prog X.w).is s.heap x.1 x.2.1
  | [], _, h, x, hx => by rw [show _ = [] from h] at hx; cases hx
  | _ :: _, _, ⟨a, v, u, rest, e, h1, h2, h3, h4, h5⟩, x, hx => by
    rw [e] at hx
    rcases List.mem_cons.mp hx with rfl | hx
    · exact ⟨nested_of I sm _ _ _ h1 rfl, h2⟩
    · exact MR.is I sm h5 x hx
def getN (kds : List (NestedKey × D)) (k : NestedKey) : Option D := (kds.find? fun p => decide (p.1 = k)).map (·.2)
theorem MR.get {K : PySem.W.Frag} {G : Hp} {k : NestedKey} : ∀ {kds : List (NestedKey × D)} {xs : MX}, MR K G kds xs → (∀ d, getN kds k = some d → ∃ a u v, atKey xs k = some (a, u) ∧ RelV v u ∧ Rep K G d v) ∧ (getN kds k = none → atKey xs k = none)
  | [], _, h => by rw [show _ = [] from h]; exact ⟨(fun d e => nomatch e), fun _ => rfl⟩
  | p :: r, _, ⟨a, v, u, rest, e, h1, h2, h3, h4, h5⟩ => by
    rw [e]
    unfold getN atKey
    rw [List.find?_cons, List.find?_cons]
    by_cases hk : p.1 = k
    · rw [decide_eq_true hk]
      exact ⟨fun d ed => by cases ed; exact ⟨a, u, v, rfl, h3, h4⟩, (fun en => nomatch en)⟩
    · rw [decide_eq_false hk]
      exact MR.get h5
theorem MR.app {K : PySem.W.Frag} {G : Hp} {k : NestedKey} {d : D} {a : Addr} {u : Value} {v : V} (h1 : Rep K G (keyN k) (.ref a)) (h2 : k.depth ≤ 8) (h3 : RelV v u) (h4 : Rep K G d v) : ∀ {kds : List (NestedKey × D)} {xs : MX}, MR K G kds xs → MR K G (kds ++ [(k, d)]) (xs ++ [(k, a, u)])
  | [], _, h => by rw [show _ = [] from h]; exact ⟨a, v, u, [], rfl, h1, h2, h3, h4, rfl⟩
  | _ :: _, _, ⟨a', v', u', rest, e, g1, g2, g3, g4, g5⟩ => by
    rw [e]
    exact ⟨a', v', u', _, rfl, g1, g2, g3, g4, MR.app h1 h2 h3 h4 g5⟩
def iMemo (P : Program) (w : World) (K : PySem.W.Frag) (q : Addr) (kds : List (NestedKey × D)) : Iv K := iObj K q (fun G o => ∃ xs, o = memoO P w q xs ∧ MR K G kds xs) fun _ _ _ s ⟨xs, h1, h2⟩ => ⟨xs, h1, h2.mono s⟩
section
variable {P : Program} {w : World} {K : PySem.W.Frag} {G H : Hp} {q : Addr} {kds : List (NestedKey × D)} {c : Rc K} {I : Iv K}
theorem Hd.memo (h : Hd (c.fill (iMemo P w K q kds)) G H) : ∃ xs, H q = some (memoO P w q xs) ∧ MR K G kds xs ∧ G q = none := by
  have z := h.inner
  obtain ⟨o, ho, xs, ev, r⟩ := z.ph
  subst ev
  exact ⟨xs, ho, r, z.fr q rfl⟩
end
section
variable {X : Cx} {W : WX} {R : Rx X.K} {o i e : Expr} {sts : List Stmt} {δ : DEnv} {I : Iv X.K} {pos ps : Pos} {q : Addr} {kds : List (NestedKey × D)} {ks : List NestedKey} {d : D} {κ : Ko X.K}
end
end DL
set_option Elab.async false
set_option linter.all false
set_option maxRecDepth 100000
set_option maxHeartbeats 4000000
namespace L2
open PySem PySem.Spec PyProof.Rows
end L2
namespace DL
open PySem PySem.Spec PyProof.Rows L2
section
variable {X : Cx} {W : WX} {e : Expr} {sts : List Stmt} {δ : DEnv} {I : Iv X.K} {pos : Pos} {q : Addr} {κ : Ko X.K} {x' : Str} {n : Int}
end
end DL
set_option Elab.async false
set_option linter.all false
set_option maxRecDepth 100000
set_option maxHeartbeats 4000000
namespace DL
open PySem PySem.Spec PyProof.Rows L2
structure DefK (P : Program) (w : World) (K : PySem.W.Frag) (mg : Str → Option Value) (base : Heap) (x : Str) (k : Nat) (ps : List Str) (n : Nat) (ks : List Str) (dds : List D) (S : Spec K) : Prop where
  ex : ∃ (f : Addr) (fd : FuncData) (g : List Value → List Value → List Value) (gV : List V → List V → List V) (dv : List V), mg x = some (.ref f) ∧ PySem.W.keepIn K (.ref f) = true ∧ FnOk P w K mg base (L2.CX P w) k f fd ps (spD K S) ∧ KBn K fd ps n ks g gV ∧ (∀ vs zs, zs.length = ks.length → gV vs zs = vs ++ zs ++ dv) ∧ ∀ G, Reps K G dds dv
section
variable {P : Program} {w : World} {K : PySem.W.Frag} {mg : Str → Option Value} {base : Heap} {x qual : Str} {params : Arguments} {body : List Stmt} {scope : Scope} {f : Addr} {fd : FuncData} {ps ks : List Str} {k n : Nat} {S : Spec K} {kws : List (Str × V)}
theorem DefK.of (g : mg x = some (.ref f)) (F : FunD K x qual params body scope [] kws f fd) (ok : FnOk P w K mg base (L2.CX P w) k f fd ps (spD K S)) (hk : kws ≠ [])
    (h : ∀ (D : Addr) (doc pm : Value) (an : Option Addr) (cdv ct : Value) (us ws : List Value), us.length = n → ws.length = ks.length → KwChain D [] (bindArgs (PySem.W.fnOf x qual params body scope .none (.ref D) doc pm an cdv ct) ⟨us, ks.zip ws⟩) (ps.zip (us ++ ws))) : DefK P w K mg base x k ps n ks [] S := by
  obtain ⟨_, b⟩ := FunD.kbinds0 (ps := ps) F n ks [] (fun us _ ws => us ++ ws) hk (fun q hq => by cases hq) (fun r1 _ r3 => r1.append r3) fun D doc pm an cdv ct us mv ws h1 h2 h3 => by
    have e : mv = [] := List.length_eq_zero_iff.mp h2
    subst e
    exact h D doc pm an cdv ct us ws h1 h3
  exact ⟨f, fd, _, _, [], g, F.kp, ok, b, fun vs zs _ => (List.append_nil _).symm, fun _ => rfl⟩
end
section
variable {X : Cx} {W : WX} {R : Rx X.K} {e : Expr} {es : List Expr} {δ : DEnv} {I : Iv X.K} {P : D → Iv X.K → Prop} {pos p : Pos} {x : Str} {ps ks : List Str} {k n : Nat} {S : Spec X.K} {d : D} {kws : List Keyword}
end
end DL
set_option Elab.async false
set_option linter.all false
set_option maxRecDepth 100000
set_option maxHeartbeats 4000000
namespace DL
open PySem PySem.Spec PyProof.Rows L2
abbrev tyNs : List String := ["NoneType", "bool", "int", "str", "tuple", "list", "dict"]
theorem tyD_in {d : D} {t : String} (h : tyD d = some t) : tyNs.contains t = true := by
  cases d <;> first | (cases h; decide) | cases h
theorem raw0 {P : Program} {w : World} {K : PySem.W.Frag} {mg : Str → Option Value} {base : Heap} {CX : CXT} {k : Nat} {f : Addr} {fd : FuncData} {ps : List Str} {sp : Sp} (F : FnOk P w K mg base CX k f fd ps sp) (hb : L2.Binds K fd ps []) : FnR P w K mg base CX k f sp :=
  FnR.imp (F.raw hb .nil) fun vs H Q E h => by rw [List.append_nil]; exact h
def Has (K : PySem.W.Frag) (d : He.DefD) : Prop := ∃ fd, FunD K d.name d.qual d.params d.body d.scope (d.dvs K) (d.kws K) (He.fAd K d.at_) fd
def HasG (K : PySem.W.Frag) (d : He.DefD) : Prop := ∃ fd, FunD K d.name d.qual d.params d.body d.scope (d.dvs K) (d.kws K) (pAd K d.at_) fd
theorem SaysP.has {fn gs : List He.DefD} {ex : PySem.W.Frag → Bool} {w : World} {h : Heap} {K : PySem.W.Frag} (c : SaysP fn gs ex w h K) {d : He.DefD} (hd : d ∈ fn) : Has K d := by
  obtain ⟨i, h1, h2⟩ := List.mem_iff_getElem.mp hd
  exact c.def_ i (by rw [List.getElem?_eq_getElem h1, h2])
theorem SaysP.hasG {fn gs : List He.DefD} {ex : PySem.W.Frag → Bool} {w : World} {h : Heap} {K : PySem.W.Frag} (c : SaysP fn gs ex w h K) {d : He.DefD} (hd : d ∈ gs) : HasG K d := by
  obtain ⟨i, h1, h2⟩ := List.mem_iff_getElem.mp hd
  exact c.get_ i (by rw [List.getElem?_eq_getElem h1, h2])
theorem all_at {bs : List Bool} (h : bs.all id = true) (i : Nat) {b : Bool} (e : bs[i]? = some b) : b = true := List.all_eq_true.mp h b (List.mem_of_getElem? e)
structure TCls (K : PySem.W.Frag) (C : Addr) : Prop where
  sc : SlX.SCls K C
  si : SlX.SIsi K C
  kW : PySem.W.kitOne K (.ref C) (.ref C) = some true
  kT : ∀ t, tyNs.contains t = true → PySem.W.kitOne K (.type t) (.ref C) = some false
  nT : ∀ t, tyNs.contains t = true → PySem.W.notFirst K C (.type t) = true
  nW : PySem.W.notFirst K C (.ref C) = true
def tclB (K : PySem.W.Frag) (C : Addr) : Bool := scB K C && (siB K C && (decide (PySem.W.kitOne K (.ref C) (.ref C) = some true) && ((tyNs.all fun t => decide (PySem.W.kitOne K (.type t) (.ref C) = some false)) && ((tyNs.all fun t => PySem.W.notFirst K C (.type t)) && PySem.W.notFirst K C (.ref C)))))
theorem tclB_ok {K : PySem.W.Frag} {C : Addr} (q : tclB K C = true) : TCls K C := by
  obtain ⟨q0, q⟩ := He.ba q
  obtain ⟨q1, q⟩ := He.ba q
  obtain ⟨q2, q⟩ := He.ba q
  obtain ⟨q3, q⟩ := He.ba q
  obtain ⟨q4, q5⟩ := He.ba q
  exact ⟨scB_ok q0, siB_ok q1, of_decide_eq_true q2, fun t ht => of_decide_eq_true (List.all_eq_true.mp q3 t (List.contains_iff_mem.mp ht)), fun t ht => List.all_eq_true.mp q4 t (List.contains_iff_mem.mp ht), q5⟩
structure TMeth (K : PySem.W.Frag) (C : Addr) (m : Str) : Prop where
  f : PySem.W.findIn K (.ref C) m = some (some (.ref (He.ma K C m)))
  i : PySem.W.isFn K (.ref (He.ma K C m)) = true
  k : PySem.W.keepIn K (.ref (He.ma K C m)) = true
section
variable {P : Program} {w : World} {K : PySem.W.Frag} {mg : Str → Option Value} {base : Heap} {f : Addr} {fd : FuncData} {C : Addr} {x qual f1 f2 : Str} {params : Arguments} {scope : Scope} {p1 p2 p3 p4 p5 p6 : Pos} {b1 b2 : Pos}
theorem ok_ini1 {q1 q2 q3 q4 : Pos} (F : FunD K x qual params [.Assign [.Attribute (.Name "self" q1) f1 q2] (.Name f1 q3) q4] scope [] [] f fd) (sc : FnScope ["self", f1] ["self", f1] scope) (oe : OexC K C) (n1 : PySem.W.findIn K (.ref C) f1 = some none)
    (v1 : Vis scope "self") (v2 : Vis scope f1) (d1 : (f1 == ("__debug__" : Str)) = false) (d2 : (f1 == ("__classdict__" : Str)) = false) : FnOk P w K mg base (L2.CX P w) 1 f fd ["self", f1] (spXIC C [f1]) := by
  refine F.ok sc (fun vs H Q E h => ?_) (fun cdv A outer s H vs Q E hr h => ?_)
  · obtain ⟨a, ws, rfl, hl, _⟩ := h
    simp [hl]
  · obtain ⟨a, ws, rfl, hl, ha, q⟩ := h
    obtain ⟨v, rfl⟩ : ∃ v, ws = [v] := by
      match ws, hl with
      | [v], _ => exact ⟨v, rfl⟩
    refine ⟨_, pss_one (ps_ost (pe_var (i := 0) rfl v1 (by decide) (by decide)) (pe_var (i := 1) rfl v2 d1 d2)), ?_⟩
    refine ⟨v, rfl, .ref a, rfl, a, _, rfl, oe, n1, .inl ⟨ha, fun dx hd hne => ?_⟩⟩
    exact q dx _ hd hne upd_same (by rw [upd_ne hne]; exact upd_same) fun b h1 h2 => by rw [upd_ne h1, upd_ne h2]
theorem ok_ini2 {q1 q2 q3 q4 r1 r2 r3 r4 : Pos} (F : FunD K x qual params [.Assign [.Attribute (.Name "self" q1) f1 q2] (.Name f1 q3) q4, .Assign [.Attribute (.Name "self" r1) f2 r2] (.Name f2 r3) r4] scope [] [] f fd) (sc : FnScope ["self", f1, f2] ["self", f1, f2] scope) (oe : OexC K C) (n1 : PySem.W.findIn K (.ref C) f1 = some none) (n2 : PySem.W.findIn K (.ref C) f2 = some none)
    (v1 : Vis scope "self") (v2 : Vis scope f1) (v3 : Vis scope f2) (d1 : (f1 == ("__debug__" : Str)) = false) (d2 : (f1 == ("__classdict__" : Str)) = false) (d3 : (f2 == ("__debug__" : Str)) = false) (d4 : (f2 == ("__classdict__" : Str)) = false) : FnOk P w K mg base (L2.CX P w) 1 f fd ["self", f1, f2] (spXIC C [f1, f2]) := by
  refine F.ok sc (fun vs H Q E h => ?_) (fun cdv A outer s H vs Q E hr h => ?_)
  · obtain ⟨a, ws, rfl, hl, _⟩ := h
    simp [hl]
  · obtain ⟨a, ws, rfl, hl, ha, q⟩ := h
    obtain ⟨v, u, rfl⟩ : ∃ v u, ws = [v, u] := by
      match ws, hl with
      | [v, u], _ => exact ⟨v, u, rfl⟩
    refine ⟨_, pss_cons (ps_ost (pe_var (i := 0) rfl v1 (by decide) (by decide)) (pe_var (i := 1) rfl v2 d1 d2)) (pss_one (ps_ost (pe_var (i := 0) rfl v1 (by decide) (by decide)) (pe_var (i := 2) rfl v3 d3 d4))), ?_⟩
    refine ⟨v, rfl, .ref a, rfl, a, _, rfl, oe, n1, .inl ⟨ha, fun dx hd hne => ?_⟩⟩
    refine ⟨u, rfl, .ref a, rfl, a, _, rfl, oe, n2, .inr ⟨dx, _, upd_same, by rw [upd_ne hne]; exact upd_same, by show 1 ≤ 900; decide, ?_⟩⟩
    exact q dx _ hd hne (by rw [upd_ne (Ne.symm hne)]; exact upd_same) upd_same fun b h1 h2 => by rw [upd_ne h2, upd_ne h1, upd_ne h2]
end
end DL
set_option Elab.async false
set_option linter.all false
set_option maxRecDepth 100000
set_option maxHeartbeats 4000000
namespace L2
open PySem PySem.Spec PyProof.Rows
section
variable {X : Cx} {a b : Expr} {ta : TE} {t : TEw} {pos : Pos}
end
end L2
set_option Elab.async false
set_option linter.all false
set_option maxRecDepth 100000
set_option maxHeartbeats 400000
namespace DL
open PySem PySem.Spec PyProof.Rows L2
section
variable {X : Cx} {W : WX} {a e : Expr} {op : CmpOp} {sts els : List Stmt} {δ : DEnv} {I : Iv X.K} {pos p1 p2 p3 : Pos} {κ : Ko X.K} {x' : Str}
end
end DL
set_option Elab.async false
set_option linter.all false
set_option maxRecDepth 100000
set_option maxHeartbeats 4000000
namespace L2
open PySem PySem.Spec PyProof.Rows
section
variable {X : Cx} {es : List Expr} {t : TA} {pos : Pos}
end
end L2
namespace DL
open PySem PySem.Spec PyProof.Rows L2
section
variable {X : Cx} {W : WX} {R : Rx X.K} {a b o e : Expr} {es : List Expr} {δ : DEnv} {I : Iv X.K} {P : D → Iv X.K → Prop} {pos p apos : Pos} {d z : D} {ds fs : List D} {ss : List Str} {k : Str}
end
end DL
set_option Elab.async false
set_option linter.all false
set_option maxRecDepth 100000
set_option maxHeartbeats 4000000
namespace DL
open PySem PySem.Spec PyProof.Rows L2
section
variable {P : Program} {w : World} {K : PySem.W.Frag} {mg : Str → Option Value} {base : Heap} {x qual : Str} {params : Arguments} {body : List Stmt} {scope : Scope} {f : Addr} {fd : FuncData} {ps ks : List Str} {k n : Nat} {S : Spec K} {kws : List (Str × V)}
end
section
variable {K : PySem.W.Frag} {G : Hp} {α : Type} {f : α → List D}
end
end DL
set_option Elab.async false
set_option linter.all false
set_option maxRecDepth 100000
set_option maxHeartbeats 4000000
namespace LK
open PySem PySem.Spec PyProof.Rows L2 DL
def top (i : Nat) : Stmt := PySem.Challenge.pw_linesharing_k03_casts_refused.main.body.getD i (.Pass ⟨0, 0, 0, 0⟩)
abbrev m_InvalidWrite_init : Stmt := inClass (top 3) 0
theorem sc_m_InvalidWrite_init : FnScope ["self", "part"] ["self", "part"] (defScope m_InvalidWrite_init) := ⟨rfl, rfl, rfl, by decide +kernel, rfl, by decide +kernel, by decide +kernel⟩
abbrev m_InvalidCast_init : Stmt := inClass (top 4) 0
theorem sc_m_InvalidCast_init : FnScope ["self", "name", "number"] ["self", "name", "number"] (defScope m_InvalidCast_init) := ⟨rfl, rfl, rfl, by decide +kernel, rfl, by decide +kernel, by decide +kernel⟩
abbrev m_UnknownWork_init : Stmt := inClass (top 5) 0
abbrev m_Clash_init : Stmt := inClass (top 6) 0
abbrev f_is_text : Stmt := top 22
theorem sc_f_is_text : FnScope ["value", "sign"] ["value"] (defScope f_is_text) := ⟨rfl, rfl, rfl, by decide +kernel, rfl, by decide +kernel, by decide +kernel⟩
abbrev f_is_name : Stmt := top 23
theorem sc_f_is_name : FnScope ["value", "sign"] ["value"] (defScope f_is_name) := ⟨rfl, rfl, rfl, by decide +kernel, rfl, by decide +kernel, by decide +kernel⟩
abbrev f_is_one_of : Stmt := top 24
theorem sc_f_is_one_of : FnScope ["value", "words"] ["value", "words"] (defScope f_is_one_of) := ⟨rfl, rfl, rfl, by decide +kernel, rfl, by decide +kernel, by decide +kernel⟩
abbrev m_Write_init : Stmt := inClass (top 25) 1
theorem sc_m_Write_init : FnScope ["self", "kind", "text", "lead", "tail"] ["self", "kind", "text", "lead", "tail"] (defScope m_Write_init) := ⟨rfl, rfl, rfl, by decide +kernel, rfl, by decide +kernel, by decide +kernel⟩
abbrev m_Write_kind : Stmt := inClass (top 25) 2
theorem sc_m_Write_kind : FnScope ["self"] ["self"] (defScope m_Write_kind) := ⟨rfl, rfl, rfl, by decide +kernel, rfl, by decide +kernel, by decide +kernel⟩
abbrev m_Write_text : Stmt := inClass (top 25) 3
abbrev m_Write_lead : Stmt := inClass (top 25) 4
abbrev m_Write_tail : Stmt := inClass (top 25) 5
abbrev m_Write_len : Stmt := inClass (top 25) 7
abbrev m_Write_eq : Stmt := inClass (top 25) 8
abbrev f_look_at_writes : Stmt := top 26
theorem sc_f_look_at_writes : FnScope ["name", "writes", "kinds", "number", "kind", "is_alone", "write"] ["name", "writes"] (defScope f_look_at_writes) := ⟨rfl, rfl, rfl, by decide +kernel, rfl, by decide +kernel, by decide +kernel⟩
abbrev m_Cast_init : Stmt := inClass (top 27) 1
theorem sc_m_Cast_init : FnScope ["self", "works", "name"] ["self", "works"] (defScope m_Cast_init) := ⟨rfl, rfl, rfl, by decide +kernel, rfl, by decide +kernel, by decide +kernel⟩
abbrev m_Cast_names : Stmt := inClass (top 27) 2
abbrev m_Cast_getitem : Stmt := inClass (top 27) 3
abbrev m_Cast_contains : Stmt := inClass (top 27) 4
abbrev m_Cast_iter : Stmt := inClass (top 27) 5
abbrev m_Cast_len : Stmt := inClass (top 27) 6
abbrev m_Cast_eq : Stmt := inClass (top 27) 7
abbrev m_Cast_add : Stmt := inClass (top 27) 8
abbrev f_Lmix : Stmt := top 29
theorem sc_f_Lmix : FnScope ["_law_script", "_law_seed", "_law_state", "_law_cell"] ["_law_script", "_law_seed"] (defScope f_Lmix) := ⟨rfl, rfl, rfl, by decide +kernel, rfl, by decide +kernel, by decide +kernel⟩
abbrev f_Lnext : Stmt := top 30
theorem sc_f_Lnext : FnScope ["_law_h", "_law_bound", "_law_cell"] ["_law_h", "_law_bound"] (defScope f_Lnext) := ⟨rfl, rfl, rfl, by decide +kernel, rfl, by decide +kernel, by decide +kernel⟩
abbrev f_Lletters : Stmt := top 31
theorem sc_f_Lletters : FnScope ["_law_h", "_law_most", "_law_signs", "_law_size", "_law_k"] ["_law_h", "_law_most"] (defScope f_Lletters) := ⟨rfl, rfl, rfl, by decide +kernel, rfl, by decide +kernel, by decide +kernel⟩
abbrev f_Lone : Stmt := top 32
theorem sc_f_Lone : FnScope ["_law_h", "_law_form", "_law_most", "_law_words", "_law_ahead", "_law_behind"] ["_law_h", "_law_form", "_law_most"] (defScope f_Lone) := ⟨rfl, rfl, rfl, by decide +kernel, rfl, by decide +kernel, by decide +kernel⟩
abbrev f_Lrowof : Stmt := top 33
theorem sc_f_Lrowof : FnScope ["_law_h", "_law_many", "_law_most", "_law_found", "_law_form"] ["_law_h", "_law_many", "_law_most"] (defScope f_Lrowof) := ⟨rfl, rfl, rfl, by decide +kernel, rfl, by decide +kernel, by decide +kernel⟩
abbrev f_Lthings : Stmt := top 34
theorem sc_f_Lthings : FnScope ["_law_one_here"] ["_law_one_here"] (defScope f_Lthings) := ⟨rfl, rfl, rfl, by decide +kernel, rfl, by decide +kernel, by decide +kernel⟩
abbrev f_Ldue : Stmt := top 35
theorem sc_f_Ldue : FnScope ["_law_t", "_law_name", "_law_forms", "_law_k", "_law_sign", "_law_one_here"] ["_law_t"] (defScope f_Ldue) := ⟨rfl, rfl, rfl, by decide +kernel, rfl, by decide +kernel, by decide +kernel⟩
abbrev f_Lspoil : Stmt := top 36
theorem sc_f_Lspoil : FnScope ["_law_h", "_law_t", "_law_name", "_law_turn", "_law_at", "_law_more"] ["_law_h", "_law_t"] (defScope f_Lspoil) := ⟨rfl, rfl, rfl, by decide +kernel, rfl, by decide +kernel, by decide +kernel⟩
abbrev f_law : Stmt := top 37
theorem sc_f_law : FnScope ["_law_script", "_law_h", "_law_t", "_law_name", "_law_turn", "_law_due_here", "_law_names", "_law_told", "_law_made", "e", "_law_one_here"] ["_law_script"] (defScope f_law) := ⟨rfl, rfl, rfl, by decide +kernel, rfl, by decide +kernel, by decide +kernel⟩
abbrev tfL : List He.Defn := []
abbrev FnP (K : PySem.W.Frag) (x qual : Str) (st : Stmt) (f : Addr) (fd : FuncData) : Prop := FunD K x qual (defArgs st) (defBody st) (defScope st) [] [] f fd
abbrev d_m_InvalidWrite_init : He.DefD := dM "InvalidWrite" "__init__" "InvalidWrite.__init__" m_InvalidWrite_init
abbrev d_m_InvalidCast_init : He.DefD := dM "InvalidCast" "__init__" "InvalidCast.__init__" m_InvalidCast_init
abbrev d_m_UnknownWork_init : He.DefD := dM "UnknownWork" "__init__" "UnknownWork.__init__" m_UnknownWork_init
abbrev d_m_Clash_init : He.DefD := dM "Clash" "__init__" "Clash.__init__" m_Clash_init
abbrev d_f_is_text : He.DefD := dF "is_text" f_is_text
abbrev d_f_is_name : He.DefD := dF "is_name" f_is_name
abbrev d_f_is_one_of : He.DefD := dF "is_one_of" f_is_one_of
abbrev d_m_Write_init : He.DefD := dM "Write" "__init__" "Write.__init__" m_Write_init [] [("lead", .str ""), ("tail", .str "")]
abbrev d_m_Write_kind : He.DefD := dM "Write" "kind" "Write.kind" m_Write_kind
abbrev d_m_Write_text : He.DefD := dM "Write" "text" "Write.text" m_Write_text
abbrev d_m_Write_lead : He.DefD := dM "Write" "lead" "Write.lead" m_Write_lead
abbrev d_m_Write_tail : He.DefD := dM "Write" "tail" "Write.tail" m_Write_tail
abbrev d_m_Write_len : He.DefD := dM "Write" "__len__" "Write.__len__" m_Write_len
abbrev d_m_Write_eq : He.DefD := dM "Write" "__eq__" "Write.__eq__" m_Write_eq
abbrev d_f_look_at_writes : He.DefD := dF "look_at_writes" f_look_at_writes
abbrev d_m_Cast_init : He.DefD := dM "Cast" "__init__" "Cast.__init__" m_Cast_init
abbrev d_m_Cast_names : He.DefD := dM "Cast" "names" "Cast.names" m_Cast_names
abbrev d_m_Cast_getitem : He.DefD := dM "Cast" "__getitem__" "Cast.__getitem__" m_Cast_getitem
abbrev d_m_Cast_contains : He.DefD := dM "Cast" "__contains__" "Cast.__contains__" m_Cast_contains
abbrev d_m_Cast_iter : He.DefD := dM "Cast" "__iter__" "Cast.__iter__" m_Cast_iter
abbrev d_m_Cast_len : He.DefD := dM "Cast" "__len__" "Cast.__len__" m_Cast_len
abbrev d_m_Cast_eq : He.DefD := dM "Cast" "__eq__" "Cast.__eq__" m_Cast_eq
abbrev d_m_Cast_add : He.DefD := dM "Cast" "__add__" "Cast.__add__" m_Cast_add
abbrev d_f_Lmix : He.DefD := dF "_law_mix" f_Lmix
abbrev d_f_Lnext : He.DefD := dF "_law_next" f_Lnext
abbrev d_f_Lletters : He.DefD := dF "_law_letters" f_Lletters
abbrev d_f_Lone : He.DefD := dF "_law_one" f_Lone
abbrev d_f_Lrowof : He.DefD := dF "_law_rowof" f_Lrowof
abbrev d_f_Lthings : He.DefD := dF "_law_things" f_Lthings
abbrev d_f_Ldue : He.DefD := dF "_law_due" f_Ldue
abbrev d_f_Lspoil : He.DefD := dF "_law_spoil" f_Lspoil
abbrev d_f_law : He.DefD := dF "law" f_law
abbrev fnL : List He.DefD := [d_m_InvalidWrite_init, d_m_InvalidCast_init, d_m_UnknownWork_init, d_m_Clash_init, d_f_is_text, d_f_is_name, d_f_is_one_of, d_m_Write_init, d_m_Write_len, d_m_Write_eq, d_f_look_at_writes, d_m_Cast_init, d_m_Cast_getitem, d_m_Cast_contains, d_m_Cast_iter, d_m_Cast_len, d_m_Cast_eq, d_m_Cast_add, d_f_Lmix, d_f_Lnext, d_f_Lletters, d_f_Lone, d_f_Lrowof, d_f_Lthings, d_f_Ldue, d_f_Lspoil, d_f_law]
abbrev gsL : List He.DefD := [d_m_Write_kind, d_m_Write_text, d_m_Write_lead, d_m_Write_tail, d_m_Cast_names]
def lk0 (K : PySem.W.Frag) : List Bool := [(He.Fa.free "isinstance").ok K,
  (He.Fa.free "str").ok K,
  (He.Fa.free "int").ok K,
  (He.Fa.free "bool").ok K,
  (He.Fa.free "list").ok K,
  (He.Fa.free "tuple").ok K,
  (He.Fa.free "dict").ok K,
  (He.Fa.free "len").ok K,
  (He.Fa.free "all").ok K,
  (He.Fa.free "any").ok K,
  (He.Fa.free "sum").ok K,
  (He.Fa.free "max").ok K,
  (He.Fa.free "min").ok K,
  (He.Fa.free "range").ok K,
  (He.Fa.free "sorted").ok K,
  (He.Fa.free "reversed").ok K,
  (He.Fa.free "enumerate").ok K,
  (He.Fa.free "set").ok K,
  (He.Fa.free "ValueError").ok K,
  (He.Fa.free "TypeError").ok K]
def lk1 (K : PySem.W.Frag) : List Bool := [(He.Fa.free "super").ok K,
  (He.Fa.glo "is_text").ok K,
  (He.Fa.glo "is_name").ok K,
  (He.Fa.glo "is_one_of").ok K,
  (He.Fa.glo "look_at_writes").ok K,
  (He.Fa.glo "_law_mix").ok K,
  (He.Fa.glo "_law_next").ok K,
  (He.Fa.glo "_law_letters").ok K,
  (He.Fa.glo "_law_one").ok K,
  (He.Fa.glo "_law_rowof").ok K,
  (He.Fa.glo "_law_things").ok K,
  (He.Fa.glo "_law_due").ok K,
  (He.Fa.glo "_law_spoil").ok K,
  (He.Fa.glo "law").ok K,
  (He.Fa.glo "LineError").ok K,
  (He.Fa.glo "InvalidWrite").ok K,
  (He.Fa.glo "InvalidCast").ok K,
  (He.Fa.glo "UnknownWork").ok K,
  (He.Fa.glo "Clash").ok K,
  (He.Fa.glo "Write").ok K]
def lk2 (K : PySem.W.Frag) : List Bool := [(He.Fa.glo "Cast").ok K,
  PySem.W.keepIn K (.ref (He.ga K "is_text")),
  PySem.W.keepIn K (.ref (He.ga K "is_name")),
  PySem.W.keepIn K (.ref (He.ga K "is_one_of")),
  PySem.W.keepIn K (.ref (He.ga K "look_at_writes")),
  PySem.W.keepIn K (.ref (He.ga K "_law_mix")),
  PySem.W.keepIn K (.ref (He.ga K "_law_next")),
  PySem.W.keepIn K (.ref (He.ga K "_law_letters")),
  PySem.W.keepIn K (.ref (He.ga K "_law_one")),
  PySem.W.keepIn K (.ref (He.ga K "_law_rowof")),
  PySem.W.keepIn K (.ref (He.ga K "_law_things")),
  PySem.W.keepIn K (.ref (He.ga K "_law_due")),
  PySem.W.keepIn K (.ref (He.ga K "_law_spoil")),
  PySem.W.keepIn K (.ref (He.ga K "law")),
  (He.Fa.str "LETTERS" ("abcdefghijklmnopqrstuvwxyz")).ok K,
  (He.Fa.str "FIGURES" ("0123456789")).ok K,
  (He.Fa.str "SIGNS" (Str.ofString ("abcdefghijklmnopqrstuvwxyzABCDEFGHIJKLMNOPQRSTUVWXYZ0123456789 !\"#$&'()*+,-./:;<=>?@" ++ "[\\]^_`{|}~"))).ok K,
  (He.Fa.str "SAY" ("say")).ok K,
  (He.Fa.str "ASK" ("ask")).ok K,
  (He.Fa.str "REPLY" ("reply")).ok K]
def lk3 (K : PySem.W.Frag) : List Bool := [(He.Fa.str "SHOW" ("show")).ok K,
  (He.tupB K "KINDS" [He.Dv.str "say", He.Dv.str "ask", He.Dv.str "reply", He.Dv.str "show"] && He.eqO (PySem.W.nsIn K mainGlobals "KINDS") (some (some (.ref (He.ga K "KINDS"))))),
  (He.tupB K "LEADS" [He.Dv.str "", He.Dv.str "return", He.Dv.str "wipe", He.Dv.str "fresh"] && He.eqO (PySem.W.nsIn K mainGlobals "LEADS") (some (some (.ref (He.ga K "LEADS"))))),
  (He.tupB K "TAILS" [He.Dv.str "", He.Dv.str "erase", He.Dv.str "newline"] && He.eqO (PySem.W.nsIn K mainGlobals "TAILS") (some (some (.ref (He.ga K "TAILS"))))),
  (He.Fa.int "MOST_SIGNS" 40).ok K,
  (He.Fa.int "MOST_NAME" 8).ok K,
  (He.Fa.int "MOST_WORKS" 6).ok K,
  (He.Fa.int "MOST_WRITES" 8).ok K,
  exB K "InvalidWrite",
  txB K (He.ga K "InvalidWrite"),
  (He.Fa.noat "InvalidWrite" "part").ok K,
  (He.Fa.exm "InvalidWrite" "InvalidCast" false).ok K,
  decide (PySem.W.kitOne K (.ref (He.ga K "InvalidWrite")) (.ref (He.ga K "LineError")) = some true),
  exB K "InvalidCast",
  txB K (He.ga K "InvalidCast"),
  (He.Fa.noat "InvalidCast" "name").ok K,
  (He.Fa.noat "InvalidCast" "number").ok K,
  (He.Fa.exm "InvalidCast" "InvalidCast" true).ok K,
  decide (PySem.W.kitOne K (.ref (He.ga K "InvalidCast")) (.ref (He.ga K "LineError")) = some true),
  exB K "UnknownWork"]
def lk4 (K : PySem.W.Frag) : List Bool := [txB K (He.ga K "UnknownWork"),
  (He.Fa.noat "UnknownWork" "name").ok K,
  (He.Fa.exm "UnknownWork" "InvalidCast" false).ok K,
  decide (PySem.W.kitOne K (.ref (He.ga K "UnknownWork")) (.ref (He.ga K "LineError")) = some true),
  exB K "Clash",
  txB K (He.ga K "Clash"),
  (He.Fa.noat "Clash" "name").ok K,
  (He.Fa.exm "Clash" "InvalidCast" false).ok K,
  decide (PySem.W.kitOne K (.ref (He.ga K "Clash")) (.ref (He.ga K "LineError")) = some true),
  (He.Fa.mkr "Write").ok K,
  (He.Fa.meth "Write" "__init__").ok K,
  prB K (He.ga K "Write") "kind",
  prB K (He.ga K "Write") "text",
  prB K (He.ga K "Write") "lead",
  prB K (He.ga K "Write") "tail",
  (He.Fa.meth "Write" "__len__").ok K,
  (He.Fa.meth "Write" "__eq__").ok K,
  tclB K (He.ga K "Write"),
  slB K (He.ga K "Write") "mode" 2,
  slB K (He.ga K "Write") "signs" 3]
def lk5 (K : PySem.W.Frag) : List Bool := [slB K (He.ga K "Write") "ahead" 0,
  slB K (He.ga K "Write") "behind" 1,
  decide (PySem.W.kitOne K (.ref (He.ga K "Write")) (.ref (He.ga K "Cast")) = some false),
  (He.Fa.mkr "Cast").ok K,
  (He.Fa.meth "Cast" "__init__").ok K,
  prB K (He.ga K "Cast") "names",
  PySem.W.fnIn K (He.ma K (He.ga K "Cast") "__getitem__"),
  (He.Fa.meth "Cast" "__getitem__").ok K,
  (He.Fa.meth "Cast" "__contains__").ok K,
  (He.Fa.meth "Cast" "__iter__").ok K,
  (He.Fa.meth "Cast" "__len__").ok K,
  (He.Fa.meth "Cast" "__eq__").ok K,
  PySem.W.selfFirst K (He.ga K "Cast"),
  (He.Fa.meth "Cast" "__add__").ok K,
  tclB K (He.ga K "Cast"),
  slB K (He.ga K "Cast") "table" 0,
  decide (PySem.W.kitOne K (.ref (He.ga K "Cast")) (.ref (He.ga K "Write")) = some false)]
def lkL (K : PySem.W.Frag) : Bool := (lk0 K).all id && ((lk1 K).all id && ((lk2 K).all id && ((lk3 K).all id && ((lk4 K).all id && ((lk5 K).all id)))))
structure Env (P : Program) (w : World) (K : PySem.W.Frag) (mg : Str → Option Value) (base : Heap) : Prop where
  lk : lkL K = true
  hp : ∃ h, K.In h ∧ h.Ns mainGlobals mg
  has : ∀ d ∈ fnL, Has K d
  hasG : ∀ d ∈ gsL, HasG K d
  tb : ∀ p ∈ tfL, LamX.TabB base mg (He.cT K p).1 (He.cT K p).2
section
variable {P : Program} {w : World} {K : PySem.W.Frag} {mg : Str → Option Value} {base : Heap}
theorem Env.lk0 (E : Env P w K mg base) : (lk0 K).all id = true := (He.ba E.lk).1
theorem Env.lk1 (E : Env P w K mg base) : (lk1 K).all id = true := (He.ba (He.ba E.lk).2).1
theorem Env.lk2 (E : Env P w K mg base) : (lk2 K).all id = true := (He.ba (He.ba (He.ba E.lk).2).2).1
theorem Env.lk3 (E : Env P w K mg base) : (lk3 K).all id = true := (He.ba (He.ba (He.ba (He.ba E.lk).2).2).2).1
theorem Env.lk4 (E : Env P w K mg base) : (lk4 K).all id = true := (He.ba (He.ba (He.ba (He.ba (He.ba E.lk).2).2).2).2).1
theorem Env.lk5 (E : Env P w K mg base) : (lk5 K).all id = true := (He.ba (He.ba (He.ba (He.ba (He.ba E.lk).2).2).2).2).2
theorem Env.b_isinstance (E : Env P w K mg base) : mg "isinstance" = none := by
  obtain ⟨h, X, G⟩ := E.hp
  exact He.free_ok X G (all_at (E.lk0) 0 (by rfl))
theorem Env.b_str (E : Env P w K mg base) : mg "str" = none := by
  obtain ⟨h, X, G⟩ := E.hp
  exact He.free_ok X G (all_at (E.lk0) 1 (by rfl))
theorem Env.b_int (E : Env P w K mg base) : mg "int" = none := by
  obtain ⟨h, X, G⟩ := E.hp
  exact He.free_ok X G (all_at (E.lk0) 2 (by rfl))
theorem Env.b_list (E : Env P w K mg base) : mg "list" = none := by
  obtain ⟨h, X, G⟩ := E.hp
  exact He.free_ok X G (all_at (E.lk0) 4 (by rfl))
theorem Env.b_tuple (E : Env P w K mg base) : mg "tuple" = none := by
  obtain ⟨h, X, G⟩ := E.hp
  exact He.free_ok X G (all_at (E.lk0) 5 (by rfl))
theorem Env.b_len (E : Env P w K mg base) : mg "len" = none := by
  obtain ⟨h, X, G⟩ := E.hp
  exact He.free_ok X G (all_at (E.lk0) 7 (by rfl))
theorem Env.b_all (E : Env P w K mg base) : mg "all" = none := by
  obtain ⟨h, X, G⟩ := E.hp
  exact He.free_ok X G (all_at (E.lk0) 8 (by rfl))
theorem Env.b_max (E : Env P w K mg base) : mg "max" = none := by
  obtain ⟨h, X, G⟩ := E.hp
  exact He.free_ok X G (all_at (E.lk0) 11 (by rfl))
theorem Env.b_range (E : Env P w K mg base) : mg "range" = none := by
  obtain ⟨h, X, G⟩ := E.hp
  exact He.free_ok X G (all_at (E.lk0) 13 (by rfl))
theorem Env.b_sorted (E : Env P w K mg base) : mg "sorted" = none := by
  obtain ⟨h, X, G⟩ := E.hp
  exact He.free_ok X G (all_at (E.lk0) 14 (by rfl))
theorem Env.b_reversed (E : Env P w K mg base) : mg "reversed" = none := by
  obtain ⟨h, X, G⟩ := E.hp
  exact He.free_ok X G (all_at (E.lk0) 15 (by rfl))
theorem Env.b_enumerate (E : Env P w K mg base) : mg "enumerate" = none := by
  obtain ⟨h, X, G⟩ := E.hp
  exact He.free_ok X G (all_at (E.lk0) 16 (by rfl))
theorem Env.g_is_text (E : Env P w K mg base) : mg "is_text" = some (.ref (He.ga K "is_text")) := by
  obtain ⟨h, X, G⟩ := E.hp
  exact He.glo_ok X G (all_at (E.lk1) 1 (by rfl))
theorem Env.g_is_name (E : Env P w K mg base) : mg "is_name" = some (.ref (He.ga K "is_name")) := by
  obtain ⟨h, X, G⟩ := E.hp
  exact He.glo_ok X G (all_at (E.lk1) 2 (by rfl))
theorem Env.g_is_one_of (E : Env P w K mg base) : mg "is_one_of" = some (.ref (He.ga K "is_one_of")) := by
  obtain ⟨h, X, G⟩ := E.hp
  exact He.glo_ok X G (all_at (E.lk1) 3 (by rfl))
theorem Env.g_look_at_writes (E : Env P w K mg base) : mg "look_at_writes" = some (.ref (He.ga K "look_at_writes")) := by
  obtain ⟨h, X, G⟩ := E.hp
  exact He.glo_ok X G (all_at (E.lk1) 4 (by rfl))
theorem Env.g__law_mix (E : Env P w K mg base) : mg "_law_mix" = some (.ref (He.ga K "_law_mix")) := by
  obtain ⟨h, X, G⟩ := E.hp
  exact He.glo_ok X G (all_at (E.lk1) 5 (by rfl))
theorem Env.g__law_next (E : Env P w K mg base) : mg "_law_next" = some (.ref (He.ga K "_law_next")) := by
  obtain ⟨h, X, G⟩ := E.hp
  exact He.glo_ok X G (all_at (E.lk1) 6 (by rfl))
theorem Env.g__law_letters (E : Env P w K mg base) : mg "_law_letters" = some (.ref (He.ga K "_law_letters")) := by
  obtain ⟨h, X, G⟩ := E.hp
  exact He.glo_ok X G (all_at (E.lk1) 7 (by rfl))
theorem Env.g__law_one (E : Env P w K mg base) : mg "_law_one" = some (.ref (He.ga K "_law_one")) := by
  obtain ⟨h, X, G⟩ := E.hp
  exact He.glo_ok X G (all_at (E.lk1) 8 (by rfl))
theorem Env.g__law_rowof (E : Env P w K mg base) : mg "_law_rowof" = some (.ref (He.ga K "_law_rowof")) := by
  obtain ⟨h, X, G⟩ := E.hp
  exact He.glo_ok X G (all_at (E.lk1) 9 (by rfl))
theorem Env.g__law_things (E : Env P w K mg base) : mg "_law_things" = some (.ref (He.ga K "_law_things")) := by
  obtain ⟨h, X, G⟩ := E.hp
  exact He.glo_ok X G (all_at (E.lk1) 10 (by rfl))
theorem Env.g__law_due (E : Env P w K mg base) : mg "_law_due" = some (.ref (He.ga K "_law_due")) := by
  obtain ⟨h, X, G⟩ := E.hp
  exact He.glo_ok X G (all_at (E.lk1) 11 (by rfl))
theorem Env.g__law_spoil (E : Env P w K mg base) : mg "_law_spoil" = some (.ref (He.ga K "_law_spoil")) := by
  obtain ⟨h, X, G⟩ := E.hp
  exact He.glo_ok X G (all_at (E.lk1) 12 (by rfl))
theorem Env.g_law (E : Env P w K mg base) : mg "law" = some (.ref (He.ga K "law")) := by
  obtain ⟨h, X, G⟩ := E.hp
  exact He.glo_ok X G (all_at (E.lk1) 13 (by rfl))
theorem Env.g_LineError (E : Env P w K mg base) : mg "LineError" = some (.ref (He.ga K "LineError")) := by
  obtain ⟨h, X, G⟩ := E.hp
  exact He.glo_ok X G (all_at (E.lk1) 14 (by rfl))
theorem Env.g_InvalidCast (E : Env P w K mg base) : mg "InvalidCast" = some (.ref (He.ga K "InvalidCast")) := by
  obtain ⟨h, X, G⟩ := E.hp
  exact He.glo_ok X G (all_at (E.lk1) 16 (by rfl))
theorem Env.g_Write (E : Env P w K mg base) : mg "Write" = some (.ref (He.ga K "Write")) := by
  obtain ⟨h, X, G⟩ := E.hp
  exact He.glo_ok X G (all_at (E.lk1) 19 (by rfl))
theorem Env.g_Cast (E : Env P w K mg base) : mg "Cast" = some (.ref (He.ga K "Cast")) := by
  obtain ⟨h, X, G⟩ := E.hp
  exact He.glo_ok X G (all_at (E.lk2) 0 (by rfl))
theorem Env.c_LETTERS (E : Env P w K mg base) : ∃ t, mg "LETTERS" = some (.str ("abcdefghijklmnopqrstuvwxyz") t) := by
  obtain ⟨h, X, G⟩ := E.hp
  exact He.str_ok X G (all_at (E.lk2) 14 (by rfl))
theorem Env.c_SIGNS (E : Env P w K mg base) : ∃ t, mg "SIGNS" = some (.str (Str.ofString ("abcdefghijklmnopqrstuvwxyzABCDEFGHIJKLMNOPQRSTUVWXYZ0123456789 !\"#$&'()*+,-./:;<=>?@" ++ "[\\]^_`{|}~")) t) := by
  obtain ⟨h, X, G⟩ := E.hp
  exact He.str_ok X G (all_at (E.lk2) 16 (by rfl))
theorem Env.c_ASK (E : Env P w K mg base) : ∃ t, mg "ASK" = some (.str ("ask") t) := by
  obtain ⟨h, X, G⟩ := E.hp
  exact He.str_ok X G (all_at (E.lk2) 18 (by rfl))
theorem Env.c_REPLY (E : Env P w K mg base) : ∃ t, mg "REPLY" = some (.str ("reply") t) := by
  obtain ⟨h, X, G⟩ := E.hp
  exact He.str_ok X G (all_at (E.lk2) 19 (by rfl))
theorem Env.c_KINDS (E : Env P w K mg base) : GTup K mg "KINDS" ((["say", "ask", "reply", "show"] : List Str).map D.str) := by
  obtain ⟨h, X, G⟩ := E.hp
  exact gtup_of X G (He.ba (all_at (E.lk3) 1 (by rfl))).1 (He.ba (all_at (E.lk3) 1 (by rfl))).2 rfl
theorem Env.c_LEADS (E : Env P w K mg base) : GTup K mg "LEADS" ((["", "return", "wipe", "fresh"] : List Str).map D.str) := by
  obtain ⟨h, X, G⟩ := E.hp
  exact gtup_of X G (He.ba (all_at (E.lk3) 2 (by rfl))).1 (He.ba (all_at (E.lk3) 2 (by rfl))).2 rfl
theorem Env.c_TAILS (E : Env P w K mg base) : GTup K mg "TAILS" ((["", "erase", "newline"] : List Str).map D.str) := by
  obtain ⟨h, X, G⟩ := E.hp
  exact gtup_of X G (He.ba (all_at (E.lk3) 3 (by rfl))).1 (He.ba (all_at (E.lk3) 3 (by rfl))).2 rfl
theorem Env.c_MOST_SIGNS (E : Env P w K mg base) : ∃ t, mg "MOST_SIGNS" = some (.int 40 t) := by
  obtain ⟨h, X, G⟩ := E.hp
  exact He.int_ok X G (all_at (E.lk3) 4 (by rfl))
theorem Env.c_MOST_NAME (E : Env P w K mg base) : ∃ t, mg "MOST_NAME" = some (.int 8 t) := by
  obtain ⟨h, X, G⟩ := E.hp
  exact He.int_ok X G (all_at (E.lk3) 5 (by rfl))
theorem Env.c_MOST_WORKS (E : Env P w K mg base) : ∃ t, mg "MOST_WORKS" = some (.int 6 t) := by
  obtain ⟨h, X, G⟩ := E.hp
  exact He.int_ok X G (all_at (E.lk3) 6 (by rfl))
theorem Env.c_MOST_WRITES (E : Env P w K mg base) : ∃ t, mg "MOST_WRITES" = some (.int 8 t) := by
  obtain ⟨h, X, G⟩ := E.hp
  exact He.int_ok X G (all_at (E.lk3) 7 (by rfl))
theorem Env.x_InvalidWrite (E : Env P w K mg base) : TExc K mg "InvalidWrite" := by
  obtain ⟨h, X, G⟩ := E.hp
  exact exB_ok X G (all_at (E.lk3) 8 (by rfl))
theorem Env.f_InvalidWrite_part (E : Env P w K mg base) : PySem.W.findIn K (.ref (He.ga K "InvalidWrite")) "part" = some none := He.noat_ok (all_at (E.lk3) 10 (by rfl))
theorem Env.x_InvalidCast (E : Env P w K mg base) : TExc K mg "InvalidCast" := by
  obtain ⟨h, X, G⟩ := E.hp
  exact exB_ok X G (all_at (E.lk3) 13 (by rfl))
theorem Env.t_InvalidCast (E : Env P w K mg base) : TXf K (He.ga K "InvalidCast") := txB_ok (all_at (E.lk3) 14 (by rfl))
theorem Env.f_InvalidCast_name (E : Env P w K mg base) : PySem.W.findIn K (.ref (He.ga K "InvalidCast")) "name" = some none := He.noat_ok (all_at (E.lk3) 15 (by rfl))
theorem Env.f_InvalidCast_number (E : Env P w K mg base) : PySem.W.findIn K (.ref (He.ga K "InvalidCast")) "number" = some none := He.noat_ok (all_at (E.lk3) 16 (by rfl))
theorem Env.xm_InvalidCast_InvalidCast (E : Env P w K mg base) : PySem.W.exmOne K (.ref (He.ga K "InvalidCast")) (.ref (He.ga K "InvalidCast")) = some true := of_decide_eq_true (all_at (E.lk3) 17 (by rfl))
theorem Env.ki_InvalidCast_LineError (E : Env P w K mg base) : PySem.W.kitOne K (.ref (He.ga K "InvalidCast")) (.ref (He.ga K "LineError")) = some true := of_decide_eq_true (all_at (E.lk3) 18 (by rfl))
theorem Env.m_Write (E : Env P w K mg base) : Mk K (He.ga K "Write") (He.ma K (He.ga K "Write") "__init__") := He.mkr_ok (all_at (E.lk4) 9 (by rfl))
theorem Env.p_Write_kind (E : Env P w K mg base) : PropC K (He.ga K "Write") "kind" (He.ma K (He.ga K "Write") "kind") (gtr K (He.ga K "Write") "kind") := prB_ok (all_at (E.lk4) 11 (by rfl))
theorem Env.k_Write (E : Env P w K mg base) : TCls K (He.ga K "Write") := tclB_ok (all_at (E.lk4) 17 (by rfl))
theorem Env.s_Write_mode (E : Env P w K mg base) : SlX.Slot1 K (He.ga K "Write") "mode" (He.ma K (He.ga K "Write") "mode") 2 := slB_ok (all_at (E.lk4) 18 (by rfl))
theorem Env.s_Write_signs (E : Env P w K mg base) : SlX.Slot1 K (He.ga K "Write") "signs" (He.ma K (He.ga K "Write") "signs") 3 := slB_ok (all_at (E.lk4) 19 (by rfl))
theorem Env.s_Write_ahead (E : Env P w K mg base) : SlX.Slot1 K (He.ga K "Write") "ahead" (He.ma K (He.ga K "Write") "ahead") 0 := slB_ok (all_at (E.lk5) 0 (by rfl))
theorem Env.s_Write_behind (E : Env P w K mg base) : SlX.Slot1 K (He.ga K "Write") "behind" (He.ma K (He.ga K "Write") "behind") 1 := slB_ok (all_at (E.lk5) 1 (by rfl))
theorem Env.m_Cast (E : Env P w K mg base) : Mk K (He.ga K "Cast") (He.ma K (He.ga K "Cast") "__init__") := He.mkr_ok (all_at (E.lk5) 3 (by rfl))
theorem Env.k_Cast (E : Env P w K mg base) : TCls K (He.ga K "Cast") := tclB_ok (all_at (E.lk5) 14 (by rfl))
theorem Env.s_Cast_table (E : Env P w K mg base) : SlX.Slot1 K (He.ga K "Cast") "table" (He.ma K (He.ga K "Cast") "table") 0 := slB_ok (all_at (E.lk5) 15 (by rfl))
theorem in_m_InvalidWrite_init : d_m_InvalidWrite_init ∈ fnL := List.mem_of_getElem? (i := 0) rfl
theorem in_m_InvalidCast_init : d_m_InvalidCast_init ∈ fnL := List.mem_of_getElem? (i := 1) rfl
theorem in_f_is_text : d_f_is_text ∈ fnL := List.mem_of_getElem? (i := 4) rfl
theorem in_f_is_name : d_f_is_name ∈ fnL := List.mem_of_getElem? (i := 5) rfl
theorem in_f_is_one_of : d_f_is_one_of ∈ fnL := List.mem_of_getElem? (i := 6) rfl
theorem in_m_Write_init : d_m_Write_init ∈ fnL := List.mem_of_getElem? (i := 7) rfl
theorem in_f_look_at_writes : d_f_look_at_writes ∈ fnL := List.mem_of_getElem? (i := 10) rfl
theorem in_m_Cast_init : d_m_Cast_init ∈ fnL := List.mem_of_getElem? (i := 11) rfl
theorem in_f_Lmix : d_f_Lmix ∈ fnL := List.mem_of_getElem? (i := 18) rfl
theorem in_f_Lnext : d_f_Lnext ∈ fnL := List.mem_of_getElem? (i := 19) rfl
theorem in_f_Lletters : d_f_Lletters ∈ fnL := List.mem_of_getElem? (i := 20) rfl
theorem in_f_Lone : d_f_Lone ∈ fnL := List.mem_of_getElem? (i := 21) rfl
theorem in_f_Lrowof : d_f_Lrowof ∈ fnL := List.mem_of_getElem? (i := 22) rfl
theorem in_f_Lthings : d_f_Lthings ∈ fnL := List.mem_of_getElem? (i := 23) rfl
theorem in_f_Ldue : d_f_Ldue ∈ fnL := List.mem_of_getElem? (i := 24) rfl
theorem in_f_Lspoil : d_f_Lspoil ∈ fnL := List.mem_of_getElem? (i := 25) rfl
theorem in_f_law : d_f_law ∈ fnL := List.mem_of_getElem? (i := 26) rfl
theorem in_m_Write_kind : d_m_Write_kind ∈ gsL := List.mem_of_getElem? (i := 0) rfl
theorem Env.ini_InvalidWrite (E : Env P w K mg base) : ∃ fd, FnOk P w K mg base (L2.CX P w) 1 (He.ma K (He.ga K "InvalidWrite") "__init__") fd ["self", "part"] (spXIC (He.ga K "InvalidWrite") ["part"]) ∧ L2.Binds K fd ["self", "part"] [] := by
  obtain ⟨fd, F⟩ := E.has _ in_m_InvalidWrite_init
  exact ⟨fd, ok_ini1 F sc_m_InvalidWrite_init E.x_InvalidWrite.oe E.f_InvalidWrite_part (by first | exact Or.inl rfl | exact Or.inr (Or.inl rfl) | exact Or.inr (Or.inr rfl)) (by first | exact Or.inl rfl | exact Or.inr (Or.inl rfl) | exact Or.inr (Or.inr rfl)) (by decide) (by decide), F.bindsN fun _ _ _ _ _ _ us hl => match us, hl with | [_, _], _ => rfl⟩
theorem Env.ini_InvalidCast (E : Env P w K mg base) : ∃ fd, FnOk P w K mg base (L2.CX P w) 1 (He.ma K (He.ga K "InvalidCast") "__init__") fd ["self", "name", "number"] (spXIC (He.ga K "InvalidCast") ["name", "number"]) ∧ L2.Binds K fd ["self", "name", "number"] [] := by
  obtain ⟨fd, F⟩ := E.has _ in_m_InvalidCast_init
  exact ⟨fd, ok_ini2 F sc_m_InvalidCast_init E.x_InvalidCast.oe E.f_InvalidCast_name E.f_InvalidCast_number (by first | exact Or.inl rfl | exact Or.inr (Or.inl rfl) | exact Or.inr (Or.inr rfl)) (by first | exact Or.inl rfl | exact Or.inr (Or.inl rfl) | exact Or.inr (Or.inr rfl)) (by first | exact Or.inl rfl | exact Or.inr (Or.inl rfl) | exact Or.inr (Or.inr rfl)) (by decide) (by decide) (by decide) (by decide), F.bindsN fun _ _ _ _ _ _ us hl => match us, hl with | [_, _, _], _ => rfl⟩
theorem mk_f_is_text (E : Env P w K mg base) {k : Nat} {S : Spec K} (ok : ∀ fd, FunD K "is_text" "is_text" (defArgs f_is_text) (defBody f_is_text) (defScope f_is_text) [] [] (He.ga K "is_text") fd → FnOk P w K mg base (L2.CX P w) k (He.ga K "is_text") fd ["value"] (spD K S)) : Def P w K mg base "is_text" k ["value"] [] S := by
  obtain ⟨fd, F⟩ := E.has _ in_f_is_text
  exact Def.of E.g_is_text F (ok fd F) fun _ _ _ _ _ _ us hl => match us, hl with | [_], _ => rfl
theorem mk_f_is_name (E : Env P w K mg base) {k : Nat} {S : Spec K} (ok : ∀ fd, FunD K "is_name" "is_name" (defArgs f_is_name) (defBody f_is_name) (defScope f_is_name) [] [] (He.ga K "is_name") fd → FnOk P w K mg base (L2.CX P w) k (He.ga K "is_name") fd ["value"] (spD K S)) : Def P w K mg base "is_name" k ["value"] [] S := by
  obtain ⟨fd, F⟩ := E.has _ in_f_is_name
  exact Def.of E.g_is_name F (ok fd F) fun _ _ _ _ _ _ us hl => match us, hl with | [_], _ => rfl
theorem mk_f_is_one_of (E : Env P w K mg base) {k : Nat} {S : Spec K} (ok : ∀ fd, FunD K "is_one_of" "is_one_of" (defArgs f_is_one_of) (defBody f_is_one_of) (defScope f_is_one_of) [] [] (He.ga K "is_one_of") fd → FnOk P w K mg base (L2.CX P w) k (He.ga K "is_one_of") fd ["value", "words"] (spD K S)) : Def P w K mg base "is_one_of" k ["value", "words"] [] S := by
  obtain ⟨fd, F⟩ := E.has _ in_f_is_one_of
  exact Def.of E.g_is_one_of F (ok fd F) fun _ _ _ _ _ _ us hl => match us, hl with | [_, _], _ => rfl
theorem mk_m_Write_kind (E : Env P w K mg base) {k : Nat} {S : Spec K} (ok : ∀ fd, FunD K "kind" "Write.kind" (defArgs m_Write_kind) (defBody m_Write_kind) (defScope m_Write_kind) [] [] (gtr K (He.ga K "Write") "kind") fd → FnOk P w K mg base (L2.CX P w) k (gtr K (He.ga K "Write") "kind") fd ["self"] (spD K S)) : FnR P w K mg base (L2.CX P w) k (gtr K (He.ga K "Write") "kind") (spD K S) := by
  obtain ⟨fd, F⟩ := E.hasG _ in_m_Write_kind
  exact raw0 (ok fd F) (F.bindsN fun _ _ _ _ _ _ us hl => match us, hl with | [_], _ => rfl)
theorem mk_f_look_at_writes (E : Env P w K mg base) {k : Nat} {S : Spec K} (ok : ∀ fd, FunD K "look_at_writes" "look_at_writes" (defArgs f_look_at_writes) (defBody f_look_at_writes) (defScope f_look_at_writes) [] [] (He.ga K "look_at_writes") fd → FnOk P w K mg base (L2.CX P w) k (He.ga K "look_at_writes") fd ["name", "writes"] (spD K S)) : Def P w K mg base "look_at_writes" k ["name", "writes"] [] S := by
  obtain ⟨fd, F⟩ := E.has _ in_f_look_at_writes
  exact Def.of E.g_look_at_writes F (ok fd F) fun _ _ _ _ _ _ us hl => match us, hl with | [_, _], _ => rfl
theorem mk_f_Lmix (E : Env P w K mg base) {k : Nat} {S : Spec K} (ok : ∀ fd, FunD K "_law_mix" "_law_mix" (defArgs f_Lmix) (defBody f_Lmix) (defScope f_Lmix) [] [] (He.ga K "_law_mix") fd → FnOk P w K mg base (L2.CX P w) k (He.ga K "_law_mix") fd ["_law_script", "_law_seed"] (spD K S)) : Def P w K mg base "_law_mix" k ["_law_script", "_law_seed"] [] S := by
  obtain ⟨fd, F⟩ := E.has _ in_f_Lmix
  exact Def.of E.g__law_mix F (ok fd F) fun _ _ _ _ _ _ us hl => match us, hl with | [_, _], _ => rfl
theorem mk_f_Lnext (E : Env P w K mg base) {k : Nat} {S : Spec K} (ok : ∀ fd, FunD K "_law_next" "_law_next" (defArgs f_Lnext) (defBody f_Lnext) (defScope f_Lnext) [] [] (He.ga K "_law_next") fd → FnOk P w K mg base (L2.CX P w) k (He.ga K "_law_next") fd ["_law_h", "_law_bound"] (spD K S)) : Def P w K mg base "_law_next" k ["_law_h", "_law_bound"] [] S := by
  obtain ⟨fd, F⟩ := E.has _ in_f_Lnext
  exact Def.of E.g__law_next F (ok fd F) fun _ _ _ _ _ _ us hl => match us, hl with | [_, _], _ => rfl
theorem mk_f_Lletters (E : Env P w K mg base) {k : Nat} {S : Spec K} (ok : ∀ fd, FunD K "_law_letters" "_law_letters" (defArgs f_Lletters) (defBody f_Lletters) (defScope f_Lletters) [] [] (He.ga K "_law_letters") fd → FnOk P w K mg base (L2.CX P w) k (He.ga K "_law_letters") fd ["_law_h", "_law_most"] (spD K S)) : Def P w K mg base "_law_letters" k ["_law_h", "_law_most"] [] S := by
  obtain ⟨fd, F⟩ := E.has _ in_f_Lletters
  exact Def.of E.g__law_letters F (ok fd F) fun _ _ _ _ _ _ us hl => match us, hl with | [_, _], _ => rfl
theorem mk_f_Lone (E : Env P w K mg base) {k : Nat} {S : Spec K} (ok : ∀ fd, FunD K "_law_one" "_law_one" (defArgs f_Lone) (defBody f_Lone) (defScope f_Lone) [] [] (He.ga K "_law_one") fd → FnOk P w K mg base (L2.CX P w) k (He.ga K "_law_one") fd ["_law_h", "_law_form", "_law_most"] (spD K S)) : Def P w K mg base "_law_one" k ["_law_h", "_law_form", "_law_most"] [] S := by
  obtain ⟨fd, F⟩ := E.has _ in_f_Lone
  exact Def.of E.g__law_one F (ok fd F) fun _ _ _ _ _ _ us hl => match us, hl with | [_, _, _], _ => rfl
theorem mk_f_Lrowof (E : Env P w K mg base) {k : Nat} {S : Spec K} (ok : ∀ fd, FunD K "_law_rowof" "_law_rowof" (defArgs f_Lrowof) (defBody f_Lrowof) (defScope f_Lrowof) [] [] (He.ga K "_law_rowof") fd → FnOk P w K mg base (L2.CX P w) k (He.ga K "_law_rowof") fd ["_law_h", "_law_many", "_law_most"] (spD K S)) : Def P w K mg base "_law_rowof" k ["_law_h", "_law_many", "_law_most"] [] S := by
  obtain ⟨fd, F⟩ := E.has _ in_f_Lrowof
  exact Def.of E.g__law_rowof F (ok fd F) fun _ _ _ _ _ _ us hl => match us, hl with | [_, _, _], _ => rfl
theorem mk_f_Lthings (E : Env P w K mg base) {k : Nat} {S : Spec K} (ok : ∀ fd, FunD K "_law_things" "_law_things" (defArgs f_Lthings) (defBody f_Lthings) (defScope f_Lthings) [] [] (He.ga K "_law_things") fd → FnOk P w K mg base (L2.CX P w) k (He.ga K "_law_things") fd ["_law_one_here"] (spD K S)) : Def P w K mg base "_law_things" k ["_law_one_here"] [] S := by
  obtain ⟨fd, F⟩ := E.has _ in_f_Lthings
  exact Def.of E.g__law_things F (ok fd F) fun _ _ _ _ _ _ us hl => match us, hl with | [_], _ => rfl
theorem mk_f_Ldue (E : Env P w K mg base) {k : Nat} {S : Spec K} (ok : ∀ fd, FunD K "_law_due" "_law_due" (defArgs f_Ldue) (defBody f_Ldue) (defScope f_Ldue) [] [] (He.ga K "_law_due") fd → FnOk P w K mg base (L2.CX P w) k (He.ga K "_law_due") fd ["_law_t"] (spD K S)) : Def P w K mg base "_law_due" k ["_law_t"] [] S := by
  obtain ⟨fd, F⟩ := E.has _ in_f_Ldue
  exact Def.of E.g__law_due F (ok fd F) fun _ _ _ _ _ _ us hl => match us, hl with | [_], _ => rfl
theorem mk_f_Lspoil (E : Env P w K mg base) {k : Nat} {S : Spec K} (ok : ∀ fd, FunD K "_law_spoil" "_law_spoil" (defArgs f_Lspoil) (defBody f_Lspoil) (defScope f_Lspoil) [] [] (He.ga K "_law_spoil") fd → FnOk P w K mg base (L2.CX P w) k (He.ga K "_law_spoil") fd ["_law_h", "_law_t"] (spD K S)) : Def P w K mg base "_law_spoil" k ["_law_h", "_law_t"] [] S := by
  obtain ⟨fd, F⟩ := E.has _ in_f_Lspoil
  exact Def.of E.g__law_spoil F (ok fd F) fun _ _ _ _ _ _ us hl => match us, hl with | [_, _], _ => rfl
end
end LK
set_option Elab.async false
set_option linter.all false
set_option maxRecDepth 100000
set_option maxHeartbeats 4000000
namespace DL
open PySem PySem.Spec PyProof.Rows L2
def behF (g : Addr → Option Obj) (a : Addr) : List Addr := match g a with
  | some ⟨_, _, .func fd, _⟩ => He.refV fd.code ++ ((He.refV fd.defaults ++ He.refV fd.kwdefaults).flatMap fun b => b :: (match g b with
    | some o => He.refsO o
    | none => []))
  | _ => []
def behM (g : Addr → Option Obj) (a : Addr) : List Addr := match g a with
  | some ⟨_, _, .func _, _⟩ => a :: behF g a
  | some ⟨_, _, .fields vs, _⟩ => a :: ((vs.toList.flatMap He.refV).flatMap fun b => b :: behF g b)
  | some _ => [a]
  | none => []
def behG (g : Addr → Option Obj) (a : Addr) : List Addr := match g a with
  | some ⟨_, _, .func _, _⟩ => behF g a
  | some ⟨_, _, .cls cd, _⟩ => cd.ns :: (match g cd.ns with
    | some o => (He.refsO o).flatMap (behM g)
    | none => [])
  | _ => []
def topG (g : Addr → Option Obj) : List Addr := match g mainGlobals with
  | some o => He.refsO o
  | none => []
def asS (g : Addr → Option Obj) : List Addr := mainGlobals :: (topG g ++ (topG g).flatMap (behG g))
def KS (g : Addr → Option Obj) : PySem.W.Frag := He.frT g (asS g)
def obsS (fn gs : List He.DefD) (tf : List He.Defn) (ex : PySem.W.Frag → Bool) (g : Addr → Option Obj) : AlP := ((He.obsT [] fn [] (KS g), exP gs ex (KS g) && He.tabsB g tf (KS g)), gs.map fun d => fnP (KS g) d.at_)
structure SaysS (fn gs : List He.DefD) (tf : List He.Defn) (ex : PySem.W.Frag → Bool) (w : World) (h : Heap) (K : PySem.W.Frag) : Prop where
  x : He.SaysX [] fn [] tf (exP gs ex) w h K
  g : (gs.map fun d => fnP K d.at_) = gs.map He.DefD.val
theorem SaysS.p {fn gs : List He.DefD} {tf : List He.Defn} {ex : PySem.W.Frag → Bool} {w : World} {h : Heap} {K : PySem.W.Frag} (c : SaysS fn gs tf ex w h K) : SaysP fn gs ex w h K := ⟨⟨c.x.t, c.x.more, (fun _ z => nomatch z), (fun _ z => nomatch z), (fun _ z => nomatch z)⟩, c.g⟩
theorem saysS_of {fn gs : List He.DefD} {tf : List He.Defn} {ex : PySem.W.Frag → Bool} {w : World} {h : Heap} (e : obsS fn gs tf ex h.get? = ((He.valT fn [] w, true), gs.map He.DefD.val)) : SaysS fn gs tf ex w h (KS h.get?) := by
  have e1 : He.obsT [] fn [] (KS h.get?) = He.valT fn [] w := congrArg (fun z : AlP => z.1.1) e
  have e2 : (exP gs ex (KS h.get?) && He.tabsB h.get? tf (KS h.get?)) = true := congrArg (fun z : AlP => z.1.2) e
  have e3 : (gs.map fun d => fnP (KS h.get?) d.at_) = gs.map He.DefD.val := congrArg (fun z : AlP => z.2) e
  obtain ⟨h1, h2⟩ := He.ba e2
  have key : ∀ p ∈ tf, PySem.W.codeHdIn (KS h.get?) (He.cT (KS h.get?) p).1 (He.cT (KS h.get?) p).2 = true ∧ ∃ o, h.get? (He.cT (KS h.get?) p).2 = some o ∧ He.emptyTab o = true := fun p hp => by
    obtain ⟨q1, q2⟩ := He.ba (List.all_eq_true.mp h2 p hp)
    cases q : h.get? (He.cT (KS h.get?) p).2 with
    | none => rw [q] at q2; cases q2
    | some o => rw [q] at q2; exact ⟨q1, o, rfl, q2⟩
  refine ⟨⟨e1, h1, fun p hp => (key p hp).1, fun p hp => ?_, fun p hp => ?_⟩, e3⟩
  · obtain ⟨_, o, q, z⟩ := key p hp
    exact He.frT_none q z
  · obtain ⟨_, o, q, z⟩ := key p hp
    rw [q, He.emptyTab_eq z]
def hookS (fn gs : List He.DefD) (tf : List He.Defn) (ex : PySem.W.Frag → Bool) : PySem.W.Hook where
  α := AlP
  obs := fun s => obsS fn gs tf ex s.heap.get?
  val := fun w => ((He.valT fn [] w, true), gs.map He.DefD.val)
  says := fun w h => ∃ K : PySem.W.Frag, K.In h ∧ SaysS fn gs tf ex w h K
  of := fun _ _ e => ⟨_, He.frT_in, saysS_of e⟩
  keeps := fun _ _ _ ⟨K, hK, c⟩ k => ⟨K, PySem.W.Frag.In.keeps hK k, ⟨⟨c.x.t, c.x.more, c.x.hd, c.x.out, fun p hp => k _ _ (c.x.empty p hp)⟩, c.g⟩⟩
theorem obsS_eq {fn gs : List He.DefD} {tf : List He.Defn} {ex : PySem.W.Frag → Bool} {g : Addr → Option Obj} {s : Shared} (h : ∀ a, g a = s.heap.get? a) : obsS fn gs tf ex g = (show AlP from (hookS fn gs tf ex).obs s) := by
  have e : g = s.heap.get? := funext h
  rw [e]; rfl
end DL
set_option Elab.async false
set_option linter.all false
set_option maxRecDepth 100000
set_option maxHeartbeats 0
namespace LK
open PySem PySem.Spec PyProof.Rows L2 DL
abbrev Rr : PySem.W.OpenRow := PySem.W.OpenLaw.row PySem.Challenge.rw_linesharing_k03_casts_refused
def fn : List He.DefD := fnL
def gs : List He.DefD := gsL
def ex (K : PySem.W.Frag) : Bool := lkL K
abbrev hk : PySem.W.Hook := hookS fn gs [] ex
def ob (s : PySem.W.SharedT) : AlP := obsS fn gs [] ex (HandSHeadRun.getT s)
theorem ob_eq (s : PySem.W.SharedT) : ob s = hk.obs s.abs := obsS_eq (HandSHeadRun.getT_eq s)
def loose0 : List Str := ["_wall", "LineError", "InvalidWrite", "InvalidCast", "UnknownWork", "Clash", "LETTERS", "FIGURES", "SIGNS", "SAY", "ASK", "REPLY", "SHOW", "KINDS", "LEADS", "TAILS", "MOST_SIGNS", "MOST_NAME", "MOST_WORKS", "MOST_WRITES", "is_text", "is_name", "is_one_of", "Write", "look_at_writes", "Cast", "_law_mix", "_law_next", "_law_letters", "_law_one"]
def loose1 : List Str := ["_law_rowof", "_law_things", "_law_due", "_law_spoil"]
def loose : List Str := loose0 ++ loose1
section
open PySem PySem.W HandSHeadRun
theorem join3 {α β1 β2 γ δ ε : Type} {o : Option α} {a1 : α → β1} {a2 : α → β2} {b : α → γ} {c : α → δ} {e : α → ε} {x1 : β1} {x2 : β2} {y1 : γ} {y2 : δ} {y3 : ε} (h1 : o.map (fun s => (a1 s, a2 s)) = some (x1, x2)) (h2 : o.map b = some y1) (h3 : o.map (fun s => (c s, e s)) = some (y2, y3)) : o.map (fun s => (a1 s, a2 s, ((b s, c s), e s))) = some (x1, x2, ((y1, y2), y3)) := by
  cases o with
  | none => cases h1
  | some s =>
    have e1 := Option.some.inj h1
    have e2 := Option.some.inj h2
    have e3 := Option.some.inj h3
    have f1 := congrArg Prod.fst e1
    have f2 := congrArg Prod.snd e1
    have f3 := congrArg Prod.fst e3
    have f4 := congrArg Prod.snd e3
    exact congrArg some (Prod.ext f1 (Prod.ext f2 (Prod.ext (Prod.ext e2 f3) f4)))
noncomputable def EN (w : World) (os : PySem.OsState) : Option PySem.W.SharedT := HandSHeadRun.endF (HandSHeadRun.stepQ (HandSHeadRun.denQ HandSHeadRun.tabQ) Rr.prog w) 30000 Rr.prog w os
theorem run_a (w : World) (os : PySem.OsState) : (EN w os).map (fun s => (HandSHeadRun.looksF Rr.prog (boot_heap w.params) s.abs, HandSHeadRun.seenQ (PySem.W.view Rr.prog [37]) loose (importedModules Rr.prog.main.body) (fun s => xlAt (PySem.W.view Rr.prog [37]) [] s && recOk Rr.toRowW.records s) s.abs)) = some (true, openGood (PySem.W.view Rr.prog [37]) loose) := by kernel_rfl
theorem run_b (w : World) (os : PySem.OsState) : (EN w os).map (fun s => He.obsT [] fn [] (KS (HandSHeadRun.getT s))) = some (He.valT fn [] w) := by kernel_rfl
theorem run_c (w : World) (os : PySem.OsState) : (EN w os).map (fun s => (exP gs ex (KS (HandSHeadRun.getT s)) && He.tabsB (HandSHeadRun.getT s) ([] : List He.Defn) (KS (HandSHeadRun.getT s)), gs.map fun d => fnP (KS (HandSHeadRun.getT s)) d.at_)) = some (true, gs.map He.DefD.val) := by kernel_rfl
theorem run (w : World) : HandSHeadRun.RunEq Rr (PySem.W.view Rr.prog [37]) hk ob 30000 loose w := fun os => join3 (run_a w os) (run_b w os) (run_c w os)
end
end LK
set_option Elab.async false
set_option linter.all false
set_option maxRecDepth 100000
set_option maxHeartbeats 1000000
namespace LK
open PySem PySem.Spec PyProof.Rows L2 DL
abbrev SIGNS : Str := Str.ofString ("abcdefghijklmnopqrstuvwxyzABCDEFGHIJKLMNOPQRSTUVWXYZ0123456789 !\"#$&'()*+,-./:;<=>?@" ++ "[\\]^_`{|}~")
abbrev kinds : List Str := ["say", "ask", "reply", "show"]
abbrev leads : List Str := ["", "return", "wipe", "fresh"]
abbrev tails : List Str := ["", "erase", "newline"]
abbrev cW (K : PySem.W.Frag) : Addr := He.ga K "Write"
section
variable {X : Cx} {W : WX} {es : List Expr} {e : Expr} {δ : DEnv} {I : Iv X.K} {κ : Ko X.K} {pos p pos2 : Pos} {x : Str} {ps ks : List Str}
theorem s_rz (tk : Takes X W) (T : TExc X.K X.mg x) (F1 : ∃ fd, FnOk X.prog X.w X.K X.mg X.base (L2.CX X.prog X.w) 1 (He.ma X.K (He.ga X.K x) "__init__") fd ps (spXIC (He.ga X.K x) ks) ∧ L2.Binds X.K fd ps []) (hr : Room 2 X.A)
    (h : EvA X W (κ.r δ) (e :: es) δ I fun ds I1 => ks.length = ds.length ∧ ds.length ≤ 10 ∧ κ.ex (He.ga X.K x) (ks.zip ds).reverse δ I1) (hc : X.calm = true := by rfl) (hg : Gl X x := by rfl) (hdb : (x == ("__debug__" : Str)) = false := by decide)
    (he : starEach (e :: es) X.env = (false, eval e X.env) :: starEach es X.env := by rfl) (hpl : (backTo pos (starEach es X.env)).any (·.1) = false := by rfl) : S1 X W (.Raise (some (.Call (.Name x p) (e :: es) [] pos)) none pos2) δ I κ := by
  obtain ⟨fd, F, b⟩ := F1
  exact s_raise tk T.oe T.iC T.tI F hr b T.g h hc hg hdb he hpl
end
def isTextD : D → Bool
  | .str s => decide (s.length ≤ 40) && s.cps.toList.all fun c => decide (c ∈ SIGNS.cps.toList)
  | _ => false
def okV (d : D) : Prop := (∃ t, tyD d = some t) ∧ ∀ s, d = .str s → s.length ≤ 100000
def sIsText {K : PySem.W.Frag} : Spec K := fun I ds P _ => ∃ d, ds = [d] ∧ okV d ∧ P (.bl (isTextD d)) I
section
variable {P : Program} {w : World} {K : PySem.W.Frag} {mg : Str → Option Value} {base : Heap} {f : Addr} {fd : FuncData}
theorem ok_is_text (F : FnP K "is_text" "is_text" f_is_text f fd) (E : Env P w K mg base) : FnOk P w K mg base (L2.CX P w) 1 f fd ["value"] (spD K sIsText) := by
  refine fn_d F sc_f_is_text (fun I ds P R h => by obtain ⟨d, rfl, _⟩ := h; rfl) fun cdv A outer s H EE hr tk po I ds Q R h => ?_
  obtain ⟨d, rfl, ⟨⟨t, ht⟩, hz⟩, q⟩ := h
  have nd := sc_f_is_text.nd
  rcases str_or d ht with ⟨z, rfl⟩ | ⟨hk, hn⟩
  · have hl := hz z rfl
    refine s_cons (s_ifP (ptw (ww_or (ptn (pt_v (pv_cb call_isi E.b_isinstance (va_cons (pv_v 0) (va_cons (pv_gty (n := "str") E.b_str) va_nil)) (pn_isiT (t := "str") rfl)))) fun _ => ww_or1 (pt_cmp op_gt (pv_cb call_len_str E.b_len (va_cons (pv_v 0) va_nil) (pn_lenS hl)) (pv_gint E.c_MOST_SIGNS) p2_gt))) (fun e => ?_) fun e => ?_)
    · refine s_one (s_retP pv_bl ?_)
      have e2 : (40 : Int) < z.length := by simpa using e
      have e3 : isTextD (.str z) = false := by simp [isTextD]; omega
      rw [← e3]; exact q
    · refine s_nil ?_
      have e2 : ¬ (40 : Int) < z.length := by simpa using e
      have el : D.lst ((z.cps.toList.map fun c => D.str ⟨#[c]⟩).map fun d => .bl (match d with | .str s => decide (s.cps.toList.headD 0 ∈ SIGNS.cps.toList) | _ => false)) = .lst ((z.cps.toList.map fun c => decide (c ∈ SIGNS.cps.toList)).map D.bl) := by
        rw [List.map_map, List.map_map]; rfl
      refine s_one (s_retP (pv_cb (cr_all rfl) E.b_all (va_cons ((pv_lcMap _ [("sign", 1)] (fun d => [some (.str z), some d]) (vi_str (pv_v 0)) (by rw [List.length_map, Array.length_toList]; exact Nat.le_trans hl (by decide)) (fun d s H C cl fp => bind_name 1) fun d hd J s H C cl fp => ?_).is el) va_nil) pn_all) ?_)
      · obtain ⟨c, hc, rfl⟩ := List.mem_map.mp hd
        exact pv_cmp op_signIn (pv_v 1) (pv_gstr E.c_SIGNS) p2_signIn
      · have e3 : isTextD (.str z) = (z.cps.toList.map fun c => decide (c ∈ SIGNS.cps.toList)).all id := by
          have e4 : (40 : Nat) ≥ z.length := by omega
          simp only [isTextD, List.all_map]
          rw [decide_eq_true e4, Bool.true_and]
          rfl
        rw [← e3]; exact q
  · have e3 : isTextD d = false := by
      cases d <;> first | rfl | exact absurd rfl (hn _)
    refine s_cons (s_ifT (ptw (ww_orT (ptn (k := false) (pt_v (pv_cb call_isi E.b_isinstance (va_cons (pv_v 0) (va_cons (pv_gty (n := "str") E.b_str) va_nil)) (pn_isiF ht hk)))))) (s_one (s_retP pv_bl ?_)))
    rw [← e3]
    exact q
def isOneD (d : D) (ws : List Str) : Bool := match d with
  | .str s => decide (s ∈ ws)
  | _ => false
def sIsOne {K : PySem.W.Frag} : Spec K := fun I ds P _ => ∃ d ws, ds = [d, .tup (List.map D.str ws)] ∧ okV d ∧ P (.bl (isOneD d ws)) I
theorem ok_is_one_of (F : FnP K "is_one_of" "is_one_of" f_is_one_of f fd) (E : Env P w K mg base) : FnOk P w K mg base (L2.CX P w) 1 f fd ["value", "words"] (spD K sIsOne) := by
  refine fn_d F sc_f_is_one_of (fun I ds P R h => by obtain ⟨d, ws, rfl, _⟩ := h; rfl) fun cdv A outer s H EE hr tk po I ds Q R h => ?_
  obtain ⟨d, ws, rfl, ⟨⟨t, ht⟩, hz⟩, q⟩ := h
  rcases str_or d ht with ⟨z, rfl⟩ | ⟨hk, hn⟩
  · exact s_one (s_retP (pv_andT (pv_cb call_isi E.b_isinstance (va_cons (pv_v 0) (va_cons (pv_gty (n := "str") E.b_str) va_nil)) (pn_isiT (t := "str") rfl)) (pv_one (pv_cmp op_in_seq (pv_v 0) (pv_v 1) p2_inStr))) q)
  · have e3 : isOneD d ws = false := by
      cases d <;> first | rfl | exact absurd rfl (hn _)
    rw [e3] at q
    exact s_one (s_retP (pv_andF (pv_cb call_isi E.b_isinstance (va_cons (pv_v 0) (va_cons (pv_gty (n := "str") E.b_str) va_nil)) (pn_isiF ht hk))) q)
end
def isOneT (d : D) (s : Str) : Bool := match d with
  | .str z => decide (z = s)
  | _ => false
def wFault (k t l e : D) : Option Str :=
  if (!isOneD k kinds) = true then some ("kind" : Str) else
  if (!isTextD t || (isOneT t "" && isOneD k ["ask", "reply"])) = true then some ("text" : Str) else
  if (!isOneD l leads || (!isOneT l "" && isOneT k "reply")) = true then some ("lead" : Str) else
  if (!isOneD e tails || (!isOneT e "" && isOneT k "ask")) = true then some ("tail" : Str) else none
def sWInit {K : PySem.W.Frag} : Spec K := fun I ds P R => ∃ (x dx : Addr) (J : Iv K) (k t l e : D), ds = [.adr x, k, t, l, e] ∧ I = J.and (iSl K x (He.ga K "Write") dx []) ∧ okV k ∧ okV t ∧ okV l ∧ okV e ∧
  match wFault k t l e with
  | none => P .non (J.and (iSl K x (He.ga K "Write") dx [some l, some e, some k, some t]))
  | some part => R (He.ga K "InvalidWrite") [("part", .str part)] I
theorem isOneD_str {d : D} {ws : List Str} (h : isOneD d ws = true) : ∃ z, d = .str z := by
  cases d with
  | str z => exact ⟨z, rfl⟩
  | _ => cases h
theorem isTextD_str {d : D} (h : isTextD d = true) : ∃ z, d = .str z := by
  cases d with
  | str z => exact ⟨z, rfl⟩
  | _ => cases h
section
variable {P : Program} {w : World} {K : PySem.W.Frag} {mg : Str → Option Value} {base : Heap} {f : Addr} {fd : FuncData}
theorem ok_wInit {dvs : List V} {kws : List (Str × V)} (F : FunD K "__init__" "Write.__init__" (defArgs m_Write_init) (defBody m_Write_init) (defScope m_Write_init) dvs kws f fd) (E : Env P w K mg base)
    (DT : Def P w K mg base "is_text" 1 ["value"] [] sIsText) (DO : Def P w K mg base "is_one_of" 1 ["value", "words"] [] sIsOne) :
    FnOk P w K mg base (L2.CX P w) 3 f fd ["self", "kind", "text", "lead", "tail"] (spD K sWInit) := by
  refine fn_d F sc_m_Write_init (fun I ds P R h => by obtain ⟨x, dx, J, k, t, l, e, rfl, _⟩ := h; rfl) fun cdv A outer s H EE hr tk po I ds Q R h => ?_
  obtain ⟨x, dx, J, k, t, l, e, rfl, rfl, hk, ht, hl, he, q⟩ := h
  have nd := sc_m_Write_init.nd
  have hr1 : Room 1 _ := hr.mono (by decide)
  -- the kind
  refine s_cons (s_ifP (ptn (pt_v (pv_def DO hr1 (va_cons (pv_v 1) (va_cons (pv_gtup E.c_KINDS) va_nil)) fun P p => ⟨_, _, rfl, hk, p⟩))) (fun e1 => ?_) fun e1 => s_nil ?_)
  · refine s_one (s_rz tk E.x_InvalidWrite E.ini_InvalidWrite (hr.mono (by decide)) (ea_cons (pv_str _ _ _ (ea_nil ⟨rfl, by decide, ?_⟩))))
    have ef : wFault k t l e = some ("kind" : Str) := by unfold wFault; rw [if_pos e1]
    rw [ef] at q
    exact q
  have e1' : isOneD k kinds = true := by simpa using e1
  obtain ⟨zk, rfl⟩ := isOneD_str e1'
  -- the text
  refine s_cons (s_ifP (b := (!isTextD t || (isOneT t "" && isOneD (.str zk) ["ask", "reply"]))) (ptw (ww_or (ptn (pt_v (pv_def DT hr1 (va_cons (pv_v 2) va_nil) fun P p => ⟨_, rfl, ht, p⟩))) fun e2 => ?_)) (fun e2 => ?_) fun e2 => s_nil ?_)
  · have e2' : isTextD t = true := by simpa using e2
    obtain ⟨zt, rfl⟩ := isTextD_str e2'
    exact ww_or1 (ptw (ww_and (pt_cmp op_eq (pv_v 2) pv_str (eqV_str _ _)) fun _ => ww_and1 (pt_cmp op_in_seq (pv_v 1) (pv_tup (va_cons (pv_gstr E.c_ASK) (va_cons (pv_gstr E.c_REPLY) va_nil))) (p2_inStr (ws := ["ask", "reply"])))))
  · refine s_one (s_rz tk E.x_InvalidWrite E.ini_InvalidWrite (hr.mono (by decide)) (ea_cons (pv_str _ _ _ (ea_nil ⟨rfl, by decide, ?_⟩))))
    have ef : wFault (.str zk) t l e = some ("text" : Str) := by unfold wFault; rw [if_neg (by rw [e1']; simp), if_pos e2]
    rw [ef] at q
    exact q
  have e2' : isTextD t = true := by
    cases h : isTextD t with
    | true => rfl
    | false => rw [h] at e2; simp at e2
  obtain ⟨zt, rfl⟩ := isTextD_str e2'
  -- the lead
  refine s_cons (s_ifP (b := (!isOneD l leads || (!isOneT l "" && isOneT (.str zk) "reply"))) (ptw (ww_or (ptn (pt_v (pv_def DO hr1 (va_cons (pv_v 3) (va_cons (pv_gtup E.c_LEADS) va_nil)) fun P p => ⟨_, _, rfl, hl, p⟩))) fun e3 => ?_)) (fun e3 => ?_) fun e3 => s_nil ?_)
  · have e3' : isOneD l leads = true := by simpa using e3
    obtain ⟨zl, rfl⟩ := isOneD_str e3'
    exact ww_or1 (ptw (ww_and (pt_cmp op_ne (pv_v 3) pv_str (neV_str _ _)) fun _ => ww_and1 (pt_cmp op_eq (pv_v 1) (pv_gstr E.c_REPLY) (eqV_str _ _))))
  · refine s_one (s_rz tk E.x_InvalidWrite E.ini_InvalidWrite (hr.mono (by decide)) (ea_cons (pv_str _ _ _ (ea_nil ⟨rfl, by decide, ?_⟩))))
    have ef : wFault (.str zk) (.str zt) l e = some ("lead" : Str) := by unfold wFault; rw [if_neg (by rw [e1']; simp), if_neg (by rw [e2]; simp), if_pos e3]
    rw [ef] at q
    exact q
  -- the tail
  refine s_cons (s_ifP (b := (!isOneD e tails || (!isOneT e "" && isOneT (.str zk) "ask"))) (ptw (ww_or (ptn (pt_v (pv_def DO hr1 (va_cons (pv_v 4) (va_cons (pv_gtup E.c_TAILS) va_nil)) fun P p => ⟨_, _, rfl, he, p⟩))) fun e3 => ?_)) (fun e4 => ?_) fun e4 => s_nil ?_)
  · have e3' : isOneD e tails = true := by simpa using e3
    obtain ⟨zl, rfl⟩ := isOneD_str e3'
    exact ww_or1 (ptw (ww_and (pt_cmp op_ne (pv_v 4) pv_str (neV_str _ _)) fun _ => ww_and1 (pt_cmp op_eq (pv_v 1) (pv_gstr E.c_ASK) (eqV_str _ _))))
  · refine s_one (s_rz tk E.x_InvalidWrite E.ini_InvalidWrite (hr.mono (by decide)) (ea_cons (pv_str _ _ _ (ea_nil ⟨rfl, by decide, ?_⟩))))
    have ef : wFault (.str zk) (.str zt) l e = some ("tail" : Str) := by unfold wFault; rw [if_neg (by rw [e1']; simp), if_neg (by rw [e2]; simp), if_neg (by rw [e3]; simp), if_pos e4]
    rw [ef] at q
    exact q
  have ef : wFault (.str zk) (.str zt) l e = none := by unfold wFault; rw [if_neg (by rw [e1']; simp), if_neg (by rw [e2]; simp), if_neg (by rw [e3]; simp), if_neg (by rw [e4]; simp)]
  rw [ef] at q
  -- the slots
  refine s_cons (s_slot (.r J .here) E.k_Write.sc E.s_Write_mode (pv_v 0) (pv_v 1) ?_)
  refine s_cons (s_slot (.r J .here) E.k_Write.sc E.s_Write_signs (pv_v 0) (pv_v 2) ?_)
  refine s_cons (s_slot (.r J .here) E.k_Write.sc E.s_Write_ahead (pv_v 0) (pv_v 3) ?_)
  refine s_one (s_slot (.r J .here) E.k_Write.sc E.s_Write_behind (pv_v 0) (pv_v 4) ?_)
  exact q
end

def wD (K : PySem.W.Frag) (k t l e : Str) : D := .slo (cW K) [.str l, .str e, .str k, .str t]
def sGet {K : PySem.W.Frag} (i : Nat) : Spec K := fun I ds P _ => ∃ (fs : List D) (d : D), ds = [.slo (cW K) fs] ∧ fs[i]? = some d ∧ P d I
section
variable {P : Program} {w : World} {K : PySem.W.Frag} {mg : Str → Option Value} {base : Heap} {f : Addr} {fd : FuncData}
theorem ok_kind (F : FnP K "kind" "Write.kind" m_Write_kind f fd) (E : Env P w K mg base) : FnOk P w K mg base (L2.CX P w) 1 f fd ["self"] (spD K (sGet 2)) := by
  refine fn_d F sc_m_Write_kind (fun I ds P R h => by obtain ⟨fs, d, rfl, _⟩ := h; rfl) fun cdv A outer s H EE hr tk po I ds Q R h => ?_
  obtain ⟨fs, d, rfl, hd, q⟩ := h
  exact s_one (s_retP (pv_sl E.k_Write.sc E.s_Write_mode (pv_v 0) hd) q)
end
abbrev psW : List Str := ["self", "kind", "text", "lead", "tail"]
section
variable {P : Program} {w : World} {K : PySem.W.Frag} {mg : Str → Option Value} {base : Heap}
theorem D_is_text (E : Env P w K mg base) : Def P w K mg base "is_text" 1 ["value"] [] sIsText := mk_f_is_text E fun fd F => ok_is_text F E
theorem D_is_one_of (E : Env P w K mg base) : Def P w K mg base "is_one_of" 1 ["value", "words"] [] sIsOne := mk_f_is_one_of E fun fd F => ok_is_one_of F E
theorem M_wInit (E : Env P w K mg base) : ∃ fI : FuncData, FnOk P w K mg base (L2.CX P w) 3 (He.ma K (cW K) "__init__") fI psW (spD K sWInit) ∧ (∃ g, KBn K fI psW 3 ["lead", "tail"] g fun vs zs => vs ++ zs) ∧ (∃ g, KBn K fI psW 3 ["tail", "lead"] g fun vs zs => vs ++ zs.reverse) ∧
    ∃ g, KBn K fI psW 3 [] g fun vs _ => vs ++ [V.str "", V.str ""] := by
  obtain ⟨fI, F3⟩ := E.has _ in_m_Write_init
  obtain ⟨_, b1⟩ := FunD.kbinds0 (ps := psW) F3 3 ["lead", "tail"] [] (fun us _ ws => us ++ ws) (by simp [He.DefD.kws, dM, d_m_Write_init]) (fun q hq => by simp at hq) (fun r1 _ r3 => r1.append r3) fun D doc pm an cdv ct us mv ws h1 h2 h3 => by
    match us, mv, ws, h1, h2, h3 with
    | [_, _, _], [], [_, _], _, _, _ => rfl
  obtain ⟨_, b2⟩ := FunD.kbinds0 (ps := psW) F3 3 ["tail", "lead"] [] (fun us _ ws => us ++ ws.reverse) (by simp [He.DefD.kws, dM, d_m_Write_init]) (fun q hq => by simp at hq) (fun r1 _ r3 => r1.append r3.reverse) fun D doc pm an cdv ct us mv ws h1 h2 h3 => by
    match us, mv, ws, h1, h2, h3 with
    | [_, _, _], [], [_, _], _, _, _ => rfl
  obtain ⟨_, b0⟩ := FunD.kbinds0 (ps := psW) F3 3 [] [("lead", V.str ""), ("tail", V.str "")] (fun us ms _ => us ++ ms) (by simp [He.DefD.kws, dM, d_m_Write_init]) (fun q hq => by simpa [He.DefD.kws, dM, d_m_Write_init, He.Dv.v] using hq) (fun r1 r2 _ => r1.append r2) fun D doc pm an cdv ct us mv ws h1 h2 h3 => by
    match us, mv, ws, h1, h2, h3 with
    | [_, _, _], [_, _], [], _, _, _ => exact ⟨_, _, _, _, _, _, rfl, rfl, _, _, _, _, _, _, rfl, rfl, rfl⟩
  exact ⟨fI, ok_wInit F3 E (D_is_text E) (D_is_one_of E), ⟨_, b1⟩, ⟨_, b2⟩, ⟨_, b0⟩⟩
theorem M_kind (E : Env P w K mg base) : FnR P w K mg base (L2.CX P w) 1 (gtr K (cW K) "kind") (spD K (sGet 2)) := mk_m_Write_kind E fun fd F => ok_kind F E
end
structure GoodW (k t l e : Str) : Prop where
  gk : k ∈ kinds
  gl : l ∈ leads
  ge : e ∈ tails
  gr : k = "reply" → l = ""
  ga : k = "ask" → e = ""
  gn : k = "ask" ∨ k = "reply" → 0 < t.length
  gs : ∀ c ∈ t.cps.toList, c ∈ SIGNS.cps.toList
theorem strOk_of {t : Str} (h : ∀ c ∈ t.cps.toList, c ∈ SIGNS.cps.toList) : PyData.strOk t = true := by
  unfold PyData.strOk
  rw [← Array.all_toList]
  refine List.all_eq_true.mpr fun c hc => ?_
  have k : ∀ c ∈ SIGNS.cps.toList, (decide (c < 1114112)) = true := by decide +kernel
  exact k c (h c hc)
theorem len_of {xs : List Str} {n : Nat} (h : xs.all (fun x => decide (x.length ≤ n)) = true) {x : Str} (hx : x ∈ xs) : x.length ≤ n := of_decide_eq_true (List.all_eq_true.mp h x hx)
theorem sok_of {xs : List Str} (h : xs.all (fun x => PyData.strOk x) = true) {x : Str} (hx : x ∈ xs) : PyData.strOk x = true := List.all_eq_true.mp h x hx
section
variable {k t l e : Str}
theorem GoodW.none (g : GoodW k t l e) (h : t.length ≤ 40) : wFault (.str k) (.str t) (.str l) (.str e) = none := by
  have h1 : isOneD (.str k) kinds = true := decide_eq_true g.gk
  have h2 : isTextD (.str t) = true := by
    show (decide (t.length ≤ 40) && t.cps.toList.all fun c => decide (c ∈ SIGNS.cps.toList)) = true
    rw [decide_eq_true h, Bool.true_and]
    exact List.all_eq_true.mpr fun c hc => decide_eq_true (g.gs c hc)
  have h3 : isOneD (.str l) leads = true := decide_eq_true g.gl
  have h4 : isOneD (.str e) tails = true := decide_eq_true g.ge
  unfold wFault
  rw [h1, h2, h3, h4, if_neg (by simp), if_neg, if_neg, if_neg]
  · simp only [isOneT, Bool.not_true, Bool.false_or, Bool.and_eq_true, Bool.not_eq_true', decide_eq_false_iff_not, decide_eq_true_eq, not_and]
    exact fun h5 h6 => h5 (g.ga h6)
  · simp only [isOneT, Bool.not_true, Bool.false_or, Bool.and_eq_true, Bool.not_eq_true', decide_eq_false_iff_not, decide_eq_true_eq, not_and]
    exact fun h5 h6 => h5 (g.gr h6)
  · simp only [isOneT, isOneD, Bool.not_true, Bool.false_or, Bool.and_eq_true, decide_eq_true_eq, not_and]
    intro h5 h6
    have h7 := g.gn (by simpa using h6)
    rw [h5] at h7
    exact absurd h7 (by decide)
theorem GoodW.okk (g : GoodW k t l e) : okV (.str k) := ⟨⟨_, rfl⟩, fun s z => by cases z; exact len_of (by decide +kernel) g.gk⟩
theorem GoodW.okl (g : GoodW k t l e) : okV (.str l) := ⟨⟨_, rfl⟩, fun s z => by cases z; exact len_of (by decide +kernel) g.gl⟩
theorem GoodW.oke (g : GoodW k t l e) : okV (.str e) := ⟨⟨_, rfl⟩, fun s z => by cases z; exact len_of (by decide +kernel) g.ge⟩
theorem GoodW.okt (h : t.length ≤ 40) : okV (.str t) := ⟨⟨_, rfl⟩, fun s z => by cases z; omega⟩
theorem GoodW.bare (g : GoodW k t l e) : GoodW k t "" "" := ⟨g.gk, by decide +kernel, by decide +kernel, fun _ => rfl, fun _ => rfl, g.gn, g.gs⟩
theorem GoodW.okEq (g : GoodW k t l e) : okEq (.tup [.str k, .str t, .str l, .str e]) = true := by
  have e0 : PyData.canLay0 (pyD (.tup [.str k, .str t, .str l, .str e])) = (PyData.strOk k && (PyData.strOk t && (PyData.strOk l && (PyData.strOk e && true)))) := rfl
  have e1 : PyData.depth (pyD (.tup [.str k, .str t, .str l, .str e])) = 1 := rfl
  show (true && (PyData.canLay0 (pyD (.tup [.str k, .str t, .str l, .str e])) && decide (PyData.depth (pyD (.tup [.str k, .str t, .str l, .str e])) ≤ 64))) = true
  rw [e0, e1, sok_of (xs := kinds) (by decide +kernel) g.gk, strOk_of g.gs, sok_of (xs := leads) (by decide +kernel) g.gl, sok_of (xs := tails) (by decide +kernel) g.ge]
  rfl
end
section
variable {X : Cx} {I : Iv X.K} {a b c d e : Expr} {δ : DEnv} {pos p q1 q2 : Pos} {k t l e' : Str}
theorem pv_write (E : Env X.prog X.w X.K X.mg X.base) (hr : Room 4 X.A) (ha : PV X I a δ (.str k)) (hb : PV X I b δ (.str t)) (hl : PV X I c δ (.str l)) (he : PV X I d δ (.str e')) (g : GoodW k t l e') (h : t.length ≤ 40) (hg : Gl X "Write" := by rfl)
    (hall : (backToKw pos (keywordEach [⟨some "lead", c, q1⟩, ⟨some "tail", d, q2⟩] X.env)).all (·.1.isSome) = true := by rfl) (hks : (backToKw pos (keywordEach [⟨some "lead", c, q1⟩, ⟨some "tail", d, q2⟩] X.env)).filterMap (·.1) = (["lead", "tail"] : List Str) := by rfl)
    (h1 : starEach [a, b] X.env = (false, eval a X.env) :: starEach [b] X.env := by rfl) (h2 : starEach [b] X.env = (false, eval b X.env) :: starEach [] X.env := by rfl)
    (hpl : ((backTo pos (starEach [a, b] X.env)).any (·.1) || (backToKw pos (keywordEach [⟨some "lead", c, q1⟩, ⟨some "tail", d, q2⟩] X.env)).any (·.1.isNone)) = false := by rfl) : PV X I (.Call (.Name "Write" p) [a, b] [⟨some "lead", c, q1⟩, ⟨some "tail", d, q2⟩] pos) δ (wD X.K k t l e') := fun W R P pp => by
  obtain ⟨fI, F, ⟨_, b1⟩, _, _⟩ := M_wInit E
  refine EvX.weak (ev_makeSl (fun ds zs => ds ++ zs) takesF E.m_Write F hr E.g_Write b1 (fun r1 r2 => r1.append r2) (ea_cons (ha.ev (ea_cons (hb.ev (ea_nil (ek_cons (hl.ev (ek_cons (he.ev (ek_nil ⟨rfl, rfl, fun y dy na => ?_⟩))))))) h2)) h1) hg (by decide) hall hks h1 hpl)
  refine ⟨y, dy, I, .str k, .str t, .str l, .str e', rfl, rfl, g.okk, GoodW.okt h, g.okl, g.oke, ?_⟩
  rw [g.none h]
  exact ⟨rfl, [.str l, .str e', .str k, .str t], rfl, pp⟩
theorem pv_wkind (E : Env X.prog X.w X.K X.mg X.base) (hr : Room 2 X.A) (ha : PV X I a δ (wD X.K k t l e')) (hb : attributeBase a "kind" X.env (eval a X.env) = eval a X.env := by rfl) : PV X I (.Attribute a "kind" pos) δ (.str k) := pv_prop E.k_Write.sc E.p_Write_kind (M_kind E) hr ha (fun P p => ⟨_, _, rfl, rfl, p⟩) hb
end
end LK
set_option Elab.async false
set_option linter.all false
set_option maxRecDepth 100000
set_option maxHeartbeats 1000000
namespace LK
open PySem PySem.Spec PyProof.Rows L2 DL
abbrev cC (K : PySem.W.Frag) : Addr := He.ga K "Cast"
structure Wr where
  k : Str
  t : Str
  l : Str
  e : Str
deriving DecidableEq
def wr4 (w : Wr) : D := .tup [.str w.k, .str w.t, .str w.l, .str w.e]
abbrev wrD (K : PySem.W.Frag) (w : Wr) : D := wD K w.k w.t w.l w.e
structure GoodR (w : Wr) : Prop where
  g : GoodW w.k w.t w.l w.e
  h : w.t.length ≤ 40
inductive Th where
  | wr (w : Wr)
  | ot (d : D)
def Th.d (K : PySem.W.Frag) : Th → D
  | .wr w => wrD K w
  | .ot d => d
def Th.ok : Th → Prop
  | .wr w => w.k ∈ kinds
  | .ot d => ∃ t, tyD d = some t
def Th.kind : Th → Str
  | .wr w => w.k
  | .ot _ => ""
inductive Wv where
  | ls (ths : List Th)
  | tp (ths : List Th)
  | ot (d : D)
def Wv.d (K : PySem.W.Frag) : Wv → D
  | .ls ths => .lst (ths.map (Th.d K))
  | .tp ths => .tup (ths.map (Th.d K))
  | .ot d => d
def Wv.ths : Wv → List Th
  | .ls ths => ths
  | .tp ths => ths
  | .ot _ => []
def Wv.ok : Wv → Prop
  | .ls ths => (∀ x ∈ ths, x.ok) ∧ ths.length ≤ 1000
  | .tp ths => (∀ x ∈ ths, x.ok) ∧ ths.length ≤ 1000
  | .ot d => ∃ t, tyD d = some t ∧ t ≠ "list" ∧ t ≠ "tuple"
def kindBad (ks : List Str) (k : Str) (i : Nat) : Bool :=
  decide (k = "") || (decide (k = "ask") && !decide ((ks.drop (i + 1)).take 1 = (["reply"] : List Str))) || (decide (k = "reply") && !decide ((ks.take i).drop ((ks.take i).length - 1) = (["ask"] : List Str)))
def kindFault (ks : List Str) : Option Nat := ks.zipIdx.findSome? fun p => if kindBad ks p.1 p.2 = true then some p.2 else none
def lookThs (ths : List Th) : Option (Option Nat) := if 1 ≤ ths.length ∧ ths.length ≤ 8 then (kindFault (ths.map Th.kind)).map some else some none
def lookFault : Wv → Option (Option Nat)
  | .ls ths => lookThs ths
  | .tp ths => lookThs ths
  | .ot _ => some none
def nD : Option Nat → D
  | none => .non
  | some i => .int i
def isNameS (s : Str) : Bool := decide (1 ≤ s.length) && decide (s.length ≤ 8) && s.cps.toList.all fun c => decide (c ∈ (Str.ofString "abcdefghijklmnopqrstuvwxyz").cps.toList)
def sIsName {K : PySem.W.Frag} : Spec K := fun I ds P _ => ∃ s : Str, ds = [.str s] ∧ s.length ≤ 100000 ∧ P (.bl (isNameS s)) I
def xCast (K : PySem.W.Frag) (n : Str) (o : Option Nat) : List (Str × D) := [("number", nD o), ("name", .str n)]
def sLook {K : PySem.W.Frag} : Spec K := fun I ds P R => ∃ (n : Str) (v : Wv), ds = [.str n, v.d K] ∧ v.ok ∧ match lookFault v with
  | none => P .non I
  | some o => R (He.ga K "InvalidCast") (xCast K n o) I
theorem okW_kind : (["say", "ask", "reply", "show", ""] : List Str).all (fun x => PyData.strOk x) = true := by decide +kernel
theorem kind_mem {x : Th} (h : x.ok) : x.kind ∈ (["say", "ask", "reply", "show", ""] : List Str) := by
  cases x with
  | wr w =>
    have h : w.k ∈ kinds := h
    simp only [List.mem_cons, List.not_mem_nil, or_false] at h ⊢
    show w.k = _ ∨ _
    rcases h with h | h | h | h <;> simp [Th.kind, h]
  | ot d => simp [Th.kind]
theorem okS_map {ws : List Str} (h : ∀ x ∈ ws, PyData.strOk x = true) : okEq (.lst (ws.map D.str)) = true := (OkD.lst (n := 0) (OkD.map fun x hx => .str (h x hx))).okEq (by decide)
theorem kind_at {ks : List Str} {p r : List (Str × Nat)} {x : Str × Nat} (e : ks.zipIdx = p ++ x :: r) (hp : ∀ y ∈ p, kindBad ks y.1 y.2 = false) (hx : kindBad ks x.1 x.2 = true) : kindFault ks = some x.2 := by
  unfold kindFault
  rw [e]
  exact findSome_hit (fun y hy => by rw [hp y hy]; rfl) (by rw [if_pos hx])
theorem kind_none {ks : List Str} (hp : ∀ y ∈ ks.zipIdx, kindBad ks y.1 y.2 = false) : kindFault ks = none := by
  unfold kindFault
  rw [List.findSome?_eq_none_iff]
  intro y hy
  rw [hp y hy]; rfl
theorem vi_wv {X : Cx} {I : Iv X.K} {tg iter : Expr} {δ : DEnv} {v : Wv} (hn : ∀ d, v ≠ .ot d) (hp : PV X I iter δ (v.d X.K)) : PVI X I tg iter δ (v.ths.map (Th.d X.K)) := by
  cases v with
  | ls ths' => exact vi_lst hp
  | tp ths' => exact vi_tup hp
  | ot d => exact absurd rfl (hn d)
section
variable {P : Program} {w : World} {K : PySem.W.Frag} {mg : Str → Option Value} {base : Heap}
theorem D_is_name (E : Env P w K mg base) : Def P w K mg base "is_name" 1 ["value"] [] sIsName := mk_f_is_name E fun fd F => by
  refine fn_d F sc_f_is_name (fun I ds P R h => by obtain ⟨d, rfl, _⟩ := h; rfl) fun cdv A outer s H EE hr tk po I ds Q R h => ?_
  obtain ⟨z, rfl, hz, q⟩ := h
  have nd := sc_f_is_name.nd
  refine s_cons (s_ifP (ptw (ww_orF (ptn (k := true) (pt_v (pv_cb call_isi E.b_isinstance (va_cons (pv_v 0) (va_cons (pv_gty (n := "str") E.b_str) va_nil)) (pn_isiT (t := "str") rfl)))) (ww_or1 (ptn (pt_chn op_le op_le pv_int (pv_len E.b_len (pv_w 0 rfl) hz) p2_le (pv_gint E.c_MOST_NAME) p2_le))))) (fun e => ?_) fun e => s_nil ?_)
  · refine s_one (s_retP pv_bl ?_)
    have e2 : isNameS z = false := by
      unfold isNameS
      simp only [Bool.not_eq_true', Bool.and_eq_false_iff, decide_eq_false_iff_not] at e ⊢
      omega
    rw [← e2]; exact q
  · have el : D.lst ((z.cps.toList.map fun c => decide (c ∈ (Str.ofString "abcdefghijklmnopqrstuvwxyz").cps.toList)).map D.bl) = .lst (z.cps.toList.map fun c => .bl (decide (c ∈ (Str.ofString "abcdefghijklmnopqrstuvwxyz").cps.toList))) := by rw [List.map_map]; rfl
    refine s_one (s_retP (pv_cb (cr_all rfl) E.b_all (va_cons (((pv_lcTM (xs := z.cps.toList) (g := fun c => D.str ⟨#[c]⟩) (fun c => .bl (decide (c ∈ (Str.ofString "abcdefghijklmnopqrstuvwxyz").cps.toList))) [("sign", 1)] (fun c => [some (.str z), some (.str ⟨#[c]⟩)]) (vi_str (pv_v 0)) (by rw [Array.length_toList]; exact Nat.le_trans hz (by decide)) (fun d s H C cl fp => bind_name 1) fun c hc J s H C cl fp => pv_cmp op_signIn (pv_v 1) (pv_gstr E.c_LETTERS) p2_signIn)).is el.symm) va_nil) pn_all) ?_)
    have e2 : isNameS z = (z.cps.toList.map fun c => decide (c ∈ (Str.ofString "abcdefghijklmnopqrstuvwxyz").cps.toList)).all id := by
      unfold isNameS
      simp only [Bool.not_eq_false', Bool.and_eq_true, decide_eq_true_eq] at e
      rw [decide_eq_true (show 1 ≤ z.length by omega), decide_eq_true (show z.length ≤ 8 by omega), List.all_map]
      rfl
    rw [← e2]; exact q
theorem D_look (E : Env P w K mg base) : Def P w K mg base "look_at_writes" 3 ["name", "writes"] [] sLook := mk_f_look_at_writes E fun fd F => by
  refine fn_d F sc_f_look_at_writes (fun I ds P R h => by obtain ⟨n, v, rfl, _⟩ := h; rfl) fun cdv A outer s H EE hr tk po I ds Q R h => ?_
  obtain ⟨n, v, rfl, hv, q⟩ := h
  have nd := sc_f_look_at_writes.nd
  have hu := hr.units
  have hr2 : Room 2 _ := hr
  -- no list, no tuple
  have hty : ∃ t, tyD (v.d K) = some t ∧ ((∃ d, v = .ot d ∧ kitB t "list" = some false ∧ kitB t "tuple" = some false) ∨ ((∀ d, v ≠ .ot d) ∧ ∃ b1 b2, kitB t "list" = some b1 ∧ kitB t "tuple" = some b2 ∧ (b1 || b2) = true)) := by
    cases v with
    | ls ths => exact ⟨_, rfl, .inr ⟨(fun d e => nomatch e), true, false, by decide +kernel, by decide +kernel, rfl⟩⟩
    | tp ths => exact ⟨_, rfl, .inr ⟨(fun d e => nomatch e), false, true, by decide +kernel, by decide +kernel, rfl⟩⟩
    | ot d =>
      obtain ⟨t, ht, h1, h2⟩ := hv
      refine ⟨t, ht, .inl ⟨d, rfl, ?_⟩⟩
      have := tyD_in ht
      have k : ∀ u : String, tyNs.contains u = true → u ≠ "list" → u ≠ "tuple" → kitB u "list" = some false ∧ kitB u "tuple" = some false := by
        intro u hu a b
        have hu := List.contains_iff_mem.mp hu
        simp only [List.mem_cons, List.not_mem_nil, or_false] at hu
        rcases hu with rfl | rfl | rfl | rfl | rfl | rfl | rfl
        · exact ⟨by decide +kernel, by decide +kernel⟩
        · exact ⟨by decide +kernel, by decide +kernel⟩
        · exact ⟨by decide +kernel, by decide +kernel⟩
        · exact ⟨by decide +kernel, by decide +kernel⟩
        · exact absurd rfl b
        · exact absurd rfl a
        · exact ⟨by decide +kernel, by decide +kernel⟩
      exact k t this h1 h2
  obtain ⟨t, ht, hc⟩ := hty
  rcases hc with ⟨d, rfl, k1, k2⟩ | ⟨hn, b1, b2, k1, k2, kb⟩
  · refine s_cons (s_ifT (ptw (ww_orT (ptn (k := false) (pt_v (pv_cb call_isiTT E.b_isinstance (va_cons (pv_v 1) (va_cons (pv_tup (va_cons (pv_gty (n := "list") E.b_list) (va_cons (pv_gty (n := "tuple") E.b_tuple) va_nil))) va_nil)) (pn_isiT2 ht (kit2 k1 k2))))))) ?_)
    exact s_one (s_rz (hr := hr2) tk E.x_InvalidCast E.ini_InvalidCast (ea_cons ((pv_v 0).ev (ea_cons (pv_non.ev (ea_nil ⟨rfl, by simp, q⟩))))))
  obtain ⟨ths, hths, hl0, hok, hL, hF⟩ : ∃ ths : List Th, v.ths = ths ∧ itemsD (v.d K) = some (ths.map (Th.d K)) ∧ (∀ x ∈ ths, x.ok) ∧ ths.length ≤ 1000 ∧ lookFault v = lookThs ths := by
    cases v with
    | ls ths => exact ⟨ths, rfl, rfl, hv.1, hv.2, rfl⟩
    | tp ths => exact ⟨ths, rfl, rfl, hv.1, hv.2, rfl⟩
    | ot d => exact absurd rfl (hn d)
  have hlen : ∃ C, LenC (v.d K) ths.length C ∧ C := by
    cases v with
    | ls ths' => subst hths; exact ⟨True, by have := (inferInstance : LenC (.lst (ths'.map (Th.d K))) _ _); rwa [List.length_map] at this, trivial⟩
    | tp ths' => subst hths; exact ⟨True, by have := (inferInstance : LenC (.tup (ths'.map (Th.d K))) _ _); rwa [List.length_map] at this, trivial⟩
    | ot d => exact absurd rfl (hn d)
  obtain ⟨CC, LC, cc⟩ := hlen
  refine s_cons (s_ifP (ptw (ww_orF (ptn (k := true) (pt_v (pv_cb call_isiTT E.b_isinstance (va_cons (pv_v 1) (va_cons (pv_tup (va_cons (pv_gty (n := "list") E.b_list) (va_cons (pv_gty (n := "tuple") E.b_tuple) va_nil))) va_nil)) (pn_isiT2 ht (by rw [← kb]; exact kit2 k1 k2))))) (ww_or1 (ptn (pt_chn op_le op_le pv_int (pv_len E.b_len (pv_w 1 rfl) cc) p2_le (pv_gint E.c_MOST_WRITES) p2_le))))) (fun e => ?_) fun e => s_nil ?_)
  · have e2 : lookFault v = some none := by
      rw [hF]
      unfold lookThs
      rw [if_neg]
      simp only [Bool.not_eq_true', Bool.and_eq_false_iff, decide_eq_false_iff_not] at e
      omega
    rw [e2] at q
    exact s_one (s_rz (hr := hr2) tk E.x_InvalidCast E.ini_InvalidCast (ea_cons ((pv_v 0).ev (ea_cons (pv_non.ev (ea_nil ⟨rfl, by simp, q⟩))))))
  have hsz : 1 ≤ ths.length ∧ ths.length ≤ 8 := by
    simp only [Bool.not_eq_false', Bool.and_eq_true, decide_eq_true_eq] at e
    omega
  have hF2 : lookFault v = (kindFault (ths.map Th.kind)).map some := by rw [hF]; unfold lookThs; rw [if_pos hsz]
  clear hF
  -- the kinds
  have ekk : D.lst (ths.map fun x => D.str x.kind) = .lst ((ths.map Th.kind).map D.str) := by rw [List.map_map]; rfl
  refine s_cons (s_setLc 2 [("write", 6)] (lcM (xs := ths) (g := Th.d K) (fun x => .str x.kind) [("write", 6)] (fun x => [some (.str n), some (v.d K), none, none, none, none, some (x.d K)]) (by rw [← hths]; exact vi_wv hn (pv_v 1)) (by omega) (fun d s H C cl fp => bind_name 6) (fun x hx J s H C cl fp => ?_) ?_))
  · cases x with
    | wr w0 => exact pv_if (k := true) (pt_v (pv_cb (SlX.call_isiSl (.ref (cW K))) E.b_isinstance (va_cons (pv_v (d := wrD K w0) 6) (va_cons (pv_gref E.g_Write) va_nil)) (pn_isiSl E.k_Write.sc E.k_Write.si E.k_Write.kW))) (fun _ => pv_wkind E (hr.mono (by decide)) (pv_v (d := wrD K w0) 6)) (fun z => nomatch z)
    | ot d =>
      obtain ⟨ty, hty⟩ := hok _ hx
      exact pv_if (k := false) (pt_v (pv_cb call_isi E.b_isinstance (va_cons (pv_v (d := d) 6) (va_cons (pv_gref E.g_Write) va_nil)) (pn_isiO hty (E.k_Write.kT _ (tyD_in hty))))) (fun z => nomatch z) (fun _ => pv_str)
  rw [ekk]
  -- each
  have hks : ∀ x ∈ ths.map Th.kind, PyData.strOk x = true := fun x hx => by
    obtain ⟨y, hy, rfl⟩ := List.mem_map.mp hx
    exact List.all_eq_true.mp okW_kind _ (kind_mem (hok y hy))
  have hkl : (ths.map Th.kind).length ≤ 8 := by rw [List.length_map]; exact hsz.2
  clear ekk hok
  generalize ths.map Th.kind = ks at *
  refine s_one (s_forT (xs := ks.zipIdx) (g := fun p => .tup [.int p.2, .str p.1]) po (by rw [← enumD_map]; exact vi_enumL E.b_enumerate (pv_v 2)) (fun p δ' I' => I' = I ∧ (∀ y ∈ p, kindBad ks y.1 y.2 = false) ∧ DLe δ' [some (.str n), some (v.d K), some (.lst (ks.map D.str)), none, none, none, none]) ⟨rfl, (fun y hy => nomatch hy), .of rfl rfl⟩ ?_ ?_)
  · rintro p ⟨k, i⟩ r δ' I' e ⟨rfl, hp, hle⟩
    refine ⟨_, [3, 4], (bind_tup (bs_cons (bind_name 3) (bs_cons (bind_name 4) bs_nil))).le hle, ?_⟩
    have e1 : (↑i + 1 : Int) = ((i + 1 : Nat) : Int) := rfl
    have e2 : (↑i + 2 : Int) = ((i + 2 : Nat) : Int) := rfl
    have a1 : eqD (.lst (cutD (ks.map D.str) (some (↑i + 1)) (some (↑i + 2)))) (.lst [.str "reply"]) = decide ((ks.drop (i + 1)).take 1 = (["reply"] : List Str)) := by
      rw [e1, e2, cut_mid, show i + 2 - (i + 1) = 1 by omega, ← List.map_drop, ← List.map_take, eqD_lst]
      exact Bool.eq_iff_iff.mpr ((Inj.str.eqs _ ["reply"]).trans (by simp))
    have a2 : eqD (.lst (cutD (cutD (ks.map D.str) none (some (i : Int))) (some (-1)) none)) (.lst [.str "ask"]) = decide ((ks.take i).drop ((ks.take i).length - 1) = (["ask"] : List Str)) := by
      rw [cut_take, cut_last, ← List.map_take, List.length_map, ← List.map_drop, eqD_lst]
      exact Bool.eq_iff_iff.mpr ((Inj.str.eqs _ ["ask"]).trans (by simp))
    have o1 : okEq (.lst (cutD (ks.map D.str) (some (↑i + 1)) (some (↑i + 2)))) = true := by
      rw [e1, e2, cut_mid, ← List.map_drop, ← List.map_take]
      exact okS_map fun x hx => hks x (List.mem_of_mem_drop (List.mem_of_mem_take hx))
    have o2 : okEq (.lst (cutD (cutD (ks.map D.str) none (some (i : Int))) (some (-1)) none)) = true := by
      rw [cut_take, cut_last, ← List.map_take, ← List.map_drop]
      exact okS_map fun x hx => hks x (List.mem_of_mem_take (List.mem_of_mem_drop hx))
    refine s_cons (s_setP 5 (pv_andB (pv_eq hu (pv_w 4 rfl) (pv_gstr E.c_ASK) trivial) fun _ => pv_one (pv_ne hu (pv_slL (pv_w 2 rfl) (vo_some (pv_op op_add (pv_w 3 rfl) pv_int p2_add)) (vo_some (pv_op op_add (pv_w 3 rfl) pv_int p2_add))) (pv_lst (va_cons (pv_gstr E.c_REPLY) va_nil)) ⟨o1, by decide +kernel⟩)) ?_)
    refine s_one (s_ifP (ptw (ww_or (pt_eq hu (pv_w 4 rfl) pv_str trivial) fun _ => ww_or (pt_v (pv_w 5 rfl)) fun _ => ww_or1 (ptw (ww_and (pt_eq hu (pv_w 4 rfl) (pv_gstr E.c_REPLY) trivial) fun _ => ww_and1 (pt_ne hu (pv_slL (pv_slL (pv_w 2 rfl) vo_none (vo_some (pv_w 3 rfl))) (vo_some (pv_neg pv_int)) vo_none) (pv_lst (va_cons (pv_gstr E.c_ASK) va_nil)) ⟨o2, by decide +kernel⟩))))) (fun e3 => ?_) fun e3 => s_nil ?_)
    · rw [a1, a2, ← Bool.or_assoc] at e3
      refine s_one (s_rz (hr := hr2) tk E.x_InvalidCast E.ini_InvalidCast (ea_cons ((pv_v 0).ev (ea_cons ((pv_v 3).ev (ea_nil ⟨rfl, by simp, ?_⟩))))))
      rw [hF2, kind_at e hp e3] at q
      exact q
    · rw [a1, a2, ← Bool.or_assoc] at e3
      refine ⟨rfl, fun y hy => ?_, .of rfl rfl⟩
      rcases List.mem_append.mp hy with h | h
      · exact hp y h
      · rw [List.mem_singleton.mp h]; exact e3
  · rintro δ' I' ⟨rfl, hp, hle⟩
    rw [hF2, kind_none hp] at q
    exact q
end
end LK
set_option Elab.async false
set_option linter.all false
set_option maxRecDepth 100000
set_option maxHeartbeats 4000000
namespace L2
open PySem PySem.Spec PyProof.Rows
section
variable {X : Cx}
end
end L2
namespace DL
open PySem PySem.Spec PyProof.Rows L2
section
variable {X : Cx} {W : WX} {R : Rx X.K} {a b e : Expr} {δ : DEnv} {I : Iv X.K} {P : D → Iv X.K → Prop} {pos p : Pos} {d x y : D} {ds : List D} {q : Addr}
end
end DL
set_option Elab.async false
set_option linter.all false
set_option maxRecDepth 100000
set_option maxHeartbeats 4000000
namespace DL
open PySem PySem.Spec PyProof.Rows L2
structure Wk {K : PySem.W.Frag} (I I' : Iv K) : Prop where
  F : ∀ a, I'.F a → I.F a
  φ : ∀ G H, I.φ G H → I'.φ G H
section
variable {K : PySem.W.Frag} {I I' J J' L : Iv K} {G H : Hp}
theorem Hd.wk (w : Wk I I') (h : Hd I G H) : Hd I' G H := ⟨w.φ _ _ h.ph, fun a ha => h.fr a (w.F a ha)⟩
theorem Wk.refl : Wk I I := ⟨fun _ h => h, fun _ _ h => h⟩
theorem Wk.trans (a : Wk I J) (b : Wk J L) : Wk I L := ⟨fun x h => a.F x (b.F x h), fun G H h => b.φ G H (a.φ G H h)⟩
theorem Wk.of (s : Sub I I') : Wk I I' := ⟨fun a h => (s.F a).mp h, s.φ⟩
theorem Wk.eq (e : I = I') : Wk I I' := e ▸ Wk.refl
theorem Wk.and (a : Wk I I') (b : Wk J J') : Wk (I.and J) (I'.and J') := ⟨fun x h => h.imp (a.F x) (b.F x), fun G H h => ⟨a.φ _ _ h.1, b.φ _ _ h.2.1, fun x hx => h.2.2 x ⟨a.F x hx.1, b.F x hx.2⟩⟩⟩
theorem Wk.andL (a : Wk I I') : Wk (I.and J) (I'.and J) := a.and .refl
theorem Wk.andR (a : Wk I I') : Wk (J.and I) (J.and I') := Wk.refl.and a
theorem Wk.fill (s : Wk I I') : ∀ c : Rc K, Wk (c.fill I) (c.fill I')
  | .here => s
  | .l c J => (Wk.fill s c).andL
  | .r J c => (Wk.fill s c).andR
theorem Wk.dropR : Wk (I.and J) I := ⟨fun _ h => .inl h, fun _ _ h => h.1⟩
theorem Wk.dropL : Wk (I.and J) J := ⟨fun _ h => .inr h, fun _ _ h => h.2.1⟩
theorem Wk.comm : Wk (I.and J) (J.and I) := ⟨fun _ h => h.symm, fun _ _ h => ⟨h.2.1, h.1, fun a ha => h.2.2 a ⟨ha.2, ha.1⟩⟩⟩
theorem Wk.assoc : Wk ((I.and J).and L) (I.and (J.and L)) := .of .assoc
theorem Wk.assoc' : Wk (I.and (J.and L)) ((I.and J).and L) := ⟨fun a h => h.elim (fun h => h.elim .inl fun h => .inr (.inl h)) fun h => .inr (.inr h), fun G H ⟨h1, ⟨h2, h3, h4⟩, h5⟩ => ⟨⟨h1, h2, fun a ha => h5 a ⟨ha.1, .inl ha.2⟩⟩, h3, fun a ha => ha.1.elim (fun q => h5 a ⟨q, .inr ha.2⟩) fun q => h4 a ⟨q, ha.2⟩⟩⟩
theorem Wk.swapR : Wk ((I.and J).and L) ((I.and L).and J) := Wk.assoc.trans (Wk.comm.andR.trans Wk.assoc')
theorem Wk.push : ∀ c : Rc K, Wk (c.fill (I.and J)) ((c.fill I).and J)
  | .here => .refl
  | .l c L => (Wk.push c).andL.trans Wk.swapR
  | .r L c => (Wk.push c).andR.trans Wk.assoc'
theorem Wk.inner : ∀ c : Rc K, Wk (c.fill I) I
  | .here => .refl
  | .l c J => Wk.dropR.trans (Wk.inner c)
  | .r J c => Wk.dropL.trans (Wk.inner c)
end
section
variable {X : Cx} {W : WX} {R : Rx X.K} {e : Expr} {es : List Expr} {sts : List Stmt} {st : Stmt} {δ : DEnv} {I I' : Iv X.K} {κ : Ko X.K} {P P' : D → Iv X.K → Prop}
theorem SX.wk (w : Wk I I') (h : SX X W sts δ I' κ) : SX X W sts δ I κ := fun σ G H E hE s hI k => h σ G H E hE s (hI.wk w) k
theorem S1.wk (w : Wk I I') (h : S1 X W st δ I' κ) : S1 X W st δ I κ := fun σ G H E hE s hI k => h σ G H E hE s (hI.wk w) k
theorem EvX.wk (w : Wk I I') (h : EvX X W R e δ I' P) : EvX X W R e δ I P := fun σ G H Q hE s hI qx q => h σ G H Q hE s (hI.wk w) qx q
def Ko.k {K : PySem.W.Frag} (κ : Ko K) : Ko K := ⟨fun δ I => ∃ I', Wk I I' ∧ κ.nx δ I', fun d I => ∃ I', Wk I I' ∧ κ.rt d I', fun δ I => ∃ I', Wk I I' ∧ κ.bk δ I', fun δ I => ∃ I', Wk I I' ∧ κ.ct δ I', fun C fs δ I => ∃ I', Wk I I' ∧ κ.ex C fs δ I'⟩
theorem KoLe.k {E : Ends} {G : Hp} (h : KoLe X.K W E G κ) : KoLe X.K W E G κ.k where
  nx := fun δ σ G' H' I' s1 s2 h1 r ⟨I2, w, p⟩ => h.nx δ σ G' H' I2 s1 s2 (h1.wk w) r p
  rt := fun v d G' H' I' s1 s2 h1 r ⟨I2, w, p⟩ => h.rt v d G' H' I2 s1 s2 (h1.wk w) r p
  bk := fun δ σ G' H' I' s1 s2 h1 r ⟨I2, w, p⟩ => h.bk δ σ G' H' I2 s1 s2 (h1.wk w) r p
  ct := fun δ σ G' H' I' s1 s2 h1 r ⟨I2, w, p⟩ => h.ct δ σ G' H' I2 s1 s2 (h1.wk w) r p
  ex := fun C dd fs l δ σ G' H' I' s1 s2 h1 r q hd ⟨I2, w, p⟩ => h.ex C dd fs l δ σ G' H' I2 s1 s2 (h1.wk w) r q hd p
theorem SX.k (h : SX X W sts δ I κ.k) : SX X W sts δ I κ := fun σ G H E hE s hI k => h σ G H E hE s hI k.k
theorem S1.k (h : S1 X W st δ I κ.k) : S1 X W st δ I κ := fun σ G H E hE s hI k => h σ G H E hE s hI k.k
end
def iRows (K : PySem.W.Frag) : List Addr → List (List D) → Iv K
  | q :: qs, r :: rs => (iLst K q r).and (iRows K qs rs)
  | _, _ => iEmp K
section
variable {K : PySem.W.Frag}
theorem iRows_at : ∀ {qs : List Addr} {rs : List (List D)} {i : Nat} {q : Addr} {r : List D}, qs.length = rs.length → qs[i]? = some q → rs[i]? = some r → ∃ c : Rc K, iRows K qs rs = c.fill (iLst K q r) ∧ ∀ r', c.fill (iLst K q r') = iRows K qs (rs.set i r')
  | q :: qs, r :: rs, 0, _, _, _, hq, hr => by
    cases hq
    cases hr
    exact ⟨.l .here (iRows K qs rs), rfl, fun r' => rfl⟩
  | q :: qs, r :: rs, i + 1, q', r', hl, hq, hr => by
    obtain ⟨c, h1, h2⟩ := iRows_at (qs := qs) (rs := rs) (i := i) (by simpa using hl) (by simpa using hq) (by simpa using hr)
    refine ⟨.r (iLst K q r) c, by show (iLst K q r).and (iRows K qs rs) = _; rw [h1]; rfl, fun r'' => ?_⟩
    show (iLst K q r).and (c.fill (iLst K q' r'')) = _
    rw [h2]; rfl
  | [], _, i, _, _, _, hq, _ => by cases hq
  | _ :: _, [], _, _, _, hl, _, _ => by simp at hl
theorem Wk.rows_app : ∀ {qs qs' : List Addr} {rs rs' : List (List D)}, qs.length = rs.length → Wk ((iRows K qs rs).and (iRows K qs' rs')) (iRows K (qs ++ qs') (rs ++ rs'))
  | [], qs', [], rs', _ => Wk.dropL
  | q :: qs, qs', r :: rs, rs', hl => by
    have ih := Wk.rows_app (qs := qs) (qs' := qs') (rs := rs) (rs' := rs') (by simpa using hl)
    exact Wk.assoc.trans ih.andR
  | [], _, _ :: _, _, hl => by simp at hl
  | _ :: _, _, [], _, hl => by simp at hl
theorem Wk.row1 {q : Addr} {r : List D} : Wk (iLst K q r) (iRows K [q] [r]) := ⟨fun a h => h.elim id fun h => h.elim, fun G H h => ⟨h, trivial, fun a ha => ha.2.elim⟩⟩
theorem Wk.emp {I : Iv K} : Wk I (iEmp K) := ⟨fun _ h => h.elim, fun _ _ _ => trivial⟩
end
structure LsI {K : PySem.W.Frag} (I : Iv K) (d : D) (ds : List D) : Prop where
  h : ∀ (G H : Hp) (v : V), Same G H → Hd I G H → Rep K G d v → ∃ a vs, v = .ref a ∧ H a = some (.lst vs) ∧ Reps K G ds vs
section
variable {K : PySem.W.Frag} {I J : Iv K} {d x y z : D} {ds es : List D} {p : Addr} {c : Rc K} {i : Int}
theorem LsI.k : LsI I (.lst ds) ds := ⟨fun G H v s _ ⟨a, vs, e, h1, h2⟩ => ⟨a, vs, e, s _ _ h1, h2⟩⟩
theorem LsI.m (c : Rc K) (eI : I = c.fill (iLst K p ds) := by rfl) : LsI I (.adr p) ds := ⟨fun G H v s hI r => by
  subst eI
  obtain ⟨vs, ho, rr, _⟩ := hI.lst
  exact ⟨p, vs, r, ho, rr⟩⟩
theorem LsI.wk (w : Wk I J) (h : LsI J d ds) : LsI I d ds := ⟨fun G H v s hI r => h.h G H v s (hI.wk w) r⟩
theorem p2_ixI (l : LsI I x ds) (h : atI ds i = some d) : P2 K I (rIxL K) x (.int i) d := fun P pp G H v w Q s hI r1 r2 q => by
  obtain ⟨a, vs, ev, ho, r⟩ := l.h G H v s hI r1
  obtain ⟨u, h1, h2⟩ := atI_rep r h
  exact ⟨a, vs, i, u, ev, r2, SqL.of ho, h1, q u d G H _ (Same.refl G) s hI h2 pp⟩
theorem pn_lenI (l : LsI I d ds) : PN K I (fun xs H Q => ∃ p ys, xs = [.ref p] ∧ (SqL K H p ys ∨ SqT K H p ys) ∧ Q (.int ys.length) H) [d] (.int ds.length) := fun P pp G H vs Q s hI ⟨v, r, e1, e2, e3⟩ q => by
  obtain ⟨a, ws, ev, ho, rr⟩ := l.h G H v s hI e2
  exact ⟨a, ws, by rw [e1, ev, show r = [] from e3], .inl (SqL.of ho), by rw [rr.length]; exact q _ (.int ds.length) G H _ (Same.refl G) s hI rfl pp⟩
end
section
variable {X : Cx} {W : WX} {R : Rx X.K} {a b e o elt tg iter : Expr} {es : List Expr} {ifs : List Expr} {scope : Scope} {lo hi : Option Expr} {δ : DEnv} {I : Iv X.K} {P : D → Iv X.K → Prop} {pos p2 : Pos} {d z x : D} {ds : List D} {l h : Option Int} {κ : Ko X.K} {p : Addr} {i : Int}
theorem s_setItemE {ps : Pos} (h : EvX X W (κ.r δ) e δ I fun d I1 => ∃ (c : Rc X.K) (p : Addr) (ds : List D) (i : Int) (j : Nat), I1 = c.fill (iLst X.K p ds) ∧ PV X I1 o δ (.adr p) ∧ PV X I1 b δ (.int i) ∧ ixN ds.length i = some j ∧ κ.nx δ (c.fill (iLst X.K p (ds.set j d))))
    (hs : swapsWithSole [.Subscript o b ps] e pos.line X.env = pure false := by rfl) (hw : swappedStores [.Subscript o b ps] e X.env = pure none := by rfl) (h1 : (assignEach [.Subscript o b ps] X.env).map (·.2) = [assign (.Subscript o b ps) X.env] := by rfl)
    (hasg : ∀ v, assign (.Subscript o b ps) X.env v = (do
      let ov ← holding [v] (eval o X.env)
      let iv ← holding [v, ov] (eval b X.env)
      standAt ps
      holding [v, ov, iv] (setItem ov iv v)
      release [v, ov, iv] []) := by intro _; rfl) :
    S1 X W (.Assign [.Subscript o b ps] e pos) δ I κ := fun σ G H E hE s hI k =>
  PS.wp (ps_asg peC (pg_sub peC peC set_list (ha := hasg)) hs hw h1) (h σ G H _ hE s hI (k.kx hE) fun v d1 G1 H1 I1 s1 t1 h1 r1 ⟨c, p, ds, i, j, ei, ho, hi, hj, nx⟩ => by
    subst ei
    refine ho W (κ.r δ) (fun z J => z = .adr p ∧ J = c.fill (iLst X.K p ds)) ⟨rfl, rfl⟩ σ G1 H1 _ (hE.mono s1) t1 h1 ((k.kx hE).mono s1) fun v2 d2 G2 H2 I2 s2 t2 h2 r2 ⟨ed2, ei2⟩ => ?_
    subst ed2 ei2
    refine hi W (κ.r δ) (fun z J => z = .int i ∧ J = c.fill (iLst X.K p ds)) ⟨rfl, rfl⟩ σ G2 H2 _ ((hE.mono s1).mono s2) t2 h2 (((k.kx hE).mono s1).mono s2) fun v3 d3 G3 H3 I3 s3 t3 h3 r3 ⟨ed3, ei3⟩ => ?_
    subst ed3 ei3
    obtain ⟨vs, hp, rr, hg⟩ := h3.lst
    refine ⟨p, vs, i, j, r2, r3, hp, by rw [rr.length]; exact hj, ?_⟩
    exact k.nx _ _ G3 _ _ ((s1.trans s2).trans s3) (same_upd t3 hg) (h3.lstSet (rr.set (r1.mono (s2.trans s3)))) (hE.mono ((s1.trans s2).trans s3)) nx)
theorem s_appendE {apos ep : Pos} (ho : PV X I o δ (.adr p)) (li : LsI I (.adr p) ds) (h : EvX X W (κ.r δ) e δ I fun d I1 => ∃ (c : Rc X.K) (ds : List D), I1 = c.fill (iLst X.K p ds) ∧ ds.length < 1000000 ∧ κ.nx δ (c.fill (iLst X.K p (ds ++ [d]))))
    (hbase : attributeBase o "append" X.env (eval o X.env) = eval o X.env := by rfl)
    (hfew : ((backTo pos (starEach [e] X.env)).all (fun x => !x.1) && (backToKw pos (keywordEach [] X.env)).all (fun x => x.1.isSome) && decide ([e].length + ([] : List Keyword).length + (if ([] : List Keyword).isEmpty then 0 else 1) < 30)) = true := by rfl)
    (hline : (apos.endLine == pos.line) = true := by rfl) (hst : starEach [e] X.env = (false, eval e X.env) :: starEach [] X.env := by rfl) (hpl : (backTo pos (starEach [] X.env)).any (·.1) = false := by rfl)
    (hs : swapsWith (.Call (.Attribute o "append" apos) [e] [] pos) none ep.line X.env = pure false := by rfl) : S1 X W (.Expr (.Call (.Attribute o "append" apos) [e] [] pos) ep) δ I κ := fun σ G H E hE s hI k =>
  PS.wp (ps_expr (pe_bm PySem.F.plainAttrs_list PySem.F.slot_list_append PySem.F.type_list_append mt_append peC (pa_cons peC pa_nil hst) hbase hfew hline hst hpl) hs) (ho W (κ.r δ) (fun z I1 => z = .adr p ∧ I1 = I) ⟨rfl, rfl⟩ σ G H _ hE s hI (k.kx hE) fun v d1 G1 H1 I1 s1 t1 h1 r1 ⟨ed, ei⟩ => by
    subst ed ei
    obtain ⟨a, vs, ev, hp, rv⟩ := li.h G1 H1 v t1 h1 r1
    obtain rfl : v = .ref p := r1
    cases ev
    refine ⟨.inl ⟨rfl, _, .inl (.inl hp)⟩, ?_⟩
    refine h σ G1 H1 _ (hE.mono s1) t1 h1 ((k.kx hE).mono s1) fun w d2 G2 H2 I2 s2 t2 h2 r2 ⟨c, ds2, ei, hz, nx⟩ => ?_
    subst ei
    obtain ⟨vs2, hp2, rv2, gp2⟩ := h2.lst
    refine ⟨p, vs2, w, rfl, rfl, hp2, by rw [rv2.length, sizeLine_eq]; omega, ?_⟩
    exact k.nx δ σ G2 _ _ (s1.trans s2) (same_upd t2 gp2) (h2.lstSet (rv2.append (Reps.one r2))) (hE.mono (s1.trans s2)) nx)
end
end DL
set_option Elab.async false
set_option linter.all false
set_option maxRecDepth 100000
set_option maxHeartbeats 4000000
namespace DL
open PySem PySem.Spec PyProof.Rows L2
structure WalkR (K : PySem.W.Frag) (J : It) (ds : List D) (Ok : Iv K → Prop) (G : Hp) : Prop where
  go : ∀ i G' H' I', Same G G' → Same G' H' → Hd I' G' H' → Ok I' → i < ds.length → J.go i H'
  stop : ∀ G' H' I', Same G G' → Same G' H' → Hd I' G' H' → Ok I' → J.stop ds.length H'
  yld : ∀ i G' H' I' x H'', Same G G' → Same G' H' → Hd I' G' H' → Ok I' → i < ds.length → J.yld i H' x H'' → ∃ G'', Same G' G'' ∧ Same G'' H'' ∧ Hd I' G'' H'' ∧ ∃ d, ds[i]? = some d ∧ Rep K G'' d x
theorem WalkR.mono {K : PySem.W.Frag} {J : It} {ds : List D} {Ok : Iv K → Prop} {G G1 : Hp} (h : WalkR K J ds Ok G) (s : Same G G1) : WalkR K J ds Ok G1 :=
  ⟨fun i G' H' I' s1 => h.go i G' H' I' (s.trans s1), fun G' H' I' s1 => h.stop G' H' I' (s.trans s1), fun i G' H' I' x H'' s1 => h.yld i G' H' I' x H'' (s.trans s1)⟩
theorem WalkD.r {K : PySem.W.Frag} {J : It} {ds : List D} {G : Hp} (h : WalkD K J ds G) : WalkR K J ds (fun _ => True) G :=
  ⟨fun i G' H' _ s1 s2 _ _ => h.go i G' H' s1 s2, fun G' H' _ s1 s2 _ _ => h.stop G' H' s1 s2, fun i G' H' I' x H'' s1 s2 hI _ hi y => by
    obtain ⟨G3, a, b, c, _, d⟩ := h.yld i G' H' I' x H'' s1 s2 hI hi y
    exact ⟨G3, a, b, c, d⟩⟩
def EvIR (X : Cx) (W : WX) (R : Rx X.K) (tg iter : Expr) (δ : DEnv) (I : Iv X.K) (P : List D → (Iv X.K → Prop) → Iv X.K → Prop) : Prop := ∀ (σ : L2.St) (G H : Hp) (RR : It → Hp → Prop), EnvR X.K G δ σ → Same G H → Hd I G H → Kx X.K W σ G R →
  (∀ (J : It) (ds : List D) (Ok : Iv X.K → Prop) (G' H' : Hp) (I' : Iv X.K), (∀ I J, Ok I → Ok (I.and J)) → Same G G' → Same G' H' → Hd I' G' H' → WalkR X.K J ds Ok G' → P ds Ok I' → RR J H') → wpI X tg iter σ H RR
section
variable {X : Cx} {W : WX} {R : Rx X.K} {elt tg iter e a : Expr} {ifs : List Expr} {es : List Expr} {scope : Scope} {body sts : List Stmt} {δ : DEnv} {I : Iv X.K} {κ : Ko X.K} {P : D → Iv X.K → Prop} {pos : Pos} {d z : D} {ds : List D} {p : Addr} {PP : List D → (Iv X.K → Prop) → Iv X.K → Prop}
end
end DL
set_option Elab.async false
set_option linter.all false
set_option maxRecDepth 100000
set_option maxHeartbeats 1000000
namespace DL
open PySem PySem.Spec PyProof.Rows L2
inductive IT where
  | z (i : Nat)
  | n (a b : IT)
instance (k : Nat) : OfNat IT k := ⟨.z k⟩
instance : Add IT := ⟨.n⟩
def IT.fl : IT → List Nat
  | .z i => [i]
  | .n a b => a.fl ++ b.fl
def IT.iv {K : PySem.W.Frag} (as : List (Iv K)) : IT → Iv K
  | .z i => as.getD i (iEmp K)
  | .n a b => (a.iv as).and (b.iv as)
def noDub : List Nat → Bool
  | [] => true
  | i :: l => !l.contains i && noDub l
section
variable {K : PySem.W.Frag} {as : List (Iv K)} {G H : Hp}
theorem IT.F_iff : ∀ (t : IT) (a : Addr), (t.iv as).F a ↔ ∃ i ∈ t.fl, (as.getD i (iEmp K)).F a
  | .z i, a => ⟨fun h => ⟨i, by simp [IT.fl], h⟩, fun ⟨j, hj, h⟩ => by
    have : j = i := by simpa [IT.fl] using hj
    rw [this] at h; exact h⟩
  | .n l r, a => ⟨fun h => by
    rcases h with h | h
    · obtain ⟨i, h1, h2⟩ := (IT.F_iff l a).mp h
      exact ⟨i, List.mem_append_left _ h1, h2⟩
    · obtain ⟨i, h1, h2⟩ := (IT.F_iff r a).mp h
      exact ⟨i, List.mem_append_right _ h1, h2⟩, fun ⟨i, h1, h2⟩ => by
    rcases List.mem_append.mp h1 with h1 | h1
    · exact .inl ((IT.F_iff l a).mpr ⟨i, h1, h2⟩)
    · exact .inr ((IT.F_iff r a).mpr ⟨i, h1, h2⟩)⟩
theorem IT.φ_to : ∀ (t : IT), (t.iv as).φ G H → (∀ i ∈ t.fl, (as.getD i (iEmp K)).φ G H) ∧ ∀ i ∈ t.fl, ∀ j ∈ t.fl, i ≠ j → ∀ a, ¬ ((as.getD i (iEmp K)).F a ∧ (as.getD j (iEmp K)).F a)
  | .z i, h => ⟨fun j hj => by
    have : j = i := by simpa [IT.fl] using hj
    rw [this]; exact h, fun j hj k hk hne => by
    have e1 : j = i := by simpa [IT.fl] using hj
    have e2 : k = i := by simpa [IT.fl] using hk
    exact absurd (e1.trans e2.symm) hne⟩
  | .n l r, ⟨h1, h2, h3⟩ => by
    obtain ⟨a1, a2⟩ := IT.φ_to l h1
    obtain ⟨b1, b2⟩ := IT.φ_to r h2
    refine ⟨fun i hi => (List.mem_append.mp hi).elim (a1 i) (b1 i), fun i hi j hj hne a ha => ?_⟩
    rcases List.mem_append.mp hi with hi | hi <;> rcases List.mem_append.mp hj with hj | hj
    · exact a2 i hi j hj hne a ha
    · exact h3 a ⟨(IT.F_iff l a).mpr ⟨i, hi, ha.1⟩, (IT.F_iff r a).mpr ⟨j, hj, ha.2⟩⟩
    · exact h3 a ⟨(IT.F_iff l a).mpr ⟨j, hj, ha.2⟩, (IT.F_iff r a).mpr ⟨i, hi, ha.1⟩⟩
    · exact b2 i hi j hj hne a ha
theorem noDub_app : ∀ {l m : List Nat}, noDub (l ++ m) = true → noDub l = true ∧ noDub m = true ∧ ∀ i ∈ l, i ∉ m
  | [], m, h => ⟨rfl, h, fun i hi => nomatch hi⟩
  | x :: l, m, h => by
    have h : (!(l ++ m).contains x && noDub (l ++ m)) = true := h
    obtain ⟨h1, h2⟩ := Bool.and_eq_true_iff.mp h
    obtain ⟨a, b, c⟩ := noDub_app h2
    have h3 : x ∉ l ++ m := by simpa using h1
    refine ⟨?_, b, fun i hi => ?_⟩
    · show (!l.contains x && noDub l) = true
      rw [a]
      have : x ∉ l := fun z => h3 (List.mem_append_left _ z)
      simpa using this
    · rcases List.mem_cons.mp hi with rfl | hi
      · exact fun z => h3 (List.mem_append_right _ z)
      · exact c i hi
theorem IT.φ_of : ∀ (t : IT), noDub t.fl = true → (∀ i ∈ t.fl, (as.getD i (iEmp K)).φ G H) → (∀ i ∈ t.fl, ∀ j ∈ t.fl, i ≠ j → ∀ a, ¬ ((as.getD i (iEmp K)).F a ∧ (as.getD j (iEmp K)).F a)) → (t.iv as).φ G H
  | .z i, _, h, _ => h i (by simp [IT.fl])
  | .n l r, nd, h, h2 => by
    obtain ⟨n1, n2, n3⟩ := noDub_app nd
    refine ⟨IT.φ_of l n1 (fun i hi => h i (List.mem_append_left _ hi)) fun i hi j hj => h2 i (List.mem_append_left _ hi) j (List.mem_append_left _ hj), IT.φ_of r n2 (fun i hi => h i (List.mem_append_right _ hi)) fun i hi j hj => h2 i (List.mem_append_right _ hi) j (List.mem_append_right _ hj), fun a ha => ?_⟩
    obtain ⟨i, hi, h3⟩ := (IT.F_iff l a).mp ha.1
    obtain ⟨j, hj, h4⟩ := (IT.F_iff r a).mp ha.2
    exact h2 i (List.mem_append_left _ hi) j (List.mem_append_right _ hj) (fun e => n3 i hi (e ▸ hj)) a ⟨h3, h4⟩
theorem Wk.re (as : List (Iv K)) (t u : IT) (h : ((u.fl.all fun i => t.fl.contains i || decide (as.length ≤ i)) && noDub u.fl) = true := by rfl) : Wk (t.iv as) (u.iv as) := by
  obtain ⟨h1, h2⟩ := Bool.and_eq_true_iff.mp h
  have sub : ∀ i ∈ u.fl, i ∈ t.fl ∨ as.getD i (iEmp K) = iEmp K := fun i hi => by
    have h3 := List.all_eq_true.mp h1 i hi
    rcases Bool.or_eq_true_iff.mp h3 with h4 | h4
    · exact .inl (by simpa using h4)
    · refine .inr ?_
      rw [List.getD_eq_getElem?_getD, List.getElem?_eq_none (of_decide_eq_true h4)]; rfl
  refine ⟨fun a ha => ?_, fun G H hp => ?_⟩
  · obtain ⟨i, hi, h3⟩ := (IT.F_iff u a).mp ha
    rcases sub i hi with h4 | h4
    · exact (IT.F_iff t a).mpr ⟨i, h4, h3⟩
    · rw [h4] at h3; exact h3.elim
  · obtain ⟨a1, a2⟩ := IT.φ_to t hp
    refine IT.φ_of u h2 (fun i hi => ?_) fun i hi j hj hne a ha => ?_
    · rcases sub i hi with h4 | h4
      · exact a1 i h4
      · rw [h4]; exact trivial
    · rcases sub i hi with h4 | h4
      · rcases sub j hj with h5 | h5
        · exact a2 i h4 j h5 hne a ha
        · rw [h5] at ha; exact ha.2
      · rw [h4] at ha; exact ha.1
end
end DL
set_option Elab.async false
set_option linter.all false
set_option maxRecDepth 100000
set_option maxHeartbeats 4000000
namespace L2
open PySem PySem.Spec PyProof.Rows
section
variable {X : Cx}
end
end L2
namespace DL
open PySem PySem.Spec PyProof.Rows L2
section
variable {X : Cx} {W : WX} {R : Rx X.K} {a e : Expr} {lo hi : Option Expr} {δ : DEnv} {I : Iv X.K} {P : D → Iv X.K → Prop} {pos p2 : Pos} {ds : List D} {l h : Option Int}
end
section
variable {K : PySem.W.Frag} {I : Iv K} {G H : Hp}
theorem freeze_rows : ∀ {qs : List Addr} {rs : List (List D)} {I : Iv K} {G : Hp}, qs.length = rs.length → Same G H → Hd (I.and (iRows K qs rs)) G H → ∃ G', Same G G' ∧ Same G' H ∧ Hd I G' H ∧ Reps K G' (rs.map D.lst) (qs.map V.ref)
  | [], [], I, G, _, s, h => ⟨G, Same.refl G, s, h.left, rfl⟩
  | q :: qs, r :: rs, I, G, hl, s, h => by
    have h1 : Hd ((I.and (iRows K qs rs)).and (iLst K q r)) G H := h.wk (Wk.re [I, iLst K q r, iRows K qs rs] (0 + (1 + 2)) (0 + 2 + 1))
    obtain ⟨G1, s1, t1, h2, r1⟩ := freeze_lst s h1
    obtain ⟨G2, s2, t2, h3, r2⟩ := freeze_rows (by simpa using hl) t1 h2
    exact ⟨G2, s1.trans s2, t2, h3, .cons (r1.mono s2) r2⟩
  | [], _ :: _, _, _, hl, _, _ => by simp at hl
  | _ :: _, [], _, _, hl, _, _ => by simp at hl
end
end DL
set_option Elab.async false
set_option linter.all false
set_option maxRecDepth 100000
set_option maxHeartbeats 4000000
namespace DL
open PySem PySem.Spec PyProof.Rows L2
def MX (X : Cx) (W : WX) (cases : List MatchCase) (w : Str) (δ : DEnv) (I : Iv X.K) (κ : Ko X.K) : Prop := ∀ (σ : L2.St) (G H : Hp) (E : Ends), EnvR X.K G δ σ → Same G H → Hd I G H → KoLe X.K W E G κ →
  ∀ (pins : List (Addr × Obj)) (s : Shared) (first : Bool) (t : Tok), Inv X pins σ H s → wpAny (model X.prog X.w) X.A (matchCases cases X.env (.str w t) first) (SP X pins E) X.xe s
section
variable {X : Cx} {W : WX} {R : Rx X.K} {a b e : Expr} {δ : DEnv} {I : Iv X.K} {κ : Ko X.K} {pos p1 p2 : Pos} {w c : Str} {cases rest : List MatchCase} {body : List Stmt} {j : Nat} {d x : D} {ds : List D} {P : D → Iv X.K → Prop}
theorem o2_repM {K : PySem.W.Frag} {I : Iv K} {P : D → Iv K → Prop} {n : Nat} (li : LsI I x ds) (hz : ds.length * n ≤ 100000) (hn : n ≤ 100000) (pp : ∀ p, P (.adr p) (I.and (iLst K p (List.replicate n ds).flatten))) : Op2 K rRep x (.int n) I P := fun G H v w Q s hI r1 r2 q => by
  obtain ⟨a, vs, ev, h1, rr⟩ := li.h G H v s hI r1
  refine ⟨a, n, vs, ev, r2, h1, by omega, by omega, by rw [rr.length, sizeLine_eq, Int.toNat_natCast]; omega, fun p hp => ?_⟩
  rw [Int.toNat_natCast]
  have hg : G p = none := s.free hp
  have na : ∀ a, ¬ (I.F a ∧ a = p) := fun a ha => hI.dom ha.1 (by rw [ha.2]; exact hp)
  exact q (.ref p) (.adr p) G _ (I.and (iLst K p (List.replicate n ds).flatten)) (Same.refl G) (same_upd s hg) (Hd.mk2 (hI.newp hp) ⟨⟨_, upd_same, _, rfl, reps_rep rr n⟩, fun a ha => by rw [show a = p from ha]; exact hg⟩ na) rfl (pp p)
end
end DL
set_option Elab.async false
set_option linter.all false
set_option maxRecDepth 100000
set_option maxHeartbeats 4000000
namespace DL
open PySem PySem.Spec PyProof.Rows L2
section
variable {X : Cx} {W : WX} {R : Rx X.K} {a b e o : Expr} {es : List Expr} {δ : DEnv} {I : Iv X.K} {P : D → Iv X.K → Prop} {pos q' p : Pos} {n : Str} {d z : D} {x C dx pd : Addr} {ds : List D} {i : Nat} {κ : Ko X.K}
end
end DL
set_option Elab.async false
set_option linter.all false
set_option maxRecDepth 100000
set_option maxHeartbeats 4000000
namespace DL
open PySem PySem.Spec PyProof.Rows L2
section
variable {X : Cx} {W : WX} {R : Rx X.K} {elt tg iter c e : Expr} {scope : Scope} {δ : DEnv} {I : Iv X.K} {pos : Pos} {p : Addr}
end
section
variable {X : Cx} {I : Iv X.K} {e : Expr} {δ : DEnv} {pos : Pos} {C p g x dx : Addr} {f : Str} {n : Nat} {S : Spec X.K} {fs : List (Str × D)} {d : D} {fd : FuncData}
end
end DL
set_option Elab.async false
set_option linter.all false
set_option maxRecDepth 100000
set_option maxHeartbeats 4000000
namespace DL
end DL
namespace SV
open PySem PySem.Spec PyProof.Rows DL
section
variable {prog : Program} {w : World} {A : Around} {R : Result → Shared → Prop} {J S : Addr} {fp wr : List Addr} {G : Array GenState → Array GenState → Prop} {P : Nat → Value → Prop} {St : Nat → Shared → Prop}
end
end SV
set_option Elab.async false
set_option linter.all false
set_option maxRecDepth 100000
set_option maxHeartbeats 4000000
namespace SV
open PySem PySem.Spec PyProof.Rows DL
section
variable {prog : Program} {w : World} {A : Around} {E : Value → Shared → Prop} {s : Shared}
end
end SV
namespace L2
open PySem PySem.Spec PyProof.Rows
section
variable {X : Cx} {a : Expr} {ta : TE} {p p2 q pos : Pos}
end
end L2
namespace DL
open PySem PySem.Spec PyProof.Rows L2
section
variable {X : Cx} {a : Expr} {δ : DEnv} {I : Iv X.K} {p p2 q pos : Pos} {xs : List Str}
end
end DL
set_option Elab.async false
set_option linter.all false
set_option maxRecDepth 100000
set_option maxHeartbeats 4000000
namespace SW
open PySem PySem.W PySem.Calls PyProof.Rows
noncomputable def kW (h : Heap) (ds : List PyData) : PyProof.Rows.KeyKind := dataKind h ds
section
variable {prog : Program} {w : World} {A : Around} {s : Shared}
end
end SW
namespace DL
open PySem PySem.Spec PyProof.Rows L2
section
variable {X : Cx}
end
section
variable {X : Cx} {e : Expr} {δ : DEnv} {I : Iv X.K} {pos p : Pos} {ds : List D} {W : WX} {R : Rx X.K} {P : D → Iv X.K → Prop}
end
end DL
set_option Elab.async false
set_option linter.all false
set_option maxRecDepth 100000
set_option maxHeartbeats 4000000
namespace L2
open PySem PySem.Spec PyProof.Rows
section
variable {X : Cx}
end
structure KF where
  o : Obj
  es : Array DictEntry
  ep : Nat
  xs : List (NestedKey × Addr × Value)
def keysΦ (P : Program) (w : World) (q : Addr) (F : KF) (h : Heap) : Prop := (q == sysModules) = false ∧ h.get? q = some F.o ∧ F.o.ExactDict ∧ F.o.data = .dict F.es F.ep ∧ F.es.toList = F.xs.map (entryOfKey (nestedKind P w))
def keysO (P : Program) (w : World) (q : Addr) (F : KF) : HO := .ext (keysΦ P w q F)
theorem KF.sz {P : Program} {w : World} {q : Addr} {F : KF} {h : Heap} (m : keysΦ P w q F h) : F.es.size = F.xs.length := by
  have := congrArg List.length m.2.2.2.2
  rwa [List.length_map, Array.length_toList] at this
section
variable {X : Cx} {tg e : Expr} {td : TE}
end
end L2
set_option Elab.async false
set_option linter.all false
set_option maxRecDepth 100000
set_option maxHeartbeats 4000000
namespace DL
open PySem PySem.Spec PyProof.Rows L2
def putN (kds : List (NestedKey × D)) (k : NestedKey) : List (NestedKey × D) := if (getN kds k).isSome then kds else kds ++ [(k, .bl true)]
def AllT (kds : List (NestedKey × D)) : Prop := ∀ p ∈ kds, p.2 = .bl true
theorem AllT.put {kds : List (NestedKey × D)} {k : NestedKey} (h : AllT kds) : AllT (putN kds k) := by
  unfold putN
  split
  · exact h
  · intro p hp
    rcases List.mem_append.mp hp with hp | hp
    · exact h p hp
    · rw [List.mem_singleton.mp hp]
theorem MR.all {K : PySem.W.Frag} {G : Hp} {k : NestedKey} {u : Value} (hu : RelV (.bl true) u) : ∀ {kds : List (NestedKey × D)} {xs : L2.MX}, AllT kds → MR K G kds xs → MR K G kds (xs.map (putAt k u))
  | [], _, _, h => by rw [show _ = [] from h]; rfl
  | p :: r, _, t, ⟨a, v, u', rest, e, h1, h2, h3, h4, h5⟩ => by
    have hr := MR.all (k := k) hu (fun q hq => t q (List.mem_cons_of_mem _ hq)) h5
    have e1 := t p List.mem_cons_self
    subst e
    rw [List.map_cons]
    unfold putAt
    by_cases hk : p.1 = k
    · rw [if_pos hk]
      exact ⟨a, .bl true, u, _, rfl, h1, h2, hu, by rw [e1]; rfl, hr⟩
    · rw [if_neg hk]
      exact ⟨a, v, u', _, rfl, h1, h2, h3, h4, hr⟩
section
variable {X : Cx} {W : WX} {κ : Ko X.K} {kx tg iter c e : Expr} {scope : Scope} {δ : DEnv} {I : Iv X.K} {pos : Pos} {p : Addr} {sts : List Stmt}
end
def iKeys (P : Program) (w : World) (K : PySem.W.Frag) (q : Addr) (F : KF) (kds : List (NestedKey × D)) : Iv K := iObj K q (fun G o => o = keysO P w q F ∧ MR K G kds F.xs) fun _ _ _ s ⟨h1, h2⟩ => ⟨h1, h2.mono s⟩
structure KeI {K : PySem.W.Frag} (P : Program) (w : World) (I : Iv K) (q : Addr) (F : KF) (kds : List (NestedKey × D)) : Prop where
  h : ∀ (G H : Hp), Same G H → Hd I G H → H q = some (keysO P w q F) ∧ MR K G kds F.xs
section
variable {P : Program} {w : World} {K : PySem.W.Frag} {q : Addr} {F : KF} {kds : List (NestedKey × D)} {I J : Iv K}
theorem KeI.wk (h : KeI P w I q F kds) (k : Wk J I) : KeI P w J q F kds := ⟨fun G H s hd => h.h G H s (hd.wk k)⟩
theorem KeI.m (c : Rc K) : KeI P w (c.fill (iKeys P w K q F kds)) q F kds := ⟨fun G H s hd => by
  obtain ⟨o, ho, e, r⟩ := hd.inner.ph
  subst e
  exact ⟨ho, r⟩⟩
end
section
variable {X : Cx} {W : WX} {R : Rx X.K} {κ : Ko X.K} {tg iter : Expr} {δ : DEnv} {I : Iv X.K} {q : Addr} {F : KF} {kds : List (NestedKey × D)} {sts : List Stmt} {PP : List D → (Iv X.K → Prop) → Iv X.K → Prop}
end
end DL
set_option Elab.async false
set_option linter.all false
set_option maxRecDepth 100000
set_option maxHeartbeats 4000000
namespace DL
open PySem PySem.Spec PyProof.Rows L2
structure WkI (X : Cx) (tg iter : Expr) (δ : DEnv) (I : Iv X.K) (ds : List D) (Ok : Iv X.K → Prop) : Prop where
  ok : Ok I
  h : ∀ (W : WX) (R : Rx X.K) (PP : List D → (Iv X.K → Prop) → Iv X.K → Prop), PP ds Ok I → EvIR X W R tg iter δ I PP
section
variable {X : Cx} {W : WX} {R : Rx X.K} {κ : Ko X.K} {elt tg iter c e : Expr} {scope : Scope} {body : List Stmt} {δ : DEnv} {I : Iv X.K} {pos p2 : Pos} {p : Addr} {ds : List D} {Ok : Iv X.K → Prop}
end
end DL
set_option Elab.async false
set_option linter.all false
set_option maxRecDepth 100000
set_option maxHeartbeats 4000000
namespace DL
open PySem PySem.Spec PyProof.Rows L2
section
variable {X : Cx} {I : Iv X.K} {e : Expr} {δ : DEnv} {d : D} {pos p : Pos} {j : Nat}
end
end DL
set_option Elab.async false
set_option linter.all false
set_option maxRecDepth 100000
set_option maxHeartbeats 4000000
namespace DL
open PySem PySem.Spec PyProof.Rows L2
section
variable {X : Cx} {W : WX} {R : Rx X.K} {a : Expr} {lo hi : Option Expr} {δ : DEnv} {I : Iv X.K} {pos p2 : Pos} {P : D → Iv X.K → Prop}
end
theorem PVI.is {X : Cx} {I : Iv X.K} {tg iter : Expr} {δ : DEnv} {ds es : List D} (h : PVI X I tg iter δ ds) (q : ds = es) : PVI X I tg iter δ es := q ▸ h
section
variable {X : Cx} {I : Iv X.K} {e : Expr} {δ : DEnv} {d : D} {pos p : Pos} {j : Nat}
end
end DL
set_option Elab.async false
set_option linter.all false
set_option maxRecDepth 100000
set_option maxHeartbeats 4000000
namespace DL
open PySem PySem.Spec PyProof.Rows L2
section
variable {X : Cx} {o i f : Expr} {δ : DEnv} {I : Iv X.K} {apos pos : Pos} {y z dflt d : D} {k : Key} {kds : List (Key × D)}
end
end DL
set_option Elab.async false
set_option linter.all false
set_option maxRecDepth 100000
set_option maxHeartbeats 4000000
namespace DL
open PySem PySem.Spec PyProof.Rows L2
section
variable {X : Cx} {W : WX} {R : Rx X.K} {o e : Expr} {δ : DEnv} {I : Iv X.K} {apos pos ep : Pos} {q : Addr} {k : Str} {ss : List Str} {κ : Ko X.K} {ds : List D}
end
end DL
set_option Elab.async false
set_option linter.all false
set_option maxRecDepth 100000
set_option maxHeartbeats 4000000
namespace DL
open PySem PySem.Spec PyProof.Rows L2
section
variable {X : Cx} {e : Expr} {δ : DEnv} {I : Iv X.K} {p1 p2 p3 pos : Pos} {k : Nat} {ds : List D}
end
end DL
set_option Elab.async false
set_option linter.all false
set_option maxRecDepth 100000
set_option maxHeartbeats 4000000
namespace DL
open PySem PySem.Spec PyProof.Rows L2
section
variable {X : Cx} {o e : Expr} {δ : DEnv} {I : Iv X.K} {apos pos : Pos} {k : Str} {ss : List Str}
end
end DL
set_option Elab.async false
set_option linter.all false
set_option maxRecDepth 100000
set_option maxHeartbeats 4000000
namespace DL
open PySem PySem.Spec PyProof.Rows L2
section
variable {X : Cx} {W : WX} {R : Rx X.K} {P : D → Iv X.K → Prop} {o k e : Expr} {δ : DEnv} {I : Iv X.K} {pos apos p2 : Pos} {d : D} {ks : List NestedKey} {p : Addr} {ds : List D}
end
end DL
set_option Elab.async false
set_option linter.all false
set_option maxRecDepth 100000
set_option maxHeartbeats 4000000
namespace DL
open PySem PySem.Spec PyProof.Rows L2
section
variable {X : Cx}
end
section
variable {X : Cx} {e : Expr} {δ : DEnv} {I : Iv X.K} {pos p : Pos} {ds : List D} {W : WX} {R : Rx X.K} {P : D → Iv X.K → Prop}
end
end DL
namespace L2
open PySem PySem.Spec PyProof.Rows
end L2
namespace DL
open PySem PySem.Spec PyProof.Rows L2
section
variable {X : Cx} {e : Expr} {δ : DEnv} {I : Iv X.K} {pos p : Pos} {q : Addr} {F : KF} {kds : List (NestedKey × D)}
end
end DL
set_option Elab.async false
set_option linter.all false
set_option maxRecDepth 100000
set_option maxHeartbeats 4000000
namespace DL
open PySem PySem.Spec PyProof.Rows L2
section
variable {X : Cx} {o i : Expr} {δ : DEnv} {I : Iv X.K} {pos : Pos} {q : Addr} {kds : List (NestedKey × D)} {ks : List NestedKey}
end
end DL
set_option Elab.async false
set_option linter.all false
set_option maxRecDepth 100000
set_option maxHeartbeats 4000000
namespace DL
open PySem PySem.Spec PyProof.Rows L2
def setN (kds : List (NestedKey × D)) (k : NestedKey) (d : D) : List (NestedKey × D) := if (getN kds k).isSome then kds.map (fun p => if p.1 = k then (p.1, d) else p) else kds ++ [(k, d)]
theorem MR.upd {K : PySem.W.Frag} {G : Hp} {k : NestedKey} {u : Value} {w : V} {d : D} (hu : RelV w u) (hd : Rep K G d w) : ∀ {kds : List (NestedKey × D)} {xs : L2.MX}, MR K G kds xs → MR K G (kds.map fun p => if p.1 = k then (p.1, d) else p) (xs.map (putAt k u))
  | [], _, h => by rw [show _ = [] from h]; rfl
  | p :: r, _, ⟨a, v, u', rest, e, h1, h2, h3, h4, h5⟩ => by
    have hr := MR.upd (k := k) hu hd h5
    subst e
    rw [List.map_cons, List.map_cons]
    unfold putAt
    by_cases hk : p.1 = k
    · rw [if_pos hk, if_pos hk]
      exact ⟨a, w, u, _, rfl, h1, h2, hu, hd, hr⟩
    · rw [if_neg hk, if_neg hk]
      exact ⟨a, v, u', _, rfl, h1, h2, h3, h4, hr⟩
theorem MR.isSome {K : PySem.W.Frag} {G : Hp} {k : NestedKey} {kds : List (NestedKey × D)} {xs : L2.MX} (mr : MR K G kds xs) : (atKey xs k).isSome = (getN kds k).isSome := by
  cases h : getN kds k with
  | none => rw [mr.get.2 h]; rfl
  | some d0 =>
    obtain ⟨a', u', v', h3, _⟩ := mr.get.1 d0 h
    rw [h3]; rfl
theorem MR.set {K : PySem.W.Frag} {G : Hp} {k : NestedKey} {u : Value} {w : V} {d : D} {a : Addr} {kds : List (NestedKey × D)} {xs : L2.MX} (mr : MR K G kds xs) (h1 : Rep K G (keyN k) (.ref a)) (h2 : k.depth ≤ 8) (hu : RelV w u) (hd : Rep K G d w) : MR K G (setN kds k d) (storedH xs k a u) := by
  unfold setN storedH
  rw [mr.isSome]
  cases (getN kds k).isSome with
  | true => exact mr.upd hu hd
  | false => exact MR.app h1 h2 hu hd mr
structure MemI {K : PySem.W.Frag} (P : Program) (w : World) (I : Iv K) (q : Addr) (kds : List (NestedKey × D)) : Prop where
  h : ∀ (G H : Hp), Same G H → Hd I G H → ∃ xs, H q = some (memoO P w q xs) ∧ MR K G kds xs
theorem MemI.m {K : PySem.W.Frag} {P : Program} {w : World} {q : Addr} {kds : List (NestedKey × D)} (c : Rc K) : MemI P w (c.fill (iMemo P w K q kds)) q kds := ⟨fun G H s hI => let ⟨xs, h1, h2, _⟩ := hI.memo; ⟨xs, h1, h2⟩⟩
theorem MemI.wk {K : PySem.W.Frag} {P : Program} {w : World} {I J : Iv K} {q : Addr} {kds : List (NestedKey × D)} (h : MemI P w I q kds) (k : Wk J I) : MemI P w J q kds := ⟨fun G H s hI => h.h G H s (hI.wk k)⟩
theorem MemI.andL {K : PySem.W.Frag} {P : Program} {w : World} {I J : Iv K} {q : Addr} {kds : List (NestedKey × D)} (h : MemI P w I q kds) : MemI P w (I.and J) q kds := h.wk Wk.dropR
section
variable {X : Cx} {W : WX} {R : Rx X.K} {P : D → Iv X.K → Prop} {o i f e : Expr} {δ : DEnv} {I : Iv X.K} {pos apos ps : Pos} {q : Addr} {kds : List (NestedKey × D)} {ks : List NestedKey} {d : D} {κ : Ko X.K}
end
end DL
set_option Elab.async false
set_option linter.all false
set_option maxRecDepth 100000
set_option maxHeartbeats 4000000
namespace DL
open PySem PySem.Spec PyProof.Rows L2
theorem Reps.erase {K : PySem.W.Frag} {G : Hp} : ∀ {ds : List D} {vs : List V} (j : Nat), Reps K G ds vs → Reps K G (ds.eraseIdx j) (vs.eraseIdx j)
  | [], _, _, h => by rw [show _ = [] from h]; exact rfl
  | d :: ds, _, 0, ⟨v, r, e, _, h⟩ => by rw [e]; exact h
  | d :: ds, _, j + 1, ⟨v, r, e, h1, h⟩ => by rw [e]; exact ⟨v, r.eraseIdx j, rfl, h1, Reps.erase j h⟩
section
variable {X : Cx} {W : WX} {R : Rx X.K} {P : D → Iv X.K → Prop} {o i e : Expr} {δ : DEnv} {I : Iv X.K} {pos p apos ep : Pos} {kds : List (Key × D)} {κ : Ko X.K} {q : Addr} {ds : List D}
theorem s_popAtM (c : Rc X.K) {j : Nat} (ho : PV X I o δ (.adr q)) (hi : PV X I i δ (.int j)) (hj : j < ds.length) (hz : ds.length < 1000000) (nx : κ.nx δ (c.fill (iLst X.K q (ds.eraseIdx j)))) (eI : I = c.fill (iLst X.K q ds) := by rfl)
    (hbase : attributeBase o "pop" X.env (eval o X.env) = eval o X.env := by rfl)
    (hfew : ((backTo pos (starEach [i] X.env)).all (fun x => !x.1) && (backToKw pos (keywordEach [] X.env)).all (fun x => x.1.isSome) && decide ([i].length + ([] : List Keyword).length + (if ([] : List Keyword).isEmpty then 0 else 1) < 30)) = true := by rfl)
    (hline : (apos.endLine == pos.line) = true := by rfl) (hst : starEach [i] X.env = (false, eval i X.env) :: starEach [] X.env := by rfl) (hpl : (backTo pos (starEach [] X.env)).any (·.1) = false := by rfl)
    (hs : swapsWith (.Call (.Attribute o "pop" apos) [i] [] pos) none ep.line X.env = pure false := by rfl) : S1 X W (.Expr (.Call (.Attribute o "pop" apos) [i] [] pos) ep) δ I κ := fun σ G H E hE s hI kk =>
  PS.wp (ps_expr (pe_bm PySem.F.plainAttrs_list PySem.F.slot_list_pop PySem.F.type_list_pop mt_popAt peC (pa_cons peC pa_nil hst) hbase hfew hline hst hpl) hs) (ho W (κ.r δ) (fun z I1 => z = .adr q ∧ I1 = I) ⟨rfl, rfl⟩ σ G H _ hE s hI (kk.kx hE) fun v d1 G1 H1 I1 s1 t1 h1 r1 ⟨ed, ei⟩ => by
    subst ed ei eI
    obtain ⟨vs, hp, rv, gp⟩ := h1.lst
    obtain rfl : v = .ref q := r1
    refine ⟨.inl ⟨rfl, _, .inl (.inl hp)⟩, ?_⟩
    refine hi W (κ.r δ) (fun z J => z = .int j ∧ J = c.fill (iLst X.K q ds)) ⟨rfl, rfl⟩ σ G1 H1 _ (hE.mono s1) t1 h1 ((kk.kx hE).mono s1) fun v2 d2 G2 H2 I2 s2 t2 h2 r2 ⟨ed2, ei2⟩ => ?_
    subst ed2 ei2
    obtain ⟨vs2, hp2, rv2, gp2⟩ := h2.lst
    have hl := rv2.length
    obtain ⟨y, hy, ry⟩ := rv2.get (List.getElem?_eq_getElem hj)
    have hsi : seqIndex? (j : Int) vs2.length = some j := by
      unfold seqIndex?
      rw [hl]
      simp only [show ¬ ((j : Int) < 0) by omega, if_false]
      first
        | (rw [if_pos (by omega)]; simp)
        | simp [hj]
        | (simp; omega)
    refine ⟨q, vs2, j, j, y, rfl, by rw [show v2 = .int j from r2], hp2, by omega, by omega, hsi, hy, ?_⟩
    exact kk.nx δ σ G2 _ _ (s1.trans s2) (same_upd t2 gp2) (h2.lstSet (rv2.erase j)) (hE.mono (s1.trans s2)) nx)
end
end DL
set_option Elab.async false
set_option linter.all false
set_option maxRecDepth 100000
set_option maxHeartbeats 4000000
namespace DL
open PySem PySem.Spec PyProof.Rows L2
structure DcI {K : PySem.W.Frag} (I : Iv K) (d : D) (kds : List (Key × D)) : Prop where
  h : ∀ (G H : Hp) (v : V), Same G H → Hd I G H → Rep K G d v → ∃ a kvs, v = .ref a ∧ Rd H a (.dK kvs) ∧ KR K G kds kvs
def iFrz (K : PySem.W.Frag) (q : Addr) (od : Obj) (kvs : List (Key × V)) (kds : List (Key × D)) : Iv K := iObj K q (fun G o => o = .frz od (.dK kvs) ∧ KR K G kds kvs) fun _ _ _ s ⟨h1, h2⟩ => ⟨h1, h2.mono s⟩
section
variable {K : PySem.W.Frag} {I J : Iv K} {d : D} {kds : List (Key × D)} {q : Addr} {od : Obj} {kvs : List (Key × V)} {c : Rc K} {G H : Hp}
theorem DcI.k : DcI I (dicD kds) kds := ⟨fun G H v s _ r => by
  obtain ⟨a, od, kvs, e1, e2, e3⟩ := rep_dicD.mp r
  exact ⟨a, kvs, e1, .inr ⟨od, s _ _ e2⟩, e3⟩⟩
theorem DcI.m (c : Rc K) (eI : I = c.fill (iDic K q kds) := by rfl) : DcI I (.adr q) kds := ⟨fun G H v s hI r => by
  subst eI
  obtain ⟨kvs, hp, r2, _⟩ := hI.dic
  exact ⟨q, kvs, r, .inl hp, r2⟩⟩
theorem Hd.frzd (h : Hd (c.fill (iFrz K q od kvs kds)) G H) : H q = some (.frz od (.dK kvs)) ∧ KR K G kds kvs ∧ G q = none := by
  have p := h.inner
  obtain ⟨o, ho, e, r⟩ := p.ph
  subst e
  exact ⟨ho, r, p.fr q rfl⟩
theorem DcI.f (c : Rc K) (eI : I = c.fill (iFrz K q od kvs kds) := by rfl) : DcI I (.adr q) kds := ⟨fun G H v s hI r => by
  subst eI
  obtain ⟨hp, r2, _⟩ := hI.frzd
  exact ⟨q, kvs, r, .inr ⟨od, hp⟩, r2⟩⟩
theorem DcI.wk (w : Wk I J) (h : DcI J d kds) : DcI I d kds := ⟨fun G H v s hI r => h.h G H v s (hI.wk w) r⟩
structure FzI (I : Iv K) (q : Addr) (od : Obj) (kvs : List (Key × V)) (kds : List (Key × D)) : Prop where
  h : ∀ (G H : Hp), Same G H → Hd I G H → H q = some (.frz od (.dK kvs)) ∧ KR K G kds kvs
theorem FzI.f (c : Rc K) (eI : I = c.fill (iFrz K q od kvs kds) := by rfl) : FzI I q od kvs kds := ⟨fun G H s hI => by
  subst eI
  exact ⟨hI.frzd.1, hI.frzd.2.1⟩⟩
theorem FzI.wk (w : Wk I J) (h : FzI J q od kvs kds) : FzI I q od kvs kds := ⟨fun G H s hI => h.h G H s (hI.wk w)⟩
end
section
variable {X : Cx} {W : WX} {R : Rx X.K} {a b e o i tg iter : Expr} {st : Stmt} {δ : DEnv} {I : Iv X.K} {P : D → Iv X.K → Prop} {pos p2 : Pos} {d x y z : D} {ds : List D} {κ : Ko X.K} {q : Addr} {kds : List (Key × D)} {k : Key} {od : Obj} {kvs : List (Key × V)}
theorem pv_dgetI (hu : X.A.units + 1 < cLine) (dI : DcI I z kds) (ho : PV X I o δ z) (hi : PV X I i δ y) (hk : keyD y = some k) (hd : getG kds k = some d) (hs : NoSl i := by exact fun _ _ => rfl) : PV X I (.Subscript o i pos) δ d := fun W R P pp σ G H Q hE s hI qx q =>
  PE.wp (pe_dget hu peC peC hs) (ho W R (fun z1 I1 => z1 = z ∧ I1 = I) ⟨rfl, rfl⟩ σ G H _ hE s hI qx fun v d1 G1 H1 I1 s1 t1 h1 r1 ⟨ed, ei⟩ => by
    subst ed ei
    refine hi W R (fun z1 J => z1 = y ∧ J = I1) ⟨rfl, rfl⟩ σ G1 H1 _ (hE.mono s1) t1 h1 (qx.mono s1) fun v2 d2 G2 H2 I2 s2 t2 h2 r2 ⟨ed2, ei2⟩ => ?_
    subst ed2 ei2
    obtain ⟨a, kvs, e1, rd, kr⟩ := dI.h G2 H2 v t2 h2 (r1.mono s2)
    obtain ⟨u, e3, e4⟩ := (kr.get (k := k)).1 d hd
    exact ⟨a, u, e1, .inl ⟨kvs, k, rd, rep_key hk r2, e3.symm⟩, q u d G2 H2 _ (s1.trans s2) t2 h2 e4 pp⟩)
theorem pn_lenDI {K : PySem.W.Frag} {I : Iv K} (dI : DcI I z kds) : PN K I (fun xs H Q => ∃ a kvs, xs = [V.ref a] ∧ Rd H a (.dK kvs) ∧ Q (.int kvs.length) H) [z] (.int kds.length) := fun P p G H vs Q s hI ⟨v, r, e1, rd, er⟩ q => by
  obtain ⟨a, kvs, rfl, e2, kr⟩ := dI.h G H v s hI rd
  rw [e1, show r = [] from er]
  exact ⟨a, kvs, rfl, e2, by rw [kr.length]; exact q _ (.int kds.length) G H _ (Same.refl G) s hI rfl p⟩
theorem keys_reps {K : PySem.W.Frag} {G : Hp} : ∀ kds : List (Key × D), Reps K G (kds.map fun p => keyV p.1) (kds.map fun p => kV p.1)
  | [] => rfl
  | p :: ps => ⟨kV p.1, _, rfl, rep_keyV p.1, keys_reps ps⟩
theorem pn_listDI {K : PySem.W.Frag} {I : Iv K} (dI : DcI I z kds) : PN K I (fun xs H Q => ∃ (a : Addr) (kvs : List (Key × V)), xs = [.ref a] ∧ Rd H a (.dK kvs) ∧ ∀ p, H p = none → Q (.ref p) (upd H p (.lst (kvs.map fun kv => kV kv.1)))) [z] (.lst (kds.map fun p => keyV p.1)) := fun P pp G H vs Q s hI ⟨v, r, e1, rd, er⟩ q => by
  obtain ⟨a, kvs, rfl, e2, kr⟩ := dI.h G H v s hI rd
  rw [e1, show r = [] from er]
  refine ⟨a, kvs, rfl, e2, fun n hn => ?_⟩
  have hg : G n = none := s.free hn
  have e3 : (kvs.map fun kv => kV kv.1) = (kds.map fun p => kV p.1) := by
    have := congrArg (List.map kV) kr.keys
    rw [List.map_map, List.map_map] at this
    exact this
  have rk : Reps K G (kds.map fun p => keyV p.1) (kvs.map fun kv => kV kv.1) := by rw [e3]; exact keys_reps kds
  have rd2 : Rep K (upd G n (.lst (kvs.map fun kv => kV kv.1))) (.lst (kds.map fun p => keyV p.1)) (.ref n) := ⟨n, _, rfl, upd_same, rk.mono (Evl.Ex.new hg)⟩
  exact q (.ref n) _ (upd G n (.lst (kvs.map fun kv => kV kv.1))) _ I (Evl.Ex.new hg) (same_upd2 s) (hI.keep hn s) rd2 pp
theorem pv_listDI {p : Pos} (hm : X.mg "list" = none) (h : PV X I e δ z) (dI : DcI I z kds) (hc : X.calm = true := by rfl) (hg : Gl X "list" := by rfl)
    (he : starEach [e] X.env = (false, eval e X.env) :: starEach [] X.env := by rfl) (hpl : (backTo pos (starEach [] X.env)).any (·.1) = false := by rfl) : PV X I (.Call (.Name "list" p) [e] [] pos) δ (.lst (kds.map fun p => keyV p.1)) :=
  pv_ct (call_listD hc) hm (va_cons h va_nil he) (pn_listDI dI) (by decide +kernel) hg (by decide) (by decide) he hpl
theorem s_clearD (c : Rc X.K) {apos ep : Pos} (ho : PV X I o δ (.adr q)) (hI0 : I = c.fill (iDic X.K q kds)) (nx : κ.nx δ (c.fill (iDic X.K q [])))
    (hbase : attributeBase o "clear" X.env (eval o X.env) = eval o X.env := by rfl)
    (hline : (apos.endLine == pos.line) = true := by rfl)
    (hs : swapsWith (.Call (.Attribute o "clear" apos) [] [] pos) none ep.line X.env = pure false := by rfl) : S1 X W (.Expr (.Call (.Attribute o "clear" apos) [] [] pos) ep) δ I κ := fun σ G H E hE s hI k =>
  PS.wp (ps_expr (pe_dclear peC hbase hline) hs) (ho W (κ.r δ) (fun z I1 => z = .adr q ∧ I1 = I) ⟨rfl, rfl⟩ σ G H _ hE s hI (k.kx hE) fun v d1 G1 H1 I1 s1 t1 h1 r1 ⟨ed, ei⟩ => by
    subst ed ei hI0
    obtain ⟨kvs, hp, rv, gp⟩ := h1.dic
    obtain rfl : v = .ref q := r1
    refine ⟨?_, q, kvs, rfl, rfl, hp, ?_⟩
    · exact .inr (.inr (.inl ⟨rfl, .inl ⟨_, hp⟩⟩))
    · exact k.nx δ σ G1 _ _ s1 (same_upd t1 gp) (h1.dicSet (kds' := []) (kvs' := []) rfl) (hE.mono s1) nx)
end
end DL
set_option Elab.async false
set_option linter.all false
set_option maxRecDepth 100000
set_option maxHeartbeats 1000000
namespace DL
open PySem PySem.Spec PyProof.Rows L2
section
variable {X : Cx} {W : WX} {elt tg iter : Expr} {scope : Scope} {δ : DEnv} {I : Iv X.K} {Ok : Iv X.K → Prop}
end
end DL
namespace LK
open PySem PySem.Spec PyProof.Rows L2 DL
section
variable {P : Program} {w : World} {K : PySem.W.Frag} {mg : Str → Option Value} {base : Heap}
end
end LK
set_option Elab.async false
set_option linter.all false
set_option maxRecDepth 100000
set_option maxHeartbeats 1000000
namespace LK
open PySem PySem.Spec PyProof.Rows L2 DL
def nameFault (p : Str × Wv) : Option (Str × Option Nat) := if isNameS p.1 = true then (lookFault p.2).map fun o => (p.1, o) else some (p.1, none)
def castFault (ws : List (Str × Wv)) : Option (Str × Option Nat) := if 1 ≤ ws.length ∧ ws.length ≤ 6 then (sortW ws).findSome? nameFault else some ("", none)
abbrev wksD (K : PySem.W.Frag) (ws : List (Str × Wv)) : D := dicT ws (·.1) (fun p => p.2.d K)
abbrev ctbD (K : PySem.W.Frag) (ws : List (Str × Wv)) : D := dicT (sortW ws) (·.1) (fun p => .tup (p.2.ths.map (Th.d K)))
structure WksOk (ws : List (Str × Wv)) : Prop where
  nd : (ws.map (·.1)).Nodup
  ok : ∀ p ∈ ws, p.2.ok
  ln : ∀ p ∈ ws, p.1.length ≤ 100000
  sz : ws.length ≤ 50
def sCInit {K : PySem.W.Frag} : Spec K := fun I ds P R => ∃ (x dx : Addr) (J : Iv K) (ws : List (Str × Wv)), ds = [.adr x, wksD K ws] ∧ I = J.and (iSl K x (cC K) dx []) ∧ WksOk ws ∧ match castFault ws with
  | none => P .non (J.and (iSl K x (cC K) dx [some (ctbD K ws)]))
  | some no => R (He.ga K "InvalidCast") (xCast K no.1 no.2) I
theorem names_D (ws : List (Str × Wv)) : (sortS (ws.map (·.1))).map D.str = (sortW ws).map fun p => D.str p.1 := by
  rw [← sortW_names, List.map_map]; rfl
theorem kb0 {K : PySem.W.Frag} {x qual : Str} {params : Arguments} {body : List Stmt} {scope : Scope} {kws : List (Str × V)} {f : Addr} {fd : FuncData} {ps : List Str} (F : FunD K x qual params body scope [] kws f fd) (n : Nat) (hn : ps.length = n)
    (h : ∀ (kV doc pm : Value) (an : Option Addr) (cdv ct : Value) (us : List Value), us.length = ps.length → bindArgs (PySem.W.fnOf x qual params body scope .none kV doc pm an cdv ct) ⟨us, []⟩ = pure (ps.zip us)) : KBn K fd ps n [] (fun us _ => us) (fun vs _ => vs) :=
  ⟨fun s us ws _ l1 l2 => F.bindsA h s us (by rw [l1, hn]), fun r1 _ => r1⟩
section
variable {P : Program} {w : World} {K : PySem.W.Frag} {mg : Str → Option Value} {base : Heap}
theorem M_cInit (E : Env P w K mg base) : ∃ fd, FnOk P w K mg base (L2.CX P w) 4 (He.ma K (cC K) "__init__") fd ["self", "works"] (spD K sCInit) ∧ ∃ g, KBn K fd ["self", "works"] 2 [] g fun vs _ => vs := by
  obtain ⟨fd, F⟩ := E.has _ in_m_Cast_init
  have F : FunD K "__init__" "Cast.__init__" (defArgs m_Cast_init) (defBody m_Cast_init) (defScope m_Cast_init) [] [] (He.ma K (cC K) "__init__") fd := F
  have b0 := kb0 (ps := ["self", "works"]) F 2 rfl fun _ _ _ _ _ _ us hl => match us, hl with | [_, _], _ => rfl
  refine ⟨fd, ?_, _, b0⟩
  refine fn_d F sc_m_Cast_init (fun I ds P R h => by obtain ⟨x, dx, J, ws, rfl, _⟩ := h; rfl) fun cdv A outer s H EE hr tk po I ds Q R h => ?_
  obtain ⟨x, dx, J, ws, rfl, rfl, o, q⟩ := h
  have nd := sc_m_Cast_init.nd
  have hu := hr.units
  have hu1 := hr.u1
  have hr1 : Room 1 _ := hr.mono (by decide)
  have hr2 : Room 2 _ := hr.mono (by decide)
  have hl : (ws.map fun x => ((.inr x.1 : Key), x.2.d K)).length = ws.length := by simp
  refine s_cons (s_ifP (ptn (pt_chn op_le op_le pv_int (pv_len E.b_len (pv_w (d := wksD K ws) 1 rfl) trivial) p2_le (pv_gint E.c_MOST_WORKS) p2_le)) (fun e => ?_) fun e => s_nil ?_)
  · have e2 : castFault ws = some (("" : Str), none) := by
      unfold castFault
      rw [if_neg]
      rw [hl] at e
      simp only [Bool.not_eq_true', Bool.and_eq_false_iff, decide_eq_false_iff_not] at e
      omega
    rw [e2] at q
    exact s_one (s_rz (hr := hr2) tk E.x_InvalidCast E.ini_InvalidCast (ea_cons (pv_str.ev (ea_cons (pv_non.ev (ea_nil ⟨rfl, by simp, q⟩))))))
  have hsz : 1 ≤ ws.length ∧ ws.length ≤ 6 := by
    rw [hl] at e
    simp only [Bool.not_eq_false', Bool.and_eq_true, decide_eq_true_eq] at e
    omega
  have hF : castFault ws = (sortW ws).findSome? nameFault := by unfold castFault; rw [if_pos hsz]
  rw [hF] at q
  have hsub : ∀ p ∈ sortW ws, p ∈ ws := fun p hp => (sortW_perm ws).mem_iff.mp hp
  have hsl : (sortW ws).length ≤ 6 := by rw [(sortW_perm ws).length_eq]; exact hsz.2
  have hnd2 := sortW_nd o.nd
  have hgo : ∀ p ∈ sortW ws, getG (ws.map fun x => ((.inr x.1 : Key), x.2.d K)) (.inr p.1) = some (p.2.d K) := fun p hp => get_dicT (k := fun x : Str × Wv => x.1) (v := fun x => x.2.d K) o.nd (hsub p hp)
  have hnm := names_D ws
  unfold ctbD at q
  generalize hSW : sortW ws = sw at *
  refine s_cons (s_forT (xs := sw) (g := fun p => D.str p.1) po (by rw [← hnm]; exact vi_lst (pv_sortedS E.b_sorted (pv_listD E.b_list (pv_v 1)) (by rw [List.length_map]; omega))) (fun p δ' I' => I' = J.and (iSl K x (cC K) dx []) ∧ (∀ y ∈ p, nameFault y = none) ∧ DLe δ' [some (.adr x), some (wksD K ws), none]) ⟨rfl, (fun y hy => nomatch hy), .of rfl rfl⟩ ?_ ?_)
  · rintro p ⟨n, v⟩ r δ' I' e2 ⟨rfl, hp, hle⟩
    have hm : (n, v) ∈ sw := by rw [e2]; simp
    have hw := hsub _ hm
    refine ⟨_, [2], (bind_name 2).le hle, ?_⟩
    refine s_cons (s_ifP (ptn (pt_v (pv_def (D_is_name E) hr1 (va_cons (pv_v 2) va_nil) fun P pp => ⟨n, rfl, o.ln _ hw, pp⟩))) (fun e3 => ?_) fun e3 => s_nil ?_)
    · refine s_one (s_rz (hr := hr2) tk E.x_InvalidCast E.ini_InvalidCast (ea_cons ((pv_v 2).ev (ea_cons (pv_non.ev (ea_nil ⟨rfl, by simp, ?_⟩))))))
      have e4 : nameFault (n, v) = some (n, none) := by
        unfold nameFault
        rw [if_neg (by simpa using e3)]
      rw [e2, findSome_hit hp e4] at q
      exact q
    · have e3' : isNameS n = true := by simpa using e3
      refine s_one (s_expr (ev_def tk (D_look E) hr (ea_cons ((pv_v 2).ev (ea_cons ((pv_dget hu1 (.inl rfl) (pv_v 1) (pv_v 2) rfl (hgo _ hm)).ev (ea_nil ⟨n, v, rfl, o.ok _ hw, ?_⟩)))))))
      have e4 : nameFault (n, v) = (lookFault v).map fun o => (n, o) := by
        unfold nameFault
        rw [if_pos e3']
      cases hh : lookFault v with
      | none =>
        refine ⟨rfl, fun y hy => ?_, .of rfl rfl⟩
        rcases List.mem_append.mp hy with h | h
        · exact hp y h
        · rw [List.mem_singleton.mp h, e4, hh]; rfl
      | some oo =>
        rw [hh] at e4
        rw [e2, findSome_hit hp e4] at q
        exact q
  · rintro δ' I' ⟨rfl, hp, hle⟩
    refine SX.le hle ?_
    have e5 : sw.findSome? nameFault = none := List.findSome?_eq_none_iff.mpr hp
    rw [e5] at q
    have hths : ∀ p ∈ sw, p.2.d K = .lst (p.2.ths.map (Th.d K)) ∨ p.2.d K = .lsf (p.2.ths.map (Th.d K)) ∨ p.2.d K = .tup (p.2.ths.map (Th.d K)) := fun p hpm => by
      have hf := hp p hpm
      unfold nameFault at hf
      split at hf
      · cases hv : p.2 with
        | ls ths => exact .inl rfl
        | tp ths => exact .inr (.inr rfl)
        | ot d => rw [hv] at hf; cases hf
      · cases hf
    refine s_one (s_slot (.r J .here) E.k_Cast.sc E.s_Cast_table (pv_v 0) (pv_dcT (xs := sw) (g := fun p => D.str p.1) (fun p => .inr p.1) (fun p => .tup (p.2.ths.map (Th.d K))) [("name", 2)] (fun p => [some (.adr x), some (wksD K ws), some (.str p.1)]) (by rw [← hnm]; exact vi_lst (pv_sortedS E.b_sorted (pv_listD E.b_list (pv_v 1)) (by rw [List.length_map]; omega))) (by omega) (fun p s H C cl fp => bind_name 2) (fun p hp J s H C cl fp => pv_v 2) (fun p hp J s H C cl fp => pv_tuple E.b_tuple (pv_dget hu1 (.inl rfl) (pv_v 1) (pv_v 2) rfl (hgo _ hp)) (hths p hp)) ?_) ?_)
    · exact nodup_key hnd2
    · exact q
end
end LK
set_option Elab.async false
set_option linter.all false
set_option maxRecDepth 100000
set_option maxHeartbeats 1000000
namespace LK
open PySem PySem.Spec PyProof.Rows L2 DL
abbrev Tb := List (Str × List Wr)
structure RowOk (ws : List Wr) : Prop where
  g : ∀ w ∈ ws, GoodR w
  n : 1 ≤ ws.length
  m : ws.length ≤ 8
  k : kindFault (ws.map (·.k)) = none
structure TbOk (t : Tb) : Prop where
  nd : (t.map (·.1)).Nodup
  nm : ∀ p ∈ t, isNameS p.1 = true
  row : ∀ p ∈ t, RowOk p.2
  n : 1 ≤ t.length
  m : t.length ≤ 6
def lsW (ws : List Wr) : Wv := .ls (ws.map .wr)
def tpW (ws : List Wr) : Wv := .tp (ws.map .wr)
theorem kinds_map (ws : List Wr) : (ws.map Th.wr).map Th.kind = ws.map (·.k) := by rw [List.map_map]; rfl
structure PassW (f : Str × List Wr → Wv) : Prop where
  h : ∀ p, f p = lsW p.2 ∨ f p = tpW p.2
theorem PassW.look {f : Str × List Wr → Wv} (h : PassW f) {p : Str × List Wr} (r : RowOk p.2) : lookFault (f p) = none := by
  have e : lookThs (p.2.map Th.wr) = none := by
    unfold lookThs
    rw [List.length_map, if_pos ⟨r.n, r.m⟩, kinds_map, r.k]; rfl
  rcases h.h p with h | h <;> rw [h] <;> exact e
theorem PassW.ths {f : Str × List Wr → Wv} (h : PassW f) (p : Str × List Wr) : (f p).ths = p.2.map Th.wr := by
  rcases h.h p with h | h <;> rw [h] <;> rfl
theorem map_fst {α β : Type} (f : Str × α → β) (t : List (Str × α)) : (t.map fun p => (p.1, f p)).map (·.1) = t.map (·.1) := by rw [List.map_map]; rfl
theorem sortW_map' {α β : Type} (f : Str × α → β) {ws : List (Str × α)} (nd : (ws.map (·.1)).Nodup) : sortW (ws.map fun p => (p.1, f p)) = (sortW ws).map fun p => (p.1, f p) := by
  refine (sortW_uniq (by rw [map_fst]; exact nd) ?_ ((sortW_perm ws).map _)).symm
  exact List.pairwise_map.mpr (sortW_pw ws)
section
variable {K : PySem.W.Frag} {t : Tb} {f : Str × List Wr → Wv}
theorem TbOk.none (h : TbOk t) (hf : PassW f) : castFault (t.map fun p => (p.1, f p)) = none := by
  unfold castFault
  rw [List.length_map, if_pos ⟨h.n, h.m⟩, List.findSome?_eq_none_iff]
  intro q hq
  obtain ⟨p, hp, rfl⟩ := List.mem_map.mp ((sortW_perm _).mem_iff.mp hq)
  unfold nameFault
  rw [if_pos (h.nm p hp), hf.look (h.row p hp)]; rfl
end
theorem passL : PassW fun p => lsW p.2 := ⟨fun _ => .inl rfl⟩
section
variable {X : Cx} {W : WX} {R : Rx X.K} {I : Iv X.K} {e : Expr} {δ : DEnv} {P : D → Iv X.K → Prop} {pos p : Pos} {t : Tb}
theorem ev_cast (E : Env X.prog X.w X.K X.mg X.base) (tk : Takes X W) (hr : Room 5 X.A) (h : EvX X W R e δ I fun d I1 => ∃ ws, d = wksD X.K ws ∧ WksOk ws ∧ match castFault ws with
    | none => P (.slo (cC X.K) [ctbD X.K ws]) I1
    | some no => R (He.ga X.K "InvalidCast") (xCast X.K no.1 no.2) I1)
    (hg : Gl X "Cast" := by rfl) (hall : (backToKw pos (keywordEach [] X.env)).all (·.1.isSome) = true := by rfl) (hks : (backToKw pos (keywordEach [] X.env)).filterMap (·.1) = ([] : List Str) := by rfl)
    (h1 : starEach [e] X.env = (false, eval e X.env) :: starEach [] X.env := by rfl) (hpl : ((backTo pos (starEach [e] X.env)).any (·.1) || (backToKw pos (keywordEach [] X.env)).any (·.1.isNone)) = false := by rfl) : EvX X W R (.Call (.Name "Cast" p) [e] [] pos) δ I P := by
  obtain ⟨fI, F, g, b1⟩ := M_cInit E
  refine ev_makeSl (ks := []) (fun ds _ => ds) tk E.m_Cast F hr E.g_Cast b1 (fun r1 _ => r1) (ea_cons (h.imp fun d I1 hh => ?_) h1) hg (by decide) hall hks h1 hpl
  obtain ⟨ws, rfl, o, q⟩ := hh
  refine ea_nil (ek_nil ⟨rfl, rfl, fun y dy na => ⟨y, dy, I1, ws, rfl, rfl, o, ?_⟩⟩)
  cases hf : castFault ws with
  | none =>
    rw [hf] at q
    exact ⟨rfl, [ctbD X.K ws], rfl, q⟩
  | some no =>
    rw [hf] at q
    exact ⟨_, rfl, q⟩
end
end LK
set_option Elab.async false
set_option linter.all false
set_option maxRecDepth 100000
set_option maxHeartbeats 1000000
namespace DL
open PySem PySem.Spec PyProof.Rows L2
theorem pn_tupJ {K : PySem.W.Frag} {I : Iv K} {d : D} {ds : List D} (l : LsI I d ds) : PN K I (fun xs H Q => ∃ p ys, xs = [.ref p] ∧ ((SqL K H p ys ∧ ∀ l, H l = none → Q (.ref l) (upd H l (.tup ys))) ∨ (SqT K H p ys ∧ Q (.ref p) H))) [d] (.tup ds) := fun P pp G H vs Q s hI ⟨v, r, e1, e2, e3⟩ q => by
  obtain ⟨a, ws, ev, ho, rr⟩ := l.h G H v s hI e2
  refine ⟨a, ws, by rw [e1, ev, show r = [] from e3], .inl ⟨SqL.of ho, fun n hn => ?_⟩⟩
  have hg : G n = none := s.free hn
  exact q (.ref n) (.tup ds) (upd G n (.tup ws)) _ I (Evl.Ex.new hg) (same_upd2 s) (hI.keep hn s) ⟨n, ws, rfl, SqT.of upd_same, rr.mono (Evl.Ex.new hg)⟩ pp
theorem pv_tupJ {X : Cx} {I : Iv X.K} {e : Expr} {δ : DEnv} {pos p : Pos} {d : D} {ds : List D} (hm : X.mg "tuple" = none) (h : PV X I e δ d) (l : LsI I d ds) (hg : Gl X "tuple" := by rfl)
    (he : starEach [e] X.env = (false, eval e X.env) :: starEach [] X.env := by rfl) (hpl : (backTo pos (starEach [] X.env)).any (·.1) = false := by rfl) : PV X I (.Call (.Name "tuple" p) [e] [] pos) δ (.tup ds) :=
  pv_ct call_tuple_of hm (va_cons h va_nil he) (pn_tupJ l) (by decide +kernel) hg (by decide) (by decide) he hpl
end DL
namespace LK
open PySem PySem.Spec PyProof.Rows L2 DL
structure TbI {K : PySem.W.Frag} (J : Iv K) (m : Addr) (t : Tb) (kds : List (Key × D)) : Prop where
  o : TbOk t
  d : DcI J (.adr m) kds
  k : kds.map (·.1) = t.map fun p => (.inr p.1 : Key)
  l : ∀ p ∈ t, ∃ q, getG kds (.inr p.1) = some (.adr q) ∧ LsI J (.adr q) (p.2.map (wrD K))
theorem TbI.wk {K : PySem.W.Frag} {I J : Iv K} {m : Addr} {t : Tb} {kds : List (Key × D)} (w : Wk I J) (h : TbI J m t kds) : TbI I m t kds := ⟨h.o, h.d.wk w, h.k, fun p hp => let ⟨q, e, l⟩ := h.l p hp; ⟨q, e, l.wk w⟩⟩
section
variable {P : Program} {w : World} {K : PySem.W.Frag} {mg : Str → Option Value} {base : Heap}
end
section
variable {X : Cx} {W : WX} {R : Rx X.K} {I : Iv X.K} {e : Expr} {δ : DEnv} {P : D → Iv X.K → Prop} {pos p : Pos} {t : Tb}
end
end LK
set_option Elab.async false
set_option linter.all false
set_option maxRecDepth 100000
set_option maxHeartbeats 1000000
namespace LK
open PySem PySem.Spec PyProof.Rows L2 DL
section
variable {K : PySem.W.Frag} {t : Tb} {p : Str × List Wr}
end
section
variable {P : Program} {w : World} {K : PySem.W.Frag} {mg : Str → Option Value} {base : Heap}
end
section
variable {X : Cx} {W : WX} {R : Rx X.K} {I : Iv X.K} {e : Expr} {δ : DEnv} {P : D → Iv X.K → Prop} {pos apos : Pos} {t : Tb}
end
end LK
set_option Elab.async false
set_option linter.all false
set_option maxRecDepth 100000
set_option maxHeartbeats 1000000
namespace LK
open PySem PySem.Spec PyProof.Rows L2 DL
section
variable {X : Cx} {W : WX} {R : Rx X.K} {I : Iv X.K} {e : Expr} {δ : DEnv} {P : D → Iv X.K → Prop} {pos apos : Pos} {t : Tb}
end
end LK
set_option Elab.async false
set_option linter.all false
set_option maxRecDepth 100000
set_option maxHeartbeats 1000000
namespace LK
open PySem PySem.Spec PyProof.Rows L2 DL
def rowOf (t : Tb) (n : Str) : Option (List Wr) := (t.find? fun p => decide (p.1 = n)).map (·.2)
theorem rowOf_none {t : Tb} {n : Str} : rowOf t n = none ↔ n ∉ t.map (·.1) := by
  unfold rowOf
  rw [Option.map_eq_none_iff, List.find?_eq_none]
  constructor
  · intro h hn
    obtain ⟨p, hp, e⟩ := List.mem_map.mp hn
    exact h p hp (by simpa using e)
  · intro h p hp e
    exact h (List.mem_map.mpr ⟨p, hp, by simpa using e⟩)
def total (t : Tb) : Nat := (t.map fun p => p.2.length).sum
section
variable {P : Program} {w : World} {K : PySem.W.Frag} {mg : Str → Option Value} {base : Heap}
end
section
variable {X : Cx} {W : WX} {R : Rx X.K} {I : Iv X.K} {a b : Expr} {δ : DEnv} {P : D → Iv X.K → Prop} {pos p : Pos} {t : Tb} {n : Str} {ws : List Wr}
end
end LK
set_option Elab.async false
set_option linter.all false
set_option maxRecDepth 100000
set_option maxHeartbeats 1000000
namespace LK
open PySem PySem.Spec PyProof.Rows L2 DL
section
variable {P : Program} {w : World} {K : PySem.W.Frag} {mg : Str → Option Value} {base : Heap} {f : Addr} {fd : FuncData}
theorem ok_mix (F : FnP K "_law_mix" "_law_mix" f_Lmix f fd) (E : Env P w K mg base) : FnOk P w K mg base (L2.CX P w) 1 f fd ["_law_script", "_law_seed"] (spD K (sMix 14)) := by
  refine fn_d F sc_f_Lmix (fun I ds P R h => by obtain ⟨ns, seed, rfl, _⟩ := h; rfl) fun cdv A outer s H EE hr tk po I ds Q R h => ?_
  obtain ⟨ns, seed, rfl, hl, q⟩ := h
  have nd := sc_f_Lmix.nd
  refine s_cons (s_setP 2 (pv_v 1) ?_)
  refine s_cons (s_for po (ei_lst ((pv_v (d := .lsf (ns.map D.int)) 0).ev ⟨_, .inr rfl, fun i δ' I' => I' = I ∧ ∃ (st : Int) (o : Option D), δ' = [some (.lsf (ns.map D.int)), some (.int seed), some (.int st), o], ⟨rfl, seed, none, rfl⟩, ?_, ?_⟩)))
  · rintro i d δ' I' hd ⟨rfl, st, o, rfl⟩
    obtain ⟨n, hn⟩ : ∃ n, d = .int n := by
      rw [List.getElem?_map] at hd
      cases e : ns[i]? with
      | none => rw [e] at hd; cases hd
      | some n => rw [e] at hd; exact ⟨n, (Option.some.inj hd).symm⟩
    subst hn
    refine ⟨_, [3], bind_name 3, ?_⟩
    refine s_one (s_setP 2 (pv_op op_modN (pv_ct call_int1 E.b_int (va_cons (pv_op op_add (pv_op op_add (pv_op op_mul (pv_v 2) pv_int (p2_mul (.inr (by decide)))) (pv_op op_modN (pv_ct call_int1 E.b_int (va_cons (pv_v 3) va_nil) pn_int) pv_int (p2_mod (by decide))) p2_add) pv_int p2_add) va_nil) pn_int) pv_int (p2_mod (by decide))) ?_)
    exact ⟨rfl, _, _, rfl⟩
  · rintro δ' I' ⟨rfl, st, o, rfl⟩
    exact s_one (s_ret (ev_reg (ev_lstMM (ea_cons ((pv_v 2).ev (ea_cons (ev_ct call_list_of E.b_list (ea_cons ((pv_v 0).ev (ea_nil (on_listM (.inr (.inl rfl)) fun b hb => ea_cons (pv_int.ev (ea_cons (pv_int.ev (ea_nil ⟨by show 4 ≤ 1000; decide, fun a ha => ⟨_, iDr_of2 hl, q a b⟩⟩)))))))))))))))
theorem modm {k : Int} {l : Nat} : ∃ j : Nat, k.fmod (if (l : Int) > 1 then (l : Int) else 1) = j ∧ (j < l ∨ (l = 0 ∧ j = 0)) := by
  by_cases h : (l : Int) > 1
  · rw [if_pos h, Int.fmod_eq_emod_of_nonneg _ (by omega)]
    have h1 := Int.emod_nonneg k (show (l : Int) ≠ 0 by omega)
    have h2 := Int.emod_lt_of_pos k (show (0 : Int) < l by omega)
    exact ⟨(k % (l : Int)).toNat, by omega, by omega⟩
  · rw [if_neg h]
    exact ⟨0, by rw [Int.fmod_one]; rfl, by omega⟩
theorem atI_nat' {α : Type} {xs : List α} {j : Nat} {x : α} (h : xs[j]? = some x) : atI xs (j : Int) = some x := by
  have hl := (List.getElem?_eq_some_iff.mp h).1
  unfold atI ixN
  rw [if_pos (by omega), if_pos (by omega)]
  simpa using h
theorem ixN_nat {n j : Nat} (h : j < n) : ixN n (j : Int) = some j := by
  unfold ixN
  rw [if_pos (by omega), if_pos (by omega)]
  simp
theorem fmod_pos {z n : Int} (h : 0 < n) : 0 ≤ z.fmod n ∧ z.fmod n < n := by
  rw [Int.fmod_eq_emod_of_nonneg _ (by omega)]
  exact ⟨Int.emod_nonneg _ (by omega), Int.emod_lt_of_pos _ h⟩
theorem ok_next (F : FnP K "_law_next" "_law_next" f_Lnext f fd) (E : Env P w K mg base) : FnOk P w K mg base (L2.CX P w) 1 f fd ["_law_h", "_law_bound"] (spD K sNext) := by
  refine fn_d F sc_f_Lnext (fun I ds P R h => by obtain ⟨a, b, c, n, rfl, _⟩ := h; rfl) fun cdv A outer s H EE hr tk po I ds Q R h => ?_
  obtain ⟨a, b, c, n, rfl, rfl, n0, n1, q⟩ := h
  have nd := sc_f_Lnext.nd
  refine iDr_open fun st k m ns hl => ?_
  have eA : ∀ st k ns, c.fill (iDrC K a b st k m ns) = (c.comp (.l .here (iLst K b (ns.map D.int)))).fill (iLst K a [.int st, .adr b, .int k, .int m]) := fun st k ns => (fill_comp (I := iLst K a [.int st, .adr b, .int k, .int m]) (.l .here (iLst K b (ns.map D.int))) c).symm
  have eB : ∀ st k ns, c.fill (iDrC K a b st k m ns) = (c.comp (.r (iLst K a [.int st, .adr b, .int k, .int m]) .here)).fill (iLst K b (ns.map D.int)) := fun st k ns => (fill_comp (I := iLst K b (ns.map D.int)) (.r (iLst K a [.int st, .adr b, .int k, .int m]) .here) c).symm
  -- the place in the script
  obtain ⟨j, hj, hjl⟩ := modm (k := k) (l := (ns.map D.int).length)
  rw [List.length_map] at hjl
  obtain ⟨z, hz, hz0⟩ : ∃ z : Int, (ns.map D.int ++ [D.int 0])[j]? = some (.int z) ∧ (ns = [] → z = 0) := by
    rcases hjl with h | ⟨h, h0⟩
    · exact ⟨ns[j], by rw [List.getElem?_append_left (by simpa using h), List.getElem?_map, List.getElem?_eq_getElem h]; rfl, fun e => by subst e; simp at h⟩
    · have e : ns = [] := List.length_eq_zero_iff.mp h
      subst e h0
      exact ⟨0, rfl, fun _ => rfl⟩
  have m0 : (if ((ns.map D.int).length : Int) > 1 then ((ns.map D.int).length : Int) else 1) ≠ 0 := by split <;> omega
  refine s_cons (s_setP (d := .int z) 2 (pv_ix ix_list (pv_op op_cat (pv_ix ix_list (pv_v 0) pv_int (p2_ixM _ (by rfl) (eA _ _ _))) (pv_lst (va_cons pv_int va_nil)) (p2_catMK _ (by rw [List.length_map]; show ns.length + 1 ≤ _; omega) (eB _ _ _))) (pv_op op_modN (pv_ct call_int1 E.b_int (va_cons (pv_ix ix_list (pv_v 0) pv_int (p2_ixM _ (by rfl) (eA _ _ _))) va_nil) pn_int) (pv_cb (call_max2 rfl) E.b_max (va_cons pv_int (va_cons (pv_cb call_len_seq E.b_len (va_cons (pv_ix ix_list (pv_v 0) pv_int (p2_ixM _ (by rfl) (eA _ _ _))) va_nil) (pn_lenM _ (eB _ _ _))) va_nil)) pn_max2) (p2_mod m0)) (p2_ixL (by rw [hj]; exact atI_nat' hz))) ?_)
  refine s_cons (s_ifP (pt_cmp op_ge (pv_v 2) (pv_op op_pow pv_int pv_int (p2_pow ⟨by decide, by decide, by decide⟩)) p2_ge) (fun e => ?_) fun e => s_nil ?_)
  · have e2 : (10 : Int) ^ (18 : Int).toNat ≤ z := by simpa using e
    have hjn : j < ns.length := by
      rcases hjl with h | ⟨h, h0⟩
      · exact h
      · have e3 : ns = [] := List.length_eq_zero_iff.mp h
        rw [hz0 e3] at e2
        exact absurd e2 (by decide)
    refine s_cons (s_setItem (d := .int (z.fdiv n)) _ (pv_ix ix_list (pv_v 0) pv_int (p2_ixM _ (by rfl) (eA _ _ _))) (pv_op op_modN (pv_ct call_int1 E.b_int (va_cons (pv_ix ix_list (pv_v 0) pv_int (p2_ixM _ (by rfl) (eA _ _ _))) va_nil) pn_int) (pv_cb call_len_seq E.b_len (va_cons (pv_ix ix_list (pv_v 0) pv_int (p2_ixM _ (by rfl) (eA _ _ _))) va_nil) (pn_lenM _ (eB _ _ _))) (p2_mod (by rw [List.length_map]; omega))) (pv_op op_fdivN (pv_v 2) (pv_v 1) (p2_fdiv ⟨by omega, by omega⟩)) (j := j) ?_ ?_ (eB _ _ _))
    · have el : (if ((ns.map D.int).length : Int) > 1 then ((ns.map D.int).length : Int) else 1) = ((ns.map D.int).length : Int) := by
        rw [List.length_map]
        split <;> omega
      rw [← el, hj]
      exact ixN_nat (by rw [List.length_map]; exact hjn)
    · refine s_one (s_ret (ev_reg (PV.ev (pv_op op_modN (pv_ct call_int1 E.b_int (va_cons (pv_v 2) va_nil) pn_int) (pv_v 1) (p2_mod (by omega))) ⟨c.fill (iDr K a b), ?_, q _ (fmod_pos n0).1 (fmod_pos n0).2⟩)))
      show DL.Sub ((c.comp (.r (iLst K a [.int st, .adr b, .int k, .int m]) .here)).fill (iLst K b ((ns.map D.int).set j (.int (z.fdiv n))))) (c.fill (iDr K a b))
      rw [← List.map_set, ← eB st k (ns.set j (z.fdiv n))]
      exact (iDr_of (by rw [List.length_set]; exact hl)).fill c
  · refine s_cons (s_setItem (d := .int ((st * 48271 + z * 69621 + 11).fmod 2147483647)) _ (pv_v 0) pv_int (pv_op op_modN (pv_ct call_int1 E.b_int (va_cons (pv_op op_add (pv_op op_add (pv_op op_mul (pv_ix ix_list (pv_v 0) pv_int (p2_ixM _ (by rfl) (eA _ _ _))) pv_int (p2_mul (.inr (by decide)))) (pv_op op_mul (pv_v 2) pv_int (p2_mul (.inr (by decide)))) p2_add) pv_int p2_add) va_nil) pn_int) pv_int (p2_mod (by decide))) (j := 0) (by rfl) ?_ (eA _ _ _))
    refine SX.eq (eA _ k ns).symm ?_
    refine s_cons (s_setItem (d := .int (k + 1)) _ (pv_v 0) pv_int (pv_op op_add (pv_ix ix_list (pv_v 0) pv_int (p2_ixM _ (by rfl) (eA _ _ _))) pv_int p2_add) (j := 2) (by rfl) ?_ (eA _ _ _))
    refine SX.eq (eA _ (k + 1) ns).symm ?_
    exact s_one (s_ret (ev_reg (PV.ev (pv_op op_modN (pv_ct call_int1 E.b_int (va_cons (pv_op op_fdivN (pv_ix ix_list (pv_v 0) pv_int (p2_ixM _ (by rfl) (eA _ _ _))) pv_int (p2_fdiv ⟨by decide, by decide⟩)) va_nil) pn_int) (pv_v 1) (p2_mod (by omega))) ⟨c.fill (iDr K a b), (iDr_of hl).fill c, q _ (fmod_pos n0).1 (fmod_pos n0).2⟩)))
end
abbrev ALPH : List Nat := [97, 98, 120, 39, 32, 48, 47, 57, 126, 122, 59, 58]
def mx (m : Int) : Int := if m < 3 then 3 else m
def sLetters {K : PySem.W.Frag} : Spec K := fun I ds P _ => ∃ (a b : Addr) (c : Rc K) (most : Int), ds = [.adr a, .int most] ∧ I = c.fill (iDr K a b) ∧ 0 ≤ most ∧ most < 10000 ∧
  ∀ s : Str, (s.length : Int) ≤ mx most → (∀ ch ∈ s.cps.toList, ch ∈ ALPH) → P (.str s) I
section
variable {P : Program} {w : World} {K : PySem.W.Frag} {mg : Str → Option Value} {base : Heap} {f : Addr} {fd : FuncData}
theorem ok_letters (F : FnP K "_law_letters" "_law_letters" f_Lletters f fd) (E : Env P w K mg base) (DN : Def P w K mg base "_law_next" 1 ["_law_h", "_law_bound"] [] sNext) : FnOk P w K mg base (L2.CX P w) 2 f fd ["_law_h", "_law_most"] (spD K sLetters) := by
  refine fn_d F sc_f_Lletters (fun I ds P R h => by obtain ⟨a, b, c, m, rfl, _⟩ := h; rfl) fun cdv A outer s H EE hr tk po I ds Q R h => ?_
  obtain ⟨a, b, c, m, rfl, rfl, m0, m1, q⟩ := h
  have nd := sc_f_Lletters.nd
  have hx : 3 ≤ mx m ∧ m ≤ mx m ∧ mx m < 10000 := by unfold mx; split <;> omega
  -- the signs
  refine s_cons (s_set 2 (ev_ix ix_list (PV.ev (pv_lst (va_cons pv_str (va_cons pv_str (va_cons pv_str (va_cons pv_str va_nil))))) (ev_nextP tk DN hr c (pv_v 0) pv_int rfl (by decide) fun k k0 k1 => o2_ixL k0 k1 fun d hd => ?_))))
  obtain ⟨sg, rfl, hsg, hsl⟩ : ∃ sg : Str, d = .str sg ∧ (∀ ch ∈ sg.cps.toList, ch ∈ ALPH) ∧ 0 < sg.cps.toList.length ∧ sg.cps.toList.length ≤ 10 := by
    simp only [List.mem_cons, List.not_mem_nil, or_false] at hd
    rcases hd with rfl | rfl | rfl | rfl <;> exact ⟨_, rfl, by decide +kernel, by decide +kernel, by decide +kernel⟩
  -- the size
  refine s_cons (s_set 3 (ev_ix ix_list (ev_lst ?_)))
  iterate 6 refine ea_cons (pv_int.ev ?_)
  refine ea_cons ((pv_v 1).ev ?_)
  refine ea_cons (ev_nextP tk DN hr c (pv_v 0) (pv_op op_add (pv_v 1) pv_int p2_add) rfl (by omega) fun j j0 j1 => ea_nil ⟨by show 8 ≤ 1000; decide, ?_⟩)
  refine ev_nextP tk DN hr c (pv_v 0) pv_int rfl (by decide) fun k k0 k1 => o2_ixL k0 k1 fun d hd => ?_
  obtain ⟨z, rfl, z0, z1⟩ : ∃ z : Int, d = D.int z ∧ 0 ≤ z ∧ z ≤ mx m := by
    simp only [List.mem_cons, List.not_mem_nil, or_false] at hd
    rcases hd with rfl | rfl | rfl | rfl | rfl | rfl | rfl | rfl <;> exact ⟨_, rfl, by omega, by omega⟩
  -- the text
  refine s_one (s_ret (ev_join (pv_str (w := "")) (ev_lc [("_law_k", 4)] nd (blkOk_by (by rfl)) (ei_range1 E.b_range ((pv_v 3).ev ⟨z, rfl, by omega, by omega, ?_⟩)))))
  refine ⟨by unfold DL.intsFrom; simp; omega, fun i ys => ∃ cs : List Nat, ys = (cs.map one).map D.str ∧ cs.length = i ∧ ∀ ch ∈ cs, ch ∈ ALPH, fun d => [some (.adr a), some (.int m), some (.str sg), some (.int z), some d], ⟨[], rfl, rfl, fun _ h => nomatch h⟩, ?_, ?_⟩
  · rintro i d ys hd ⟨cs, rfl, hcl, hca⟩
    refine ⟨fun b => b = true, fun J s H C cl fp => ⟨bind_name 4, ets_nil ⟨rfl, rfl⟩⟩, fun _ J s H C cl fp => ?_, fun e => nomatch (show false = true from e)⟩
    refine ev_ix ix_str ((pv_v 2).ev (ev_nextP takesF DN hr (.l c J) (pv_v 0) (pv_cb call_len_str E.b_len (va_cons (pv_v 2) va_nil) (pn_lenS (by rw [str_len]; omega))) rfl (by rw [str_len]; omega) fun k k0 k1 => ?_))
    obtain ⟨n, rfl⟩ : ∃ n : Nat, k = n := ⟨k.toNat, by omega⟩
    have hn : n < sg.cps.toList.length := by rw [str_len] at k1; omega
    refine p2_ixS (c := sg.cps.toList[n]) (by rw [str_len, sizeLine_eq]; omega) (atI_nat' (List.getElem?_eq_getElem hn)) _ ⟨rfl, cs ++ [sg.cps.toList[n]], ?_, by simp [hcl], ?_⟩
    · rw [List.map_append, List.map_append]; rfl
    · intro ch hch
      rcases List.mem_append.mp hch with h | h
      · exact hca ch h
      · rw [List.mem_singleton.mp h]; exact hsg _ (List.getElem_mem hn)
  · rintro ys ⟨cs, rfl, hcl, hca⟩
    have hl : cs.length = z.toNat := by rw [hcl]; unfold DL.intsFrom; simp
    refine ⟨cs.map one, rfl, ?_, ?_⟩
    · have e : ((cs.map one).map (·.length)).sum = cs.length := by
        clear hcl hca hl
        induction cs with
        | nil => rfl
        | cons c cs ih => simp only [List.map_cons, List.sum_cons, ih, List.length_cons]; show 1 + _ = _; omega
      rw [e]
      show cs.length + (cs.map one).length * 0 ≤ _
      omega
    · rw [join_ones _ rfl]
      refine q _ ?_ ?_
      · rw [str_len]; show (cs.length : Int) ≤ mx m; omega
      · exact hca
end
abbrev forms5 : List Str := ["say", "ask", "reply", "show", "line"]
structure OneOk (form : Str) (most : Int) (k t l e : Str) : Prop where
  g : GoodW k t l e
  f : k = if form = "line" then ("say" : Str) else form
  ln : form = "line" → l = "" ∧ e = "newline"
  z : ∃ z : Str, (z.length : Int) ≤ most ∧ (∀ ch ∈ z.cps.toList, ch ∈ ALPH) ∧ t = if k = "ask" then z ++ "?" else if k = "reply" then z ++ "y" else z
def sOne {K : PySem.W.Frag} : Spec K := fun I ds P _ => ∃ (a b : Addr) (c : Rc K) (form : Str) (most : Int), ds = [.adr a, .str form, .int most] ∧ I = c.fill (iDr K a b) ∧ form ∈ forms5 ∧ 0 ≤ most ∧ most < 9000 ∧
  ∀ k t l e, OneOk form (mx most) k t l e → P (.tup [.str k, .str t, .str l, .str e]) I
theorem alph_signs : ∀ c ∈ ALPH, c ∈ SIGNS.cps.toList := by decide +kernel
theorem one_q : (∀ c ∈ (Str.ofString "?").cps.toList, c ∈ SIGNS.cps.toList) ∧ (∀ c ∈ (Str.ofString "y").cps.toList, c ∈ SIGNS.cps.toList) := by decide +kernel
theorem app_signs {z y : Str} (h1 : ∀ c ∈ z.cps.toList, c ∈ ALPH) (h2 : ∀ c ∈ y.cps.toList, c ∈ SIGNS.cps.toList) : ∀ c ∈ (z ++ y).cps.toList, c ∈ SIGNS.cps.toList := fun c hc => by
  rw [str_app] at hc
  exact (List.mem_append.mp hc).elim (fun h => alph_signs c (h1 c h)) (h2 c)
theorem app_len {z y : Str} : (z ++ y).length = z.length + y.length := by rw [str_len, str_app, List.length_append, ← str_len, ← str_len]
section
variable {P : Program} {w : World} {K : PySem.W.Frag} {mg : Str → Option Value} {base : Heap} {f : Addr} {fd : FuncData}
theorem ok_one (F : FnP K "_law_one" "_law_one" f_Lone f fd) (DN : Def P w K mg base "_law_next" 1 ["_law_h", "_law_bound"] [] sNext) (DL : Def P w K mg base "_law_letters" 2 ["_law_h", "_law_most"] [] sLetters) : FnOk P w K mg base (L2.CX P w) 3 f fd ["_law_h", "_law_form", "_law_most"] (spD K sOne) := by
  refine fn_d F sc_f_Lone (fun I ds P R h => by obtain ⟨a, b, c, form, m, rfl, _⟩ := h; rfl) fun cdv A outer s H EE hr tk po I ds Q R h => ?_
  obtain ⟨a, b, c, form, m, rfl, rfl, hf, m0, m1, q⟩ := h
  have nd := sc_f_Lone.nd
  have hmx : mx m < 9000 := by unfold mx; split <;> omega
  have hr1 : Room 1 _ := hr.mono (by decide)
  refine s_cons (s_set 3 (ev_def tk DL hr (ea_cons ((pv_v 0).ev (ea_cons ((pv_v 2).ev (ea_nil ⟨a, b, c, m, rfl, rfl, m0, by omega, fun z hz hza => ?_⟩)))))))
  refine s_cons (s_set 4 (ev_pick tk DN hr1 c (pv_lst (va_cons pv_str (va_cons pv_str (va_cons pv_str (va_cons pv_str (va_cons pv_str (va_cons pv_str va_nil))))))) (pv_v 0) (pv_int.ev ⟨_, rfl, rfl, by decide, by decide, by decide⟩) rfl fun dl hl0 => ?_))
  obtain ⟨l, rfl, hl⟩ : ∃ l, dl = .str l ∧ l ∈ leads := by
    simp only [List.mem_cons, List.not_mem_nil, or_false] at hl0
    rcases hl0 with rfl | rfl | rfl | rfl | rfl | rfl <;> exact ⟨_, rfl, by decide +kernel⟩
  refine s_cons (s_set 5 (ev_pick tk DN hr1 c (pv_lst (va_cons pv_str (va_cons pv_str (va_cons pv_str (va_cons pv_str (va_cons pv_str va_nil)))))) (pv_v 0) (pv_int.ev ⟨_, rfl, rfl, by decide, by decide, by decide⟩) rfl fun de he0 => ?_))
  obtain ⟨e, rfl, he⟩ : ∃ e, de = .str e ∧ e ∈ tails := by
    simp only [List.mem_cons, List.not_mem_nil, or_false] at he0
    rcases he0 with rfl | rfl | rfl | rfl | rfl <;> exact ⟨_, rfl, by decide +kernel⟩
  have hzs : ∀ c ∈ z.cps.toList, c ∈ SIGNS.cps.toList := fun c hc => alph_signs c (hza c hc)
  refine s_cons (s_ifP (pt_cmp op_eq (pv_v 1) pv_str (eqV_str form "line")) (fun e1 => ?_) fun e1 => s_nil ?_)
  · refine s_one (s_retP (pv_tup (va_cons pv_str (va_cons (pv_v 3) (va_cons pv_str (va_cons pv_str va_nil))))) (q _ _ _ _ ⟨⟨by decide +kernel, by decide +kernel, by decide +kernel, fun h => absurd h (by decide +kernel), fun h => absurd h (by decide +kernel), fun h => absurd h (by decide +kernel), hzs⟩, ?_, fun _ => ⟨rfl, rfl⟩, z, hz, hza, ?_⟩))
    · rw [if_pos (of_decide_eq_true e1)]
    · rw [if_neg (by decide +kernel), if_neg (by decide +kernel)]
  have n1 : form ≠ "line" := of_decide_eq_false e1
  refine s_cons (s_ifP (pt_cmp op_eq (pv_v 1) pv_str (eqV_str form "ask")) (fun e2 => ?_) fun e2 => s_nil ?_)
  · have h2 : form = "ask" := of_decide_eq_true e2
    refine s_one (s_retP (pv_tup (va_cons pv_str (va_cons (pv_op op_addT (pv_v 3) pv_str (p2_addT ?_)) (va_cons (pv_v 4) (va_cons pv_str va_nil))))) (q _ _ _ _ ⟨⟨by decide +kernel, hl, by decide +kernel, fun h => absurd h (by decide +kernel), fun _ => rfl, fun _ => ?_, app_signs hza one_q.1⟩, ?_, fun h => absurd h n1, z, hz, hza, ?_⟩))
    · show z.length + 1 ≤ _; omega
    · rw [app_len]; show 0 < z.length + 1; omega
    · rw [if_neg n1, h2]
    · rw [if_pos rfl]
  have n2 : form ≠ "ask" := of_decide_eq_false e2
  refine s_cons (s_ifP (pt_cmp op_eq (pv_v 1) pv_str (eqV_str form "reply")) (fun e3 => ?_) fun e3 => s_nil ?_)
  · have h3 : form = "reply" := of_decide_eq_true e3
    refine s_one (s_retP (pv_tup (va_cons pv_str (va_cons (pv_op op_addT (pv_v 3) pv_str (p2_addT ?_)) (va_cons pv_str (va_cons (pv_v 5) va_nil))))) (q _ _ _ _ ⟨⟨by decide +kernel, by decide +kernel, he, fun _ => rfl, fun h => absurd h (by decide +kernel), fun _ => ?_, app_signs hza one_q.2⟩, ?_, fun h => absurd h n1, z, hz, hza, ?_⟩))
    · show z.length + 1 ≤ _; omega
    · rw [app_len]; show 0 < z.length + 1; omega
    · rw [if_neg n1, h3]
    · rw [if_neg (by decide +kernel), if_pos rfl]
  have n3 : form ≠ "reply" := of_decide_eq_false e3
  have hk : form ∈ kinds := by
    simp only [List.mem_cons, List.not_mem_nil, or_false] at hf ⊢
    rcases hf with h | h | h | h | h
    · exact .inl h
    · exact absurd h n2
    · exact absurd h n3
    · exact .inr (.inr (.inr h))
    · exact absurd h n1
  refine s_one (s_retP (pv_tup (va_cons (pv_v 1) (va_cons (pv_v 3) (va_cons (pv_v 4) (va_cons (pv_v 5) va_nil))))) (q _ _ _ _ ⟨⟨hk, hl, he, fun h => absurd h n3, fun h => absurd h n2, fun h => absurd h (fun h => h.elim n2 n3), hzs⟩, ?_, fun h => absurd h n1, z, hz, hza, ?_⟩))
  · rw [if_neg n1]
  · rw [if_neg n2, if_neg n3]
theorem D_mix (E : Env P w K mg base) : Def P w K mg base "_law_mix" 1 ["_law_script", "_law_seed"] [] (sMix 14) := mk_f_Lmix E fun fd F => ok_mix F E
theorem D_next (E : Env P w K mg base) : Def P w K mg base "_law_next" 1 ["_law_h", "_law_bound"] [] sNext := mk_f_Lnext E fun fd F => ok_next F E
theorem D_letters (E : Env P w K mg base) : Def P w K mg base "_law_letters" 2 ["_law_h", "_law_most"] [] sLetters := mk_f_Lletters E fun fd F => ok_letters F E (D_next E)
theorem D_one (E : Env P w K mg base) : Def P w K mg base "_law_one" 3 ["_law_h", "_law_form", "_law_most"] [] sOne := mk_f_Lone E fun fd F => ok_one F (D_next E) (D_letters E)
end
end LK
set_option Elab.async false
set_option linter.all false
set_option maxRecDepth 100000
set_option maxHeartbeats 1000000
namespace LK
open PySem PySem.Spec PyProof.Rows L2 DL
inductive Wl : List Str → Prop
  | nil : Wl []
  | one {ks : List Str} {k : Str} : Wl ks → k ∈ (["say", "show"] : List Str) → Wl (ks ++ [k])
  | two {ks : List Str} : Wl ks → Wl (ks ++ (["ask", "reply"] : List Str))
theorem kb_ext {ks zs : List Str} {k : Str} {i : Nat} (hi : i < ks.length) (h : kindBad ks k i = false) : kindBad (ks ++ zs) k i = false := by
  unfold kindBad at h ⊢
  have e1 : (ks ++ zs).take i = ks.take i := by rw [List.take_append_of_le_length (by omega)]
  rw [e1]
  simp only [Bool.or_eq_false_iff, Bool.and_eq_false_iff, Bool.not_eq_false', decide_eq_false_iff_not, decide_eq_true_eq] at h ⊢
  refine ⟨⟨h.1.1, ?_⟩, h.2⟩
  rcases h.1.2 with h | h
  · exact .inl h
  · refine .inr ?_
    rw [List.drop_append_of_le_length (by omega)]
    have e2 : ∀ ys : List Str, ys.take 1 = (["reply"] : List Str) → (ys ++ zs).take 1 = (["reply"] : List Str) := fun ys hy => by
      cases ys with
      | nil => cases hy
      | cons y ys => exact hy
    exact e2 _ h
theorem Wl.bad {ks : List Str} (h : Wl ks) : ∀ y ∈ ks.zipIdx, kindBad ks y.1 y.2 = false := by
  induction h with
  | nil => intro y hy; cases hy
  | @one ks k h hk ih =>
    rintro ⟨x, i⟩ hy
    rw [List.zipIdx_append] at hy
    rcases List.mem_append.mp hy with hy | hy
    · exact kb_ext (by have := (List.getElem?_eq_some_iff.mp (mem_zipIdx hy)).1; exact this) (ih _ hy)
    · simp only [List.zipIdx_cons, List.zipIdx_nil, List.mem_singleton, Prod.mk.injEq] at hy
      obtain ⟨hx, hi⟩ := hy
      subst hx hi
      have hk2 : x ≠ "" ∧ x ≠ "ask" ∧ x ≠ "reply" := by
        simp only [List.mem_cons, List.not_mem_nil, or_false] at hk
        rcases hk with rfl | rfl <;> exact ⟨by decide +kernel, by decide +kernel, by decide +kernel⟩
      unfold kindBad
      rw [decide_eq_false hk2.1, decide_eq_false hk2.2.1, decide_eq_false hk2.2.2]; rfl
  | @two ks h ih =>
    rintro ⟨x, i⟩ hy
    rw [List.zipIdx_append] at hy
    rcases List.mem_append.mp hy with hy | hy
    · exact kb_ext (by have := (List.getElem?_eq_some_iff.mp (mem_zipIdx hy)).1; exact this) (ih _ hy)
    · simp only [List.zipIdx_cons, List.zipIdx_nil, List.mem_cons, List.not_mem_nil, or_false, Prod.mk.injEq] at hy
      rcases hy with ⟨rfl, rfl⟩ | ⟨rfl, rfl⟩
      · unfold kindBad
        have e1 : ((ks ++ (["ask", "reply"] : List Str)).drop (0 + ks.length + 1)).take 1 = (["reply"] : List Str) := by
          rw [List.drop_append, List.drop_eq_nil_of_le (by omega), show 0 + ks.length + 1 - ks.length = 1 by omega]; rfl
        rw [e1, decide_eq_false (show ("ask" : Str) ≠ "" by decide +kernel), decide_eq_false (show ("ask" : Str) ≠ "reply" by decide +kernel)]
        simp
      · unfold kindBad
        have e1 : (ks ++ (["ask", "reply"] : List Str)).take (0 + ks.length + 1) = ks ++ (["ask"] : List Str) := by
          rw [List.take_append, List.take_of_length_le (by omega), show 0 + ks.length + 1 - ks.length = 1 by omega]; rfl
        have e2 : (ks ++ (["ask"] : List Str)).drop ((ks ++ (["ask"] : List Str)).length - 1) = (["ask"] : List Str) := by
          rw [List.length_append, List.drop_append, List.drop_eq_nil_of_le (by simp)]; simp
        rw [e1, e2, decide_eq_false (show ("reply" : Str) ≠ "" by decide +kernel), decide_eq_false (show ("reply" : Str) ≠ "ask" by decide +kernel)]
        simp
theorem Wl.fault {ks : List Str} (h : Wl ks) : kindFault ks = none := kind_none h.bad
structure RowG (most : Int) (ws : List Wr) : Prop where
  wl : Wl (ws.map (·.k))
  one : ∀ w ∈ ws, ∃ form ∈ forms5, OneOk form most w.k w.t w.l w.e
theorem OneOk.len {form : Str} {most : Int} {k t l e : Str} (o : OneOk form most k t l e) (h : most ≤ 39) : t.length ≤ 40 := by
  obtain ⟨z, h1, h2, e1⟩ := o.z
  rw [e1]
  split
  · rw [app_len, show (Str.ofString "?").length = 1 from rfl]; omega
  · split
    · rw [app_len, show (Str.ofString "y").length = 1 from rfl]; omega
    · omega
theorem RowG.ok {most : Int} {ws : List Wr} (g : RowG most ws) (hm : most ≤ 39) (n : 1 ≤ ws.length) (m : ws.length ≤ 8) : RowOk ws :=
  ⟨fun w hw => by
    obtain ⟨form, _, o⟩ := g.one w hw
    exact ⟨o.g, o.len hm⟩, n, m, g.wl.fault⟩
def Ready (most : Int) (ws : List Wr) (form : Str) : Prop := form ∈ forms5 ∧ ∀ k t l e, OneOk form most k t l e → RowG most (ws ++ [⟨k, t, l, e⟩])
theorem RowG.next {most : Int} {ws : List Wr} (g : RowG most ws) {form : Str} (hf : form ∈ (["say", "show", "line"] : List Str)) : Ready most ws form := by
  have h5 : form ∈ forms5 := by
    simp only [List.mem_cons, List.not_mem_nil, or_false] at hf ⊢
    rcases hf with h | h | h <;> simp [h]
  refine ⟨h5, fun k t l e o => ⟨?_, fun w hw => ?_⟩⟩
  · rw [List.map_append]
    refine .one g.wl ?_
    show k ∈ _
    rw [o.f]
    simp only [List.mem_cons, List.not_mem_nil, or_false] at hf
    rcases hf with rfl | rfl | rfl <;> decide +kernel
  · rcases List.mem_append.mp hw with h | h
    · exact g.one w h
    · rw [List.mem_singleton.mp h]; exact ⟨form, h5, o⟩
theorem RowG.reply {most : Int} {ws : List Wr} (g : RowG most ws) {w : Wr} (hw : OneOk "ask" most w.k w.t w.l w.e) : Ready most (ws ++ [w]) "reply" := by
  refine ⟨by decide +kernel, fun k t l e o => ⟨?_, fun v hv => ?_⟩⟩
  · rw [List.map_append, List.map_append, List.append_assoc]
    have e1 : w.k = "ask" := hw.f.trans (by decide +kernel)
    have e2 : k = "reply" := o.f.trans (by decide +kernel)
    show Wl (_ ++ [w.k, k])
    rw [e1, e2]
    exact .two g.wl
  · rcases List.mem_append.mp hv with h | h
    · rcases List.mem_append.mp h with h | h
      · exact g.one v h
      · rw [List.mem_singleton.mp h]; exact ⟨"ask", by decide +kernel, hw⟩
    · rw [List.mem_singleton.mp h]; exact ⟨"reply", by decide +kernel, o⟩
def sRow {K : PySem.W.Frag} : Spec K := fun I ds P _ => ∃ (a b : Addr) (c : Rc K) (many most : Int), ds = [.adr a, .int many, .int most] ∧ I = c.fill (iDr K a b) ∧ 0 ≤ many ∧ many ≤ 1000 ∧ 0 ≤ most ∧ most < 9000 ∧
  ∀ ws, RowG (mx most) ws → (ws.length : Int) = many → ∀ p, P (.adr p) (I.and (iLst K p (ws.map wr4)))
abbrev nm6 : List Str := ["a", "log", "who", "b", "zzzzzzzz", "cc"]
structure TabG (works : Nat) (total most : Int) (t : Tb) : Prop where
  sub : (t.map (·.1)).Sublist nm6
  n : 1 ≤ t.length
  m : t.length ≤ works
  row : ∀ p ∈ t, RowG most p.2 ∧ 1 ≤ p.2.length ∧ p.2.length ≤ 3
  tot : ((t.map fun p => p.2.length).sum : Int) ≤ total
  fa : ("a" : Str) ∈ t.map (·.1)
theorem nm6_nd : nm6.Nodup := by decide +kernel
theorem nm6_ok : ∀ s ∈ nm6, isNameS s = true := by decide +kernel
theorem TabG.nd {works : Nat} {total most : Int} {t : Tb} (g : TabG works total most t) : (t.map (·.1)).Nodup := nm6_nd.sublist g.sub
theorem TabG.ok {works : Nat} {total most : Int} {t : Tb} (g : TabG works total most t) (hm : most ≤ 39) : TbOk t :=
  ⟨g.nd, fun p hp => nm6_ok _ (g.sub.subset (List.mem_map_of_mem hp)), fun p hp => (g.row p hp).1.ok hm (g.row p hp).2.1 (by have := (g.row p hp).2.2; omega), g.n, by have := g.sub.length_le; rw [List.length_map] at this; exact this⟩
section
variable {P : Program} {w : World} {K : PySem.W.Frag} {mg : Str → Option Value} {base : Heap}
theorem D_rowof (E : Env P w K mg base) : Def P w K mg base "_law_rowof" 4 ["_law_h", "_law_many", "_law_most"] [] sRow := mk_f_Lrowof E fun fd F => by
  refine fn_d F sc_f_Lrowof (fun I ds P R h => by obtain ⟨a, b, c, many, most, rfl, _⟩ := h; rfl) fun cdv A outer s H EE hr tk po I ds Q R h => ?_
  obtain ⟨a, b, c, many, most, rfl, rfl, n0, n1, m0, m1, q⟩ := h
  have nd := sc_f_Lrowof.nd
  have hu := hr.units
  have hr1 : Room 1 _ := hr.mono (by decide)
  have hr3 : Room 3 _ := hr
  refine s_cons (s_set 3 (ev_lstM' va_nil (by decide) fun x => ?_))
  refine s_cons (s_whileP po (fun m δ' I' => ∃ (ws : List Wr) (o : Option D), RowG (mx most) ws ∧ (ws.length : Int) ≤ many ∧ m = (many - ws.length).toNat ∧ I' = (c.fill (iDr K a b)).and (iLst K x (ws.map wr4)) ∧ δ' = [some (.adr a), some (.int many), some (.int most), some (.adr x), o]) many.toNat ⟨[], none, ⟨.nil, fun w hw => nomatch hw⟩, by simpa using n0, by simp, rfl, rfl⟩ ?_)
  rintro m δ' I' ⟨ws, o, g, hl, rfl, rfl, rfl⟩
  refine ⟨_, DL.pt_cmp op_lt (pv_cb call_len_seq E.b_len (va_cons (pv_v 3) va_nil) (pn_lenM (.r _ .here))) (pv_v 1) p2_lt, fun hlt => ?_, fun hlt => ?_⟩
  · have hlt : (ws.length : Int) < many := by rw [List.length_map] at hlt; exact of_decide_eq_true hlt
    refine s_cons (s_set 4 (ev_pick tk (D_next E) hr1 (.l c (iLst K x (ws.map wr4))) (pv_lst (va_cons pv_str (va_cons pv_str (va_cons pv_str (va_cons pv_str (va_cons pv_str (va_cons pv_str va_nil))))))) (pv_v 0) (pv_int.ev ⟨_, rfl, rfl, by decide, by decide, by decide⟩) rfl fun d hd => ?_))
    obtain ⟨form, rfl, hf⟩ : ∃ form, d = .str form ∧ (form ∈ (["say", "show", "line"] : List Str) ∨ form = "ask") := by
      simp only [List.mem_cons, List.not_mem_nil, or_false] at hd
      rcases hd with rfl | rfl | rfl | rfl | rfl | rfl <;> exact ⟨_, rfl, by decide +kernel⟩
    refine s_cons (s_joint (fun δ2 I2 => ∃ ws2 form2, ((form2 ∈ (["say", "show", "line"] : List Str) ∨ form2 = "ask") ∧ RowG (mx most) ws2 ∨ form2 = "reply" ∧ Ready (mx most) ws2 form2) ∧ ws.length ≤ ws2.length ∧ (ws2.length : Int) + 1 ≤ many ∧ I2 = (c.fill (iDr K a b)).and (iLst K x (ws2.map wr4)) ∧ δ2 = [some (.adr a), some (.int many), some (.int most), some (.adr x), some (.str form2)]) (s_ifP (ptw (ww_and (pt_eq hu (pv_v 4) pv_str trivial) fun _ => ww_and1 (DL.pt_cmp op_le (pv_op op_add (pv_cb call_len_seq E.b_len (va_cons (pv_v 3) va_nil) (pn_lenM (.r _ .here))) pv_int p2_add) (pv_v 1) p2_le))) (fun e1 => ?_) fun e1 => s_nil ?_) ?_)
    · have e2 : (ws.length : Int) + 2 ≤ many := by
        simp only [Bool.and_eq_true, decide_eq_true_eq, List.length_map] at e1
        exact e1.2
      refine s_cons (s_append (.r _ .here) (pv_v 3) rfl (ev_def tk (D_one E) hr3 (ea_cons ((pv_v 0).ev (ea_cons (pv_str.ev (ea_cons ((pv_v 2).ev (ea_nil ⟨a, b, .l c (iLst K x (ws.map wr4)), "ask", most, rfl, rfl, by decide +kernel, m0, m1, fun k t l e ok => ⟨rfl, by rw [List.length_map]; omega, ?_⟩⟩)))))))))
      refine s_one (s_setP 4 pv_str ?_)
      refine ⟨ws ++ [⟨k, t, l, e⟩], "reply", .inr ⟨rfl, g.reply ok⟩, by simp, by rw [List.length_append]; simp only [List.length_cons, List.length_nil]; omega, ?_, rfl⟩
      show (c.fill (iDr K a b)).and (iLst K x (ws.map wr4 ++ [_])) = _
      rw [List.map_append]; rfl
    · exact ⟨ws, form, .inl ⟨hf, g⟩, Nat.le_refl _, by omega, rfl, rfl⟩
    · rintro δ2 I2 ⟨ws2, form2, hg2, hl2, hl3, rfl, rfl⟩
      refine s_cons (s_joint (fun δ3 I3 => ∃ form3, Ready (mx most) ws2 form3 ∧ I3 = (c.fill (iDr K a b)).and (iLst K x (ws2.map wr4)) ∧ δ3 = [some (.adr a), some (.int many), some (.int most), some (.adr x), some (.str form3)]) (s_ifP (pt_eq hu (pv_v 4) pv_str trivial) (fun e1 => ?_) fun e1 => s_nil ?_) ?_)
      · have e2 : form2 = "ask" := of_decide_eq_true e1
        have g2 : RowG (mx most) ws2 := by
          rcases hg2 with h | h
          · exact h.2
          · rw [e2] at h; exact absurd h.1 (by decide +kernel)
        refine s_one (s_setP 4 pv_str ?_)
        exact ⟨"line", g2.next (by decide +kernel), rfl, rfl⟩
      · have e2 : form2 ≠ "ask" := of_decide_eq_false e1
        refine ⟨form2, ?_, rfl, rfl⟩
        rcases hg2 with h | h
        · exact h.2.next (h.1.resolve_right e2)
        · exact h.2
      · rintro δ3 I3 ⟨form3, hr', rfl, rfl⟩
        refine s_one (s_append (.r _ .here) (pv_v 3) rfl (ev_def tk (D_one E) hr3 (ea_cons ((pv_v 0).ev (ea_cons ((pv_v 4).ev (ea_cons ((pv_v 2).ev (ea_nil ⟨a, b, .l c (iLst K x (ws2.map wr4)), form3, most, rfl, rfl, hr'.1, m0, m1, fun k t l e ok => ⟨rfl, by rw [List.length_map]; omega, ?_⟩⟩)))))))))
        refine ⟨(many - (ws2 ++ ([⟨k, t, l, e⟩] : List Wr)).length).toNat, ?_, ws2 ++ [⟨k, t, l, e⟩], _, hr'.2 _ _ _ _ ok, ?_, rfl, ?_, rfl⟩
        · rw [List.length_append]; simp only [List.length_cons, List.length_nil]; omega
        · rw [List.length_append]; simp only [List.length_cons, List.length_nil]; omega
        · show (c.fill (iDr K a b)).and (iLst K x (ws2.map wr4 ++ [_])) = _
          rw [List.map_append]; rfl
  · have hlt : ¬ (ws.length : Int) < many := by rw [List.length_map] at hlt; exact of_decide_eq_false hlt
    exact s_one (s_retP (pv_v 3) (q ws g (by omega) x))
end
end LK
set_option Elab.async false
set_option linter.all false
set_option maxRecDepth 100000
set_option maxHeartbeats 1000000
namespace LK
open PySem PySem.Spec PyProof.Rows L2 DL
theorem sub_take {k : Nat} {p r : List Str} {x : Str} {ns : List Str} (e : nm6.take k = p ++ x :: r) (h : ns.Sublist p) : x ∉ ns ∧ (ns ++ [x]).Sublist (p ++ [x]) := by
  refine ⟨fun hx => ?_, h.append (List.Sublist.refl _)⟩
  have nd : (nm6.take k).Nodup := nm6_nd.sublist (List.take_sublist _ _)
  rw [e] at nd
  have := (List.nodup_append.mp nd).2.2 x (h.subset hx) x (by simp)
  exact this rfl
structure TabI (total most l : Int) (p : List Str) (t : Tb) : Prop where
  sub : (t.map (·.1)).Sublist p
  row : ∀ p ∈ t, RowG most p.2 ∧ 1 ≤ p.2.length ∧ p.2.length ≤ 3
  tot : ((t.map fun p => p.2.length).sum : Int) + l = total
  l0 : 0 ≤ l
  ne : p ≠ [] → t ≠ []
  fa : p ≠ [] → ("a" : Str) ∈ t.map (·.1)
theorem TabI.add {total most l : Int} {k : Nat} {p r : List Str} {x : Str} {t : Tb} (h : TabI total most l p t) (e : nm6.take k = p ++ x :: r) {ws : List Wr} (g : RowG most ws) (h1 : 1 ≤ ws.length) (h3 : ws.length ≤ 3) (hl : (ws.length : Int) ≤ l) : TabI total most (l - ws.length) (p ++ [x]) (t ++ [(x, ws)]) := by
  refine ⟨?_, fun q hq => ?_, ?_, by omega, fun _ => by simp, fun _ => ?_⟩
  · rw [List.map_append]; exact (sub_take e h.sub).2
  · rcases List.mem_append.mp hq with hq | hq
    · exact h.row q hq
    · rw [List.mem_singleton.mp hq]; exact ⟨g, h1, h3⟩
  · rw [List.map_append, List.sum_append]
    have := h.tot
    simp only [List.map_cons, List.map_nil, List.sum_cons, List.sum_nil]
    omega
  · rw [List.map_append]
    cases p with
    | nil =>
      have hx : x = "a" := by
        have e0 := congrArg (·[0]?) e
        cases k with
        | zero => simp at e
        | succ k => simp at e0; exact e0.symm
      exact List.mem_append_right _ (by rw [hx]; simp)
    | cons y ys => exact List.mem_append_left _ (h.fa (by simp))
theorem TabI.skip {total most l : Int} {p : List Str} {x : Str} {t : Tb} (h : TabI total most l p t) (t0 : 1 ≤ total) (hl : l = 0) : TabI total most l (p ++ [x]) t := by
  refine ⟨h.sub.trans (List.sublist_append_left _ _), h.row, h.tot, h.l0, fun _ e => ?_, fun _ => ?_⟩
  · have := h.tot
    rw [e] at this
    simp only [List.map_nil, List.sum_nil] at this
    omega
  · cases p with
    | nil =>
      have e := List.sublist_nil.mp h.sub
      have := h.tot
      rw [List.map_eq_nil_iff.mp e] at this
      simp only [List.map_nil, List.sum_nil] at this
      omega
    | cons y ys => exact h.fa (by simp)
section
variable {P : Program} {w : World} {K : PySem.W.Frag} {mg : Str → Option Value} {base : Heap}
end
end LK
set_option Elab.async false
set_option linter.all false
set_option maxRecDepth 100000
set_option maxHeartbeats 1000000
namespace LK
open PySem PySem.Spec PyProof.Rows L2 DL
section
variable {P : Program} {w : World} {K : PySem.W.Frag} {mg : Str → Option Value} {base : Heap}
end
end LK
set_option Elab.async false
set_option linter.all false
set_option maxRecDepth 100000
set_option maxHeartbeats 1000000
namespace DL
open PySem PySem.Spec PyProof.Rows L2
theorem EqB.imp {X : Cx} {n : Nat} {E E' : D → D → Bool → Prop} (h : EqB X n E) (k : ∀ x y b, E' x y b → E x y b) : EqB X n E' := ⟨fun A pins s σ G H x y u v dx dy b a1 a2 a3 a4 a5 a6 a7 e => h.run A pins s σ G H x y u v dx dy b a1 a2 a3 a4 a5 a6 a7 (k _ _ _ e), fun pins s σ G H x dx dy b a1 a2 a3 a4 e => h.same pins s σ G H x dx dy b a1 a2 a3 a4 (k _ _ _ e)⟩
end DL
namespace LK
open PySem PySem.Spec PyProof.Rows L2 DL
section
variable {P : Program} {w : World} {K : PySem.W.Frag} {mg : Str → Option Value} {base : Heap}
end
section
variable {X : Cx} {I : Iv X.K} {a b : Expr} {δ : DEnv} {pos : Pos} {t : Tb} {n : Str}
end
end LK
set_option Elab.async false
set_option linter.all false
set_option maxRecDepth 100000
set_option maxHeartbeats 4000000
namespace DL
open PySem PySem.Spec PyProof.Rows L2
section
variable {X : Cx} {W : WX} {R : Rx X.K} {n : Nat} {C : Addr} {S : Spec X.K} {δ : DEnv} {I I' : Iv X.K} {e : Expr} {pos pos' : Pos} {κ : Ko X.K} {x' : Str} {x : D} {sts : List Stmt} {st : Stmt} {P : D → Iv X.K → Prop}
def Fz {K : PySem.W.Frag} (I I' : Iv K) : Prop := ∀ (G H : Hp), Same G H → Hd I G H → ∃ G2, Same G G2 ∧ Same G2 H ∧ Hd I' G2 H
theorem Fz.s1 (f : Fz I I') (h : S1 X W st δ I' κ) : S1 X W st δ I κ := fun σ G H E hE s hI k => by
  obtain ⟨G2, s2, t2, h2⟩ := f G H s hI
  exact h σ G2 H E (hE.mono s2) t2 h2 (k.mono s2)
theorem Fz.ev (h : EvX X W R e δ I fun d I1 => ∃ I2, Fz I1 I2 ∧ P d I2) : EvX X W R e δ I P := fun σ G H Q hE s hI qx q =>
  h σ G H Q hE s hI qx fun v d G1 H1 I1 s1 t1 h1 r1 ⟨I2, f, p⟩ => by
    obtain ⟨G2, s2, t2, h2⟩ := f G1 H1 t1 h1
    exact q v d G2 H1 I2 (s1.trans s2) t2 h2 (r1.mono s2) p
theorem Fz.wk {K : PySem.W.Frag} {I J L : Iv K} (w : Wk I J) (f : Fz J L) : Fz I L := fun G H s h => f G H s (h.wk w)
end
end DL
set_option Elab.async false
set_option linter.all false
set_option maxRecDepth 100000
set_option maxHeartbeats 4000000
namespace DL
open PySem PySem.Spec PyProof.Rows L2
section
variable {X : Cx} {W : WX} {R : Rx X.K} {n1 n2 : Nat} {C : Addr} {SE SF : Spec X.K} {δ : DEnv} {I : Iv X.K} {ctx : Expr} {body : List Stmt} {pos py : Pos} {κ : Ko X.K} {y : Str}
end
end DL
set_option Elab.async false
set_option linter.all false
set_option maxRecDepth 100000
set_option maxHeartbeats 4000000
namespace DL
open PySem PySem.Spec PyProof.Rows L2
structure FnZ (P : Program) (w : World) (K : PySem.W.Frag) (mg : Str → Option Value) (base : Heap) (k : Nat) (f : Addr) (fd : FuncData) (ps : List Str) (sp : Sp) : Prop where
  len : ∀ vs H Q E, sp vs H Q E → vs.length = ps.length
  run : ∀ (A : Around) (outer : List Env) (s : Shared) (H : Hp) (args : Args) (us : List Value) (vs : List V) (Q : VK) (E : XK) (p : Addr × Obj), L2H.RoomH k A → L2H.PinOk outer H s p → Env0 P w K mg base A outer s H → BindsTo s fd args (ps.zip us) → Vals vs us → sp vs H Q E →
    codeAny (model P w) A (.call (.ref f) args) (CR (L2.CX P w) outer P w H s Q E) s
end DL
set_option Elab.async false
set_option linter.all false
set_option maxRecDepth 100000
set_option maxHeartbeats 4000000
namespace DL
open PySem PySem.Spec PyProof.Rows L2
section
variable {X : Cx} {W : WX} {n3 : Nat} {C c : Addr} {S : Spec X.K} {pins : List (Addr × Obj)} {Q : Flow → Shared → Prop}
end
section
variable {X : Cx} {W : WX} {R : Rx X.K} {n1 n2 n3 : Nat} {C : Addr} {SE SF SZ : Spec X.K} {δ : DEnv} {I : Iv X.K} {ctx : Expr} {body : List Stmt} {pos py : Pos} {κ : Ko X.K} {y : Str}
end
end DL
set_option Elab.async false
set_option linter.all false
set_option maxRecDepth 100000
set_option maxHeartbeats 4000000
namespace DL
open PySem PySem.Spec PyProof.Rows L2
section
variable {M : Model} {A : Around} {E : Value → Shared → Prop} {s : Shared} {env : Env}
end
section
variable {M : Model} {A : Around} {E : Value → Shared → Prop} {s : Shared} {Z : Obj → Prop} {B : Heap} {env : Env} {outer : List Env} {L C a : Addr}
end
section
variable {X : Cx} {W : WX} {pins : List (Addr × Obj)} {σ : L2.St} {H : Hp} {s : Shared} {scope : Scope} {ce : Env} {fp : List Addr} {use : Option (Value → Sem Unit)} {Q : Value → Shared → Prop} {acc : Value}
end
end DL
set_option Elab.async false
set_option linter.all false
set_option maxRecDepth 100000
set_option maxHeartbeats 4000000
namespace DL
open PySem PySem.Spec PyProof.Rows L2
section
variable {X : Cx} {W : WX}
end
section
variable {X : Cx} {W : WX} {R : Rx X.K} {elt tg iter : Expr} {ifs : List Expr} {scope : Scope} {δ : DEnv} {I : Iv X.K} {κ : Ko X.K} {P : D → Iv X.K → Prop} {pos : Pos}
end
end DL
set_option Elab.async false
set_option linter.all false
set_option maxRecDepth 100000
set_option maxHeartbeats 4000000
namespace DL
open PySem PySem.Spec PyProof.Rows L2
section
variable {X : Cx} {W : WX} {R : Rx X.K} {elt tg iter : Expr} {scope : Scope} {δ : DEnv} {I : Iv X.K} {P : D → Iv X.K → Prop}
end
end DL
set_option Elab.async false
set_option linter.all false
set_option maxRecDepth 100000
set_option maxHeartbeats 4000000
namespace DL
open PySem PySem.Spec PyProof.Rows L2
section
variable {X : Cx} {W : WX}
end
section
variable {X : Cx} {W : WX} {R : Rx X.K} {tg iter kx vx : Expr} {scope : Scope} {δ : DEnv} {I : Iv X.K} {P : D → Iv X.K → Prop} {pos : Pos}
end
end DL
set_option Elab.async false
set_option linter.all false
set_option maxRecDepth 100000
set_option maxHeartbeats 4000000
namespace DL
open PySem PySem.Calls PyProof.Rows
section
variable {prog : Program} {w : World} {A : Around} {E : Value → Shared → Prop} {s : Shared} {K : Type} [DecidableEq K] {knd : KeyKind prog w K}
end
end DL
set_option Elab.async false
set_option linter.all false
set_option maxRecDepth 100000
set_option maxHeartbeats 4000000
namespace L2
open PySem PySem.Spec PyProof.Rows
section
variable {X : Cx} {a b : Expr} {ta tb : TE} {pos : Pos} {A : Around}
end
end L2
namespace DL
open PySem PySem.Spec PyProof.Rows L2
theorem KR.len {K : PySem.W.Frag} {G : Hp} : ∀ {kds : List (Key × D)} {kvs : List (Key × V)}, KR K G kds kvs → kvs.length = kds.length
  | [], _, h => by rw [show _ = [] from h]; rfl
  | _ :: _, _, ⟨v, r, e, _, h⟩ => by rw [e, List.length_cons, List.length_cons, KR.len h]
section
variable {X : Cx} {W : WX} {R : Rx X.K} {a b : Expr} {δ : DEnv} {I : Iv X.K} {P : D → Iv X.K → Prop} {pos : Pos} {k1 k2 : List (Key × D)}
end
end DL
set_option Elab.async false
set_option linter.all false
set_option maxRecDepth 100000
set_option maxHeartbeats 4000000
namespace L2
open PySem PySem.Spec PyProof.Rows
section
variable {X : Cx}
end
end L2
namespace DL
open PySem PySem.Spec PyProof.Rows L2
section
variable {X : Cx} {W : WX} {R : Rx X.K} {o e i : Expr} {δ : DEnv} {I : Iv X.K} {apos pos ep ps : Pos} {q : Addr} {κ : Ko X.K} {kds more : List (Key × D)}
theorem s_dputK {p : Addr} (hu : X.A.units + 1 < cLine) (he : EvX X W (κ.r δ) e δ I fun d I1 => PV X I1 o δ (.adr p) ∧ EvX X W (κ.r δ) i δ I1 fun y I2 => ∃ (c : Rc X.K) (kds : List (Key × D)) (k : Key), I2 = c.fill (iDic X.K p kds) ∧ keyD y = some k ∧ kds.length < 100000 ∧ κ.nx δ (c.fill (iDic X.K p (putG kds k d))))
    (hs : swapsWith e (some (.Subscript o i ps)) pos.line X.env = pure false := by rfl) : S1 X W (.Assign [.Subscript o i ps] e pos) δ I κ := fun σ G H E hE s hI kk =>
  PS.wp (ps_dput hu peC peC peC hs) (he σ G H _ hE s hI (kk.kx hE) fun v d1 G1 H1 I1 s1 t1 h1 r1 ⟨ho, hi⟩ => by
    refine ho W (κ.r δ) (fun z1 J => z1 = .adr p ∧ J = I1) ⟨rfl, rfl⟩ σ G1 H1 _ (hE.mono s1) t1 h1 ((kk.kx hE).mono s1) fun v2 d2 G2 H2 I2 s2 t2 h2 r2 ⟨ed2, ei2⟩ => ?_
    subst ed2 ei2
    refine hi σ G2 H2 _ (hE.mono (s1.trans s2)) t2 h2 ((kk.kx hE).mono (s1.trans s2)) fun v3 d3 G3 H3 I3 s3 t3 h3 r3 ⟨c, kds, k, ei, hk, hz, nx⟩ => ?_
    subst ei
    obtain ⟨kvs, hp, kr, gp⟩ := h3.dic
    have e2 : v2 = .ref p := r2
    subst e2
    refine ⟨p, _, rfl, .inl ⟨kvs, k, hp, rep_key hk r3, by rw [kr.length, sizeLine_eq]; omega, rfl⟩, ?_⟩
    exact kk.nx δ σ G3 _ _ ((s1.trans s2).trans s3) (same_upd t3 gp) (h3.dicSet (kr.put ((r1.mono s2).mono s3))) (hE.mono ((s1.trans s2).trans s3)) nx)
end
end DL
set_option Elab.async false
set_option linter.all false
set_option maxRecDepth 100000
set_option maxHeartbeats 4000000
namespace DL
open PySem PySem.Spec PyProof.Rows L2
abbrev TsA := Addr → Value → Option Addr → TS
structure AsC (X : Cx) (hd : ExceptHandler) (q : Value × Nat × TsA) : Prop where
  e : ∃ (x n : Str) (b0 : Stmt) (su : List Stmt) (p1 p2 : Pos), hd = .ExceptHandler (some (.Name x p1)) (some n) (b0 :: su) p2 ∧ Names X x q.1 ∧ X.N[q.2.1]? = some n ∧ X.env.kindOf n = some .local ∧
    ∀ (p : Addr) (o : Obj) (C : Value) (dd : Option Addr) (pn : List (Addr × Obj)), Zc C dd o → (∃ fv, o.data = .fields fv) → PSs (X.suite p ((p, o) :: pn)) (b0 :: su) (q.2.2 p C dd)
inductive AsAll (X : Cx) : List ExceptHandler → List (Value × Nat × TsA) → Prop
  | nil : AsAll X [] []
  | cons {h : ExceptHandler} {q : Value × Nat × TsA} {hs : List ExceptHandler} {l : List (Value × Nat × TsA)} : AsC X h q → AsAll X hs l → AsAll X (h :: hs) (q :: l)
section
variable {X : Cx} {sts : List Stmt} {h0 : ExceptHandler} {hds : List ExceptHandler} {l : List (Value × Nat × TsA)} {pos : Pos} {tb : WX → TS} {Wo : WX}
end
inductive ClsAll (X : Cx) : List ExceptHandler → List (Value × Nat × List Stmt) → Prop
  | nil : ClsAll X [] []
  | cons {x n : Str} {c : Value} {i : Nat} {b0 : Stmt} {su : List Stmt} {p1 p2 : Pos} {hs : List ExceptHandler} {m : List (Value × Nat × List Stmt)} (nm : Names X x c) (r : ClsAll X hs m) (hi : X.N[i]? = some n := by rfl) (hln : X.env.kindOf n = some .local := by rfl) : ClsAll X (.ExceptHandler (some (.Name x p1)) (some n) (b0 :: su) p2 :: hs) ((c, i, b0 :: su) :: m)
def tsA (X : Cx) (sts : List Stmt) : TsA := fun a cls d D σ H => ∀ (oe : Obj) (pn : List (Addr × Obj)), Zc cls d oe → (∃ vs, oe.data = .fields vs) → wpB (X.suite a ((a, oe) :: pn)) sts D σ H
theorem ClsAll.as {X : Cx} : ∀ {hs : List ExceptHandler} {m : List (Value × Nat × List Stmt)}, ClsAll X hs m → AsAll X hs (m.map fun q => (q.1, q.2.1, tsA X q.2.2))
  | _, _, .nil => .nil
  | _, _, .cons nm r hi hln => .cons ⟨⟨_, _, _, _, _, _, rfl, nm, hi, hln, fun p o C dd pn hz hf => ⟨fun pins s σ H D J q => (q o pn hz hf).run pins s J⟩⟩⟩ r.as
section
variable {X : Cx} {δ : DEnv} {I : Iv X.K} {W : WX} {κ : Ko X.K} {body : List Stmt} {h0 : ExceptHandler} {hds : List ExceptHandler} {m : List (Value × Nat × List Stmt)} {pos : Pos}
end
end DL
set_option Elab.async false
set_option linter.all false
set_option maxRecDepth 100000
set_option maxHeartbeats 1000000
namespace LK
open PySem PySem.Spec PyProof.Rows L2 DL
def clashT (t u : Tb) : Option Str := (t.map (·.1)).find? fun n => (rowOf u n).isSome
theorem TbOk.app {t u : Tb} (o : TbOk t) (o2 : TbOk u) (h : clashT t u = Option.none) (hm : t.length + u.length ≤ 6) : TbOk (t ++ u) := by
  unfold clashT at h
  rw [List.find?_eq_none] at h
  refine ⟨?_, fun p hp => (List.mem_append.mp hp).elim (o.nm p) (o2.nm p), fun p hp => (List.mem_append.mp hp).elim (o.row p) (o2.row p), by rw [List.length_append]; have := o.n; omega, by rw [List.length_append]; exact hm⟩
  rw [List.map_append, List.nodup_append]
  refine ⟨o.nd, o2.nd, fun a ha b hb e => ?_⟩
  subst e
  refine h a ha ?_
  cases q : rowOf u a with
  | none => exact absurd hb (rowOf_none.mp q)
  | some x => rfl
section
variable {P : Program} {w : World} {K : PySem.W.Frag} {mg : Str → Option Value} {base : Heap}
end
end LK
set_option Elab.async false
set_option linter.all false
set_option maxRecDepth 100000
set_option maxHeartbeats 4000000
namespace DL
open PySem PySem.Spec PyProof.Rows L2
section
variable {prog : Program} {w : World} {A : Around} {E : Value → Shared → Prop} {s : Shared}
end
end DL
namespace L2
open PySem PySem.Spec PyProof.Rows
section
variable {X : Cx} {a k e : Expr} {ta tk tv : TE} {pos : Pos}
end
end L2
namespace DL
open PySem PySem.Spec PyProof.Rows L2
section
variable {X : Cx} {W : WX} {R : Rx X.K} {a k e : Expr} {δ : DEnv} {I : Iv X.K} {P : D → Iv X.K → Prop} {pos : Pos} {k1 : List (Key × D)} {z0 : D} {kk : Str}
end
end DL
set_option Elab.async false
set_option linter.all false
set_option maxRecDepth 100000
set_option maxHeartbeats 4000000
namespace DL
open PySem PySem.Spec PyProof.Rows L2
section
variable {X : Cx} {W : WX} {n : Nat} {C : Addr} {S : Spec X.K} {δ : DEnv} {I : Iv X.K} {o i value : Expr} {pos ps : Pos} {κ : Ko X.K}
end
section
variable {X : Cx} {W : WX} {R : Rx X.K} {δ : DEnv} {I : Iv X.K} {a : Expr} {pos p : Pos} {kds : List (Key × D)}
end
end DL
set_option Elab.async false
set_option linter.all false
set_option maxRecDepth 100000
set_option maxHeartbeats 4000000
namespace DL
open PySem PySem.Spec PyProof.Rows L2
section
variable {X : Cx} {W : WX} {R : Rx X.K} {tg iter kx vx cnd : Expr} {scope : Scope} {δ : DEnv} {I : Iv X.K} {P : D → Iv X.K → Prop} {pos : Pos}
end
section
variable {X : Cx} {e : Expr} {es : List Expr} {δ : DEnv} {I : Iv X.K} {ds : List D} {p : Pos}
end
end DL
set_option Elab.async false
set_option linter.all false
set_option maxRecDepth 100000
set_option maxHeartbeats 1000000
namespace LK
open PySem PySem.Spec PyProof.Rows L2 DL
abbrev ORow := List (Option Wr)
abbrev OTb := List (Str × ORow)
def thO : Option Wr → Th
  | some w => .wr w
  | none => .ot .non
def frO (r : ORow) : List Th := r.map thO
theorem sortW_permE {α : Type} {t u : List (Str × α)} (nd : (t.map (·.1)).Nodup) (h : t.Perm u) : sortW t = sortW u := by
  have h1 := (sortW_perm t).trans (h.trans (sortW_perm u).symm)
  have e : (sortW t).map (·.1) = (sortW u).map (·.1) := by rw [sortW_names, sortW_names]; exact sortS_congr (h.map _)
  have ndt : ((sortW t).map (·.1)).Nodup := ((sortW_perm t).map (·.1)).nodup_iff.mpr nd
  have ndu : ((sortW u).map (·.1)).Nodup := e ▸ ndt
  apply List.ext_getElem?
  intro i
  cases ht : (sortW t)[i]? with
  | none =>
    have hl : (sortW t).length = (sortW u).length := h1.length_eq
    rw [List.getElem?_eq_none_iff] at ht
    rw [List.getElem?_eq_none (by omega)]
  | some p =>
    have hl : (sortW t).length = (sortW u).length := h1.length_eq
    have hi := (List.getElem?_eq_some_iff.mp ht).1
    have hiu : i < (sortW u).length := by omega
    rw [List.getElem?_eq_getElem hiu]
    have hn : ((sortW u)[i]).1 = p.1 := by
      have h2 : ((sortW t).map (·.1))[i]? = some p.1 := by rw [List.getElem?_map, ht]; rfl
      rw [e, List.getElem?_map, List.getElem?_eq_getElem hiu] at h2
      simpa using h2
    have hm : p ∈ sortW u := h1.mem_iff.mp (List.mem_of_getElem? ht)
    obtain ⟨j, hj, ej⟩ := List.getElem_of_mem hm
    have h3 : ((sortW u).map (·.1))[i]'(by rw [List.length_map]; exact hiu) = ((sortW u).map (·.1))[j]'(by rw [List.length_map]; exact hj) := by
      rw [List.getElem_map, List.getElem_map, hn, ej]
    have hij := (List.getElem_inj ndu).mp h3
    subst hij
    rw [ej]
structure PassO (u : OTb) (f : Str × ORow → Wv) : Prop where
  h : ∀ p ∈ u, f p = .ls (frO p.2) ∨ f p = .tp (frO p.2)
inductive Ed where
  | set (n : Str) (k : Int) (o : Option Wr)
  | ins (n : Str) (k : Int) (ws : List Wr)
  | rem (n : Str) (k : Int) (m : Nat)
  | add (n : Str) (ws : List Wr)
  | drop (n : Str)
inductive Er where
  | clash (n : Str)
  | unk (n : Str)
  | num (k : Int)
  | inv (n : Str) (o : Option Nat)
end LK
set_option Elab.async false
set_option linter.all false
set_option maxRecDepth 100000
set_option maxHeartbeats 4000000
namespace DL
open PySem PySem.Spec PyProof.Rows L2
section
variable {X : Cx} {W : WX} {R : Rx X.K} {o i : Expr} {δ : DEnv} {I : Iv X.K} {apos pos : Pos} {q : Addr} {ds : List D} {d : D} {P : D → Iv X.K → Prop}
theorem ev_popAtM (c : Rc X.K) {j : Nat} (ho : PV X I o δ (.adr q)) (hi : PV X I i δ (.int j)) (hd : ds[j]? = some d) (hz : ds.length < 1000000) (eI : I = c.fill (iLst X.K q ds)) (pp : P d (c.fill (iLst X.K q (ds.eraseIdx j))))
    (hbase : attributeBase o "pop" X.env (eval o X.env) = eval o X.env := by rfl)
    (hfew : ((backTo pos (starEach [i] X.env)).all (fun x => !x.1) && (backToKw pos (keywordEach [] X.env)).all (fun x => x.1.isSome) && decide ([i].length + ([] : List Keyword).length + (if ([] : List Keyword).isEmpty then 0 else 1) < 30)) = true := by rfl)
    (hline : (apos.endLine == pos.line) = true := by rfl) (hst : starEach [i] X.env = (false, eval i X.env) :: starEach [] X.env := by rfl) (hpl : (backTo pos (starEach [] X.env)).any (·.1) = false := by rfl) : EvX X W R (.Call (.Attribute o "pop" apos) [i] [] pos) δ I P := fun σ G H Q hE s hI qx qq =>
  PE.wp (pe_bm PySem.F.plainAttrs_list PySem.F.slot_list_pop PySem.F.type_list_pop mt_popAt peC (pa_cons peC pa_nil hst) hbase hfew hline hst hpl) (ho W R (fun z I1 => z = .adr q ∧ I1 = I) ⟨rfl, rfl⟩ σ G H _ hE s hI qx fun v d1 G1 H1 I1 s1 t1 h1 r1 ⟨ed, ei⟩ => by
    subst ed ei eI
    obtain ⟨vs, hp, rv, gp⟩ := h1.lst
    obtain rfl : v = .ref q := r1
    refine ⟨.inl ⟨rfl, _, .inl (.inl hp)⟩, ?_⟩
    refine hi W R (fun z J => z = .int j ∧ J = c.fill (iLst X.K q ds)) ⟨rfl, rfl⟩ σ G1 H1 _ (hE.mono s1) t1 h1 (qx.mono s1) fun v2 d2 G2 H2 I2 s2 t2 h2 r2 ⟨ed2, ei2⟩ => ?_
    subst ed2 ei2
    obtain ⟨vs2, hp2, rv2, gp2⟩ := h2.lst
    have hl := rv2.length
    have hj := (List.getElem?_eq_some_iff.mp hd).1
    obtain ⟨y, hy, ry⟩ := rv2.get hd
    have hsi : seqIndex? (j : Int) vs2.length = some j := by
      unfold seqIndex?
      rw [hl]
      simp only [show ¬ ((j : Int) < 0) by omega, if_false]
      first
        | (rw [if_pos (by omega)]; simp)
        | simp [hj]
        | (simp; omega)
    refine ⟨q, vs2, j, j, y, rfl, by rw [show v2 = .int j from r2], hp2, by omega, by omega, hsi, hy, ?_⟩
    exact qq y d G2 _ _ (s1.trans s2) (same_upd t2 gp2) (h2.lstSet (rv2.erase j)) ry pp)
end
end DL
set_option Elab.async false
set_option linter.all false
set_option maxRecDepth 100000
set_option maxHeartbeats 4000000
namespace L2
open PySem PySem.Spec PyProof.Rows
def rEqNil (K : PySem.W.Frag) : R2 := fun x y H Q => ∃ a b xs, x = .ref a ∧ y = .ref b ∧ SqL K H a xs ∧ SqL K H b [] ∧ Q (.bl (decide (xs = []))) H
section
variable {X : Cx}
theorem op_eqNil (hu : X.A.units < cLine) : OpR X (compareOp .Eq) (rEqNil X.K) := by
  intro pins s σ H x y v u Q I rx ry ⟨a, b, xs, ex, ey, ha, hb, q⟩
  subst ex ey
  obtain rfl : v = Value.ref a := rx
  obtain rfl : u = Value.ref b := ry
  obtain ⟨its, rv, p1, _⟩ := I.list ha
  obtain ⟨its2, rv2, p2, _⟩ := I.list hb
  have e2 : its2 = [] := by cases rv2; rfl
  subst e2
  obtain ⟨⟨cls, dd, data, sl⟩, n, ho, hc, hdn, hd⟩ := p1
  obtain ⟨⟨cls2, dd2, data2, sl2⟩, n2, ho2, hc2, hdn2, hd2⟩ := p2
  simp only at hc hd hc2 hd2
  subst hc hd hc2 hd2
  have hl : s.heap.IsList a its.toArray := ⟨_, ho, rfl, n, rfl⟩
  have hb2 : s.heap.IsList b ([] : List Value).toArray := ⟨_, ho2, rfl, n2, rfl⟩
  show wpAny _ _ (richCompare .Eq (.ref a) (.ref b)) _ _ _
  cases xs with
  | nil =>
    have e1 : its = [] := by cases rv; rfl
    subst e1
    exact (SeqAt.RcAt.lists (e := fun _ => true) hl hb2 rfl hu fun j h1 h2 => by simp at h1) X.prog X.w _ _ ⟨.bl true, H, I, rfl, q⟩
  | cons x r =>
    have e1 : (its.toArray.size != ([] : List Value).toArray.size) = true := by
      cases rv; simp
    exact (SeqAt.RcAt.lists_lengths hl hb2 e1 hu) X.prog X.w _ _ ⟨.bl false, H, I, rfl, by simpa using q⟩
end
end L2
namespace DL
open PySem PySem.Spec PyProof.Rows L2
section
variable {X : Cx} {a : Expr} {δ : DEnv} {I : Iv X.K} {x : D} {ds : List D} {pos p : Pos}
theorem reps_nil {K : PySem.W.Frag} {G : Hp} {ds : List D} {vs : List V} (h : Reps K G ds vs) : decide (vs = []) = decide (ds = []) := by
  cases ds with
  | nil => rw [show vs = [] from h]; rfl
  | cons d r =>
    obtain ⟨v, q, e, _⟩ := h
    rw [e]; rfl
theorem pt_eqNil (hu : X.A.units < cLine) (ha : PV X I a δ x) (li : LsI I x ds) (hm : behindInMarks .Eq (.List [] p) = false := by first | exact nomark _ | rfl) : PVT X I (.Compare a [.Eq] [.List [] p] pos) δ (decide (ds = [])) :=
  DL.pt_cmp (op_eqNil hu) ha (pv_lst va_nil) (fun P pp G H v w Q s hI r1 r2 q => by
    obtain ⟨c, vs, e1, e2, e3⟩ := li.h G H v s hI r1
    obtain ⟨b, us, f1, f2, f3⟩ := r2
    rw [show us = [] from f3] at f2
    refine ⟨c, b, vs, e1, f1, SqL.of e2, SqL.of (s _ _ f2), ?_⟩
    rw [reps_nil e3]
    exact q _ (.bl _) G H I (Same.refl G) s hI rfl pp) hm
end
end DL
set_option Elab.async false
set_option linter.all false
set_option maxRecDepth 100000
set_option maxHeartbeats 2000000
set_option pp.maxSteps 300
namespace LK
open PySem PySem.Spec PyProof.Rows L2 DL
inductive Itm where
  | w (w : Wr)
  | o (i : Nat)
def oddD : Nat → D
  | 0 => .non
  | 1 => .int 3
  | 2 => .str "say"
  | 3 => .tup [.str "say", .str "x"]
  | 4 => .bl true
  | _ => .lst [.str "say", .str "x", .str "", .str ""]
def itD : Itm → D
  | .w w => wr4 w
  | .o i => oddD i
def thI : Itm → Th
  | .w w => .wr w
  | .o i => .ot (oddD i)
def kI (x : Itm) : Str := (thI x).kind
def ItOk (x : Itm) : Prop := match x with
  | .w w => GoodR w
  | .o _ => True
inductive V3 where
  | ls (its : List Itm)
  | tp (its : List Itm)
  | ot (i : Nat)
def otD : Nat → D
  | 0 => .non
  | 1 => .str "ab"
  | _ => .int 5
def V3.d : V3 → D
  | .ls its => .lst (its.map itD)
  | .tp its => .tup (its.map itD)
  | .ot i => otD i
def V3.w : V3 → Wv
  | .ls its => .ls (its.map thI)
  | .tp its => .tp (its.map thI)
  | .ot i => .ot (otD i)
abbrev T3 := List (Str × V3)
abbrev t3D (u : T3) : D := dicT u (·.1) fun p => p.2.d
def ws3 (u : T3) : List (Str × Wv) := u.map fun p => (p.1, p.2.w)
def badD3 : Option (Str × Option Nat) → D
  | none => .non
  | some p => .tup [.str p.1, nD p.2]
abbrev nm16 : List Str := ["who", "a", "log", "", "A", "a1", "abcdefghi", "a b", "abcdefgh", "n", "o", "p", "q", "r", "s"]
theorem nm16_ok : ∀ n ∈ nm16, n.length ≤ 100 ∧ PyData.strOk n = true := by decide +kernel
def V3.ok : V3 → Prop
  | .ls its => (∀ x ∈ its, ItOk x) ∧ its.length ≤ 1000
  | .tp its => (∀ x ∈ its, ItOk x) ∧ its.length ≤ 1000
  | .ot _ => True
structure T3ok (u : T3) : Prop where
  nd : (u.map (·.1)).Nodup
  nm : ∀ p ∈ u, p.1 ∈ nm16
  v : ∀ p ∈ u, p.2.ok
  z : u.length ≤ 40
theorem odd_ty (i : Nat) : ∃ t, tyD (oddD i) = some t := by
  unfold oddD
  split <;> exact ⟨_, rfl⟩
theorem ws3_ok {u : T3} (o : T3ok u) : WksOk (ws3 u) := by
  refine ⟨by unfold ws3; rw [map_fst]; exact o.nd, fun q hq => ?_, fun q hq => ?_, by unfold ws3; rw [List.length_map]; have := o.z; omega⟩
  · obtain ⟨p, hp, rfl⟩ := List.mem_map.mp hq
    have h := o.v p hp
    show p.2.w.ok
    have hi : ∀ (its : List Itm), (∀ x ∈ its, ItOk x) → ∀ y ∈ its.map thI, y.ok := fun its h y hy => by
      obtain ⟨x, hx, rfl⟩ := List.mem_map.mp hy
      cases x with
      | w w => exact (h _ hx : GoodR w).g.gk
      | o i => exact odd_ty i
    cases hv : p.2 with
    | ls its => rw [hv] at h; exact ⟨hi its h.1, by rw [List.length_map]; exact h.2⟩
    | tp its => rw [hv] at h; exact ⟨hi its h.1, by rw [List.length_map]; exact h.2⟩
    | ot i =>
      show ∃ t, tyD (otD i) = some t ∧ t ≠ "list" ∧ t ≠ "tuple"
      unfold otD
      split
      · exact ⟨_, rfl, by decide, by decide⟩
      · exact ⟨_, rfl, by decide, by decide⟩
      · exact ⟨_, rfl, by decide, by decide⟩
  · obtain ⟨p, hp, rfl⟩ := List.mem_map.mp hq
    have := (nm16_ok _ (o.nm p hp)).1
    show p.1.length ≤ 100000
    omega
def sDue3 {K : PySem.W.Frag} : Spec K := fun I ds P _ => ∃ u : T3, ds = [t3D u] ∧ T3ok u ∧ P (badD3 (castFault (ws3 u))) I
def sThings {K : PySem.W.Frag} : Spec K := fun I ds P _ => ∃ x : Itm, ds = [itD x] ∧ ItOk x ∧ P ((thI x).d K) I
theorem last_ask3 {ks : List Str} {i : Nat} (hi : i < ks.length) : (!decide ((ks.take i).drop ((ks.take i).length - 1) = (["ask"] : List Str))) = (decide (i = 0) || !decide (ks[i - 1]'(by omega) = ("ask" : Str))) := by
  cases i with
  | zero => simp
  | succ j =>
    have hj : j < ks.length := by omega
    have e1 : (ks.take (j + 1)).length = j + 1 := by rw [List.length_take]; omega
    have e2 : (ks.take (j + 1)).drop j = [ks[j]] := by
      rw [List.take_succ_eq_append_getElem hj, List.drop_append_of_le_length (by rw [List.length_take]; omega), List.drop_eq_nil_of_le (by rw [List.length_take]; omega), List.nil_append]
    have e3 : (ks.take (j + 1)).drop ((ks.take (j + 1)).length - 1) = [ks[j]] := by rw [e1]; exact e2
    simp only [e3]
    simp
theorem _root_.DL.PVW.is3 {X : Cx} {I : Iv X.K} {e : Expr} {δ : DEnv} {b c : Bool} (h : PVW X I e δ b) (q : b = c) : PVW X I e δ c := q ▸ h
theorem zip_take3 {n : Nat} {p r : List Nat} {i : Nat} (e : List.range n = p ++ i :: r) : p = List.range i ∧ i < n := by
  have hl := congrArg List.length e
  rw [List.length_range, List.length_append, List.length_cons] at hl
  have h1 : (List.range n)[p.length]? = some i := by rw [e]; simp
  have h2 : (List.range n)[p.length]? = some p.length := List.getElem?_range (by omega)
  have hi : i = p.length := by rw [h1] at h2; exact Option.some.inj h2
  refine ⟨?_, by omega⟩
  have h3 : (List.range n).take p.length = p := by rw [e]; simp
  rw [← h3, List.take_range, hi]
  congr 1
  omega
theorem kind_atR3 {ks : List Str} {i : Nat} (hi : i < ks.length) (hp : ∀ j, j < i → ∀ hj : j < ks.length, kindBad ks ks[j] j = false) (hk : kindBad ks ks[i] i = true) : kindFault ks = some i := by
  have hz : i < ks.zipIdx.length := by rw [List.length_zipIdx]; exact hi
  have e : ks.zipIdx = ks.zipIdx.take i ++ (ks[i], i) :: ks.zipIdx.drop (i + 1) := by
    have h1 : ks.zipIdx[i] = (ks[i], i) := by rw [List.getElem_zipIdx]; simp
    rw [← h1, List.getElem_cons_drop hz, List.take_append_drop]
  refine kind_at e (fun y hy => ?_) hk
  obtain ⟨j, hj, ey⟩ := List.getElem_of_mem hy
  rw [List.length_take] at hj
  rw [List.getElem_take, List.getElem_zipIdx] at ey
  rw [← ey]
  simpa using hp j (by omega) (by rw [List.length_zipIdx] at hj; omega)
section
variable {P : Program} {w : World} {K : PySem.W.Frag} {mg : Str → Option Value} {base : Heap}
theorem odd_cases (i : Nat) : (∃ t, tyD (oddD i) = some t ∧ kitB t "tuple" = some false) ∨ oddD i = .tup [.str "say", .str "x"] := by
  unfold oddD
  split
  · exact .inl ⟨_, rfl, by decide +kernel⟩
  · exact .inl ⟨_, rfl, by decide +kernel⟩
  · exact .inl ⟨_, rfl, by decide +kernel⟩
  · exact .inr rfl
  · exact .inl ⟨_, rfl, by decide +kernel⟩
  · exact .inl ⟨_, rfl, by decide +kernel⟩
def isW : Itm → Bool
  | .w _ => true
  | .o _ => false
theorem vi_v3 {X : Cx} {I : Iv X.K} {e tg : Expr} {δ : DEnv} {d : D} {ds : List D} (h : PV X I e δ d) (hd : d = .lst ds ∨ d = .tup ds) : PVI X I tg e δ ds := by
  rcases hd with rfl | rfl
  · exact vi_lst h
  · exact vi_tup h
theorem pv_len3 {X : Cx} {I : Iv X.K} {e : Expr} {δ : DEnv} {d : D} {ds : List D} {pos p : Pos} (hm : X.mg "len" = none) (h : PV X I e δ d) (hd : d = .lst ds ∨ d = .tup ds) (hg : Gl X "len" := by rfl) (h1 : starEach [e] X.env = (false, eval e X.env) :: starEach [] X.env := by rfl) (hpl : (backTo pos (starEach [] X.env)).any (·.1) = false := by rfl) : PV X I (.Call (.Name "len" p) [e] [] pos) δ (.int ds.length) := by
  rcases hd with rfl | rfl
  · exact pv_len hm h trivial hg h1 hpl
  · exact pv_len hm h trivial hg h1 hpl
theorem pt_it {X : Cx} {I : Iv X.K} {δ : DEnv} {pos p1 p3 p4 p5 p7 p8 p9 : Pos} {j : Nat} {n1 n2 : Expr} (E : Env X.prog X.w X.K X.mg X.base) (hu : X.A.units + 64 < cLine) (x : Itm) (h1 : PV X I n1 δ (itD x)) (h2 : PV X I n2 δ (itD x)) (g1 : Gl X "isinstance" := by rfl) (g2 : Gl X "tuple" := by rfl) (g3 : Gl X "len" := by rfl)
    (s1 : starEach (n1 :: [.Name "tuple" p3]) X.env = (false, eval n1 X.env) :: starEach [.Name "tuple" p3] X.env := by rfl) (s2 : starEach (Expr.Name "tuple" p3 :: []) X.env = (false, eval (.Name "tuple" p3) X.env) :: starEach [] X.env := by rfl) (q1 : (backTo p4 (starEach [Expr.Name "tuple" p3] X.env)).any (·.1) = false := by rfl)
    (s3 : starEach [n2] X.env = (false, eval n2 X.env) :: starEach [] X.env := by rfl) (q2 : (backTo p7 (starEach [] X.env)).any (·.1) = false := by rfl)
    (he : ∀ whole, isTrue (.Call (.Name "isinstance" p1) [n1, .Name "tuple" p3] [] p4) X.env whole = (do let v ← whole; standAt p4; holding [v] (truthy v)) := by intro _; rfl) :
    PVT X I (.BoolOp .And [.Call (.Name "isinstance" p1) [n1, .Name "tuple" p3] [] p4, .Compare (.Call (.Name "len" p5) [n2] [] p7) [.Eq] [.Constant (.int 4) j p8] p9] pos) δ (isW x) := by
  have is : ∀ {t : String} {b : Bool}, tyD (itD x) = some t → kitB t "tuple" = some b → PVT X I (.Call (.Name "isinstance" p1) [n1, .Name "tuple" p3] [] p4) δ b := fun ht hb => pt_v (pv_cb call_isi E.b_isinstance (va_cons h1 (va_cons (pv_gty (n := "tuple") E.b_tuple (hg := g2)) va_nil s2) s1) (pn_isi ht hb) (hg := g1) (he := s1) (hpl := q1)) he
  cases x with
  | w w0 => exact PVT.is (ptw (ww_and (is (t := "tuple") (b := true) rfl (by decide +kernel)) fun _ => ww_and1 (PVT.is (c := true) (pt_eq hu (pv_len3 (ds := [.str w0.k, .str w0.t, .str w0.l, .str w0.e]) E.b_len h2 (.inr rfl) (hg := g3) (h1 := s3) (hpl := q2)) pv_int trivial) (by rfl)))) rfl
  | o i =>
    rcases odd_cases i with ⟨t, ht, hb⟩ | e
    · exact ptw (ww_andF (is (t := t) ht hb))
    · have h2' : PV X I n2 δ (.tup [.str "say", .str "x"]) := e ▸ h2
      exact PVT.is (ptw (ww_and (is (t := "tuple") (b := true) (by show tyD (oddD i) = _; rw [e]; rfl) (by decide +kernel)) fun _ => ww_and1 (PVT.is (c := false) (pt_eq hu (pv_len3 E.b_len h2' (.inr rfl) (hg := g3) (h1 := s3) (hpl := q2)) pv_int trivial) (by rfl)))) rfl
theorem D_things (E : Env P w K mg base) : Def P w K mg base "_law_things" 5 ["_law_one_here"] [] sThings := mk_f_Lthings E fun fd F => by
  refine fn_d F sc_f_Lthings (fun I ds P R h => by obtain ⟨x, rfl, _⟩ := h; rfl) fun cdv A outer s H EE hr tk po I ds Q R h => ?_
  obtain ⟨x, rfl, hg, q⟩ := h
  have nd := sc_f_Lthings.nd
  have hu := hr.units
  have hr4 : Room 4 _ := hr
  refine s_one (s_retP (pv_if (pt_it E hu x (pv_v 0) (pv_v 0)) (fun hw => ?_) fun hw => ?_) q)
  · cases x with
    | w w0 =>
      have g : GoodR w0 := hg
      exact pv_write E hr4 (pv_ix ix_tup (pv_v (d := wr4 w0) 0) pv_int (p2_ixT rfl)) (pv_ix ix_tup (pv_v (d := wr4 w0) 0) pv_int (p2_ixT rfl)) (pv_ix ix_tup (pv_v (d := wr4 w0) 0) pv_int (p2_ixT rfl)) (pv_ix ix_tup (pv_v (d := wr4 w0) 0) pv_int (p2_ixT rfl)) g.g g.h
    | o i => exact nomatch hw
  · cases x with
    | w w0 => exact nomatch hw
    | o i => exact pv_v (d := oddD i) 0
end
end LK
set_option Elab.async false
set_option linter.all false
set_option maxRecDepth 100000
set_option maxHeartbeats 2000000
set_option pp.maxSteps 300
namespace LK
open PySem PySem.Spec PyProof.Rows L2 DL
section
variable {P : Program} {w : World} {K : PySem.W.Frag} {mg : Str → Option Value} {base : Heap}
theorem D_due3 (E : Env P w K mg base) : Def P w K mg base "_law_due" 1 ["_law_t"] [] sDue3 := mk_f_Ldue E fun fd F => by
  refine fn_d F sc_f_Ldue (fun I ds P R h => by obtain ⟨u, rfl, _⟩ := h; rfl) fun cdv A outer s H EE hr tk po I ds Q R h => ?_
  obtain ⟨u, rfl, o, q⟩ := h
  have nd := sc_f_Ldue.nd
  have hu := hr.units
  have hu1 := hr.u1
  have hz := o.z
  have wk := ws3_ok o
  have hwn : (ws3 u).map (·.1) = u.map (·.1) := by unfold ws3; rw [map_fst]
  have hwl : (ws3 u).length = u.length := by unfold ws3; rw [List.length_map]
  have hnm : (sortS (u.map (·.1))).map D.str = (sortW u).map fun p => D.str p.1 := by rw [← sortW_names, List.map_map]; rfl
  refine s_cons (s_ifP (b := !(decide (1 ≤ u.length) && decide (u.length ≤ 6))) (PVT.is (ptn (pt_chn op_le op_le pv_int (pv_len E.b_len (pv_v (d := t3D u) 0) trivial) p2_le pv_int p2_le)) (by rw [List.length_map]; exact congrArg not (congr (congrArg and (decide_eq_decide.mpr (by omega))) (decide_eq_decide.mpr (by omega))))) (fun hb => ?_) fun hb => s_nil ?_)
  · have e : castFault (ws3 u) = some (("" : Str), none) := by
      unfold castFault
      exact if_neg fun h => by rw [hwl] at h; simp [h.1, h.2] at hb
    rw [e] at q
    exact s_one (s_retP (pv_tup (va_cons pv_str (va_cons pv_non va_nil))) q)
  have hb : 1 ≤ u.length ∧ u.length ≤ 6 := by simpa using hb
  have eB : castFault (ws3 u) = (sortW u).findSome? fun p => nameFault (p.1, p.2.w) := by
    unfold castFault
    rw [hwl, if_pos hb]
    unfold ws3
    rw [sortW_map' (fun p => p.2.w) o.nd, List.findSome?_map]; rfl
  refine s_cons (s_forT (xs := sortW u) (g := fun p => D.str p.1) po (PVI.is (vi_lst (pv_sortedS E.b_sorted (pv_listD E.b_list (pv_v (d := t3D u) 0)) (by rw [List.length_map]; omega))) hnm) (fun p δ' I' => I' = I ∧ (∀ y ∈ p, nameFault (y.1, y.2.w) = none) ∧ ∃ o1 o2 o3, δ' = [some (t3D u), o1, o2, o3, none, none]) ⟨rfl, (fun y hy => nomatch hy), none, none, none, rfl⟩ ?_ ?_)
  · rintro p x r δ' I' e ⟨rfl, hp, o1, o2, o3, rfl⟩
    have hx : x ∈ u := (sortW_perm u).mem_iff.mp (by rw [e]; simp)
    have hxm := nm16_ok _ (o.nm x hx)
    have hxn : x.1.length ≤ 100000 := by have := hxm.1; omega
    have hxv := o.v x hx
    have fin : ∀ z, nameFault (x.1, x.2.w) = some z → castFault (ws3 u) = some z := fun z hz => by rw [eB, e]; exact findSome_hit hp hz
    refine ⟨_, [1], bind_name 1, ?_⟩
    refine s_cons (s_ifP (b := !isNameS x.1) (PVT.is (ptw (ww_or (l := !(x.1.cps.toList.all fun c => decide (c ∈ (Str.ofString "abcdefghijklmnopqrstuvwxyz").cps.toList))) (ptn (pt_chn op_le op_le pv_int (pv_len E.b_len (pv_w (d := .str x.1) 1 rfl) hxn) p2_le pv_int p2_le)) fun _ => ww_or1 (ptn (pt_v (k := x.1.cps.toList.all fun c => decide (c ∈ (Str.ofString "abcdefghijklmnopqrstuvwxyz").cps.toList)) ?_)))) ?_) (fun hn => ?_) fun hn => s_nil ?_)
    · have el : D.lst ((x.1.cps.toList.map fun c => decide (c ∈ (Str.ofString "abcdefghijklmnopqrstuvwxyz").cps.toList)).map D.bl) = .lst (x.1.cps.toList.map fun c => .bl (decide (c ∈ (Str.ofString "abcdefghijklmnopqrstuvwxyz").cps.toList))) := by rw [List.map_map]; rfl
      refine PV.is (pv_cb (cr_all rfl) E.b_all (va_cons (((pv_lcTM (xs := x.1.cps.toList) (g := fun c => D.str ⟨#[c]⟩) (fun c => .bl (decide (c ∈ (Str.ofString "abcdefghijklmnopqrstuvwxyz").cps.toList))) [("_law_sign", 4)] (fun c => [some (t3D u), some (.str x.1), o2, o3, some (.str ⟨#[c]⟩), none]) (vi_str (pv_w (d := .str x.1) 1 rfl)) (by rw [Array.length_toList]; exact Nat.le_trans hxn (by decide)) (fun d s H C cl fp => bind_name 4) fun c hc J s H C cl fp => pv_cmp op_signIn (pv_w 4 rfl) pv_str p2_signIn)).is el.symm) va_nil) pn_all) (by rw [List.all_map]; rfl)
    · unfold isNameS
      have h1 : decide ((1 : Int) ≤ (x.1.length : Int)) = decide (1 ≤ x.1.length) := decide_eq_decide.mpr (by omega)
      have h2 : decide ((x.1.length : Int) ≤ 8) = decide (x.1.length ≤ 8) := decide_eq_decide.mpr (by omega)
      rw [h1, h2]
      exact (Bool.not_and _ _).symm
    · have e2 : nameFault (x.1, x.2.w) = some (x.1, none) := by
        unfold nameFault
        exact if_neg (by simpa using hn)
      rw [fin _ e2] at q
      exact s_one (s_retP (pv_tup (va_cons (pv_w (d := .str x.1) 1 rfl) (va_cons pv_non va_nil))) q)
    have hn : isNameS x.1 = true := by simpa using hn
    have hget : getG (u.map fun p => ((.inr p.1 : Key), p.2.d)) (.inr x.1) = some x.2.d := get_dicT (k := fun p : Str × V3 => p.1) (v := fun p => p.2.d) o.nd hx
    -- no list, no tuple
    have key : (∃ i, x.2 = .ot i) ∨ ∃ (its : List Itm) (t : String), (x.2.d = .lst (its.map itD) ∨ x.2.d = .tup (its.map itD)) ∧ tyD x.2.d = some t ∧ PySem.W.kitAny K (.type t) [.type "list", .type "tuple"] = some true ∧ lookFault x.2.w = lookThs (its.map thI) ∧ (∀ y ∈ its, ItOk y) ∧ its.length ≤ 1000 := by
      cases hv : x.2 with
      | ls its => rw [hv] at hxv; exact .inr ⟨its, "list", .inl rfl, rfl, kit2 (b1 := true) (b2 := false) (by decide +kernel) (by decide +kernel), rfl, hxv.1, hxv.2⟩
      | tp its => rw [hv] at hxv; exact .inr ⟨its, "tuple", .inr rfl, rfl, kit2 (b1 := false) (b2 := true) (by decide +kernel) (by decide +kernel), rfl, hxv.1, hxv.2⟩
      | ot i => exact .inl ⟨i, rfl⟩
    rcases key with ⟨i0, hv⟩ | ⟨its, ty, hd, hty, hk2, hlf, hio, hil⟩
    · have hot : ∃ t, tyD (otD i0) = some t ∧ PySem.W.kitAny K (.type t) [.type "list", .type "tuple"] = some false := by
        unfold otD
        split
        · exact ⟨_, rfl, kit2 (b1 := false) (b2 := false) (by decide +kernel) (by decide +kernel)⟩
        · exact ⟨_, rfl, kit2 (b1 := false) (b2 := false) (by decide +kernel) (by decide +kernel)⟩
        · exact ⟨_, rfl, kit2 (b1 := false) (b2 := false) (by decide +kernel) (by decide +kernel)⟩
      obtain ⟨t, ht, hk⟩ := hot
      have e2 : nameFault (x.1, x.2.w) = some (x.1, none) := by
        unfold nameFault
        rw [if_pos hn, hv]; rfl
      rw [fin _ e2] at q
      refine s_cons (s_ifT (ptw (ww_orT (ptn (k := false) (pt_v (pv_cb call_isiTT E.b_isinstance (va_cons (pv_dget (d := otD i0) hu1 (.inl rfl) (pv_w (d := t3D u) 0 rfl) (pv_w (d := .str x.1) 1 rfl) rfl (by rw [hget, hv]; rfl)) (va_cons (pv_tup (va_cons (pv_gty (n := "list") E.b_list) (va_cons (pv_gty (n := "tuple") E.b_tuple) va_nil))) va_nil)) (pn_isiT2 ht hk)))))) ?_)
      exact s_one (s_retP (pv_tup (va_cons (pv_w (d := .str x.1) 1 rfl) (va_cons pv_non va_nil))) q)
    refine s_cons (s_ifP (b := !(decide (1 ≤ its.length) && decide (its.length ≤ 8))) (PVT.is (ptw (ww_orF (ptn (k := true) (pt_v (pv_cb call_isiTT E.b_isinstance (va_cons (pv_dget (d := x.2.d) hu1 (.inl rfl) (pv_w (d := t3D u) 0 rfl) (pv_w (d := .str x.1) 1 rfl) rfl hget) (va_cons (pv_tup (va_cons (pv_gty (n := "list") E.b_list) (va_cons (pv_gty (n := "tuple") E.b_tuple) va_nil))) va_nil)) (pn_isiT2 hty hk2)))) (ww_or1 (ptn (pt_chn op_le op_le pv_int (pv_len3 E.b_len (pv_dget (d := x.2.d) hu1 (.inl rfl) (pv_w (d := t3D u) 0 rfl) (pv_w (d := .str x.1) 1 rfl) rfl hget) hd) p2_le pv_int p2_le))))) (by rw [List.length_map]; exact congrArg not (congr (congrArg and (decide_eq_decide.mpr (by omega))) (decide_eq_decide.mpr (by omega))))) (fun hl => ?_) fun hl => s_nil ?_)
    · have e2 : nameFault (x.1, x.2.w) = some (x.1, none) := by
        unfold nameFault
        rw [if_pos hn, hlf]
        unfold lookThs
        rw [if_neg fun h => by rw [List.length_map] at h; simp [h.1, h.2] at hl]; rfl
      rw [fin _ e2] at q
      exact s_one (s_retP (pv_tup (va_cons (pv_w (d := .str x.1) 1 rfl) (va_cons pv_non va_nil))) q)
    have hl : 1 ≤ its.length ∧ its.length ≤ 8 := by simpa using hl
    have eR : nameFault (x.1, x.2.w) = (kindFault (its.map kI)).map fun i => (x.1, some i) := by
      unfold nameFault
      rw [if_pos hn, hlf]
      unfold lookThs
      rw [List.length_map, if_pos hl, List.map_map, Option.map_map]; rfl
    have ekk : D.lst (its.map fun z => D.str (kI z)) = .lst ((its.map kI).map D.str) := by rw [List.map_map]; rfl
    refine s_cons (s_setLc 2 [("_law_one_here", 5)] (lcM (xs := its) (g := itD) (fun z => .str (kI z)) [("_law_one_here", 5)] (fun z => [some (t3D u), some (.str x.1), o2, o3, none, some (itD z)]) (vi_v3 (pv_dget (d := x.2.d) hu1 (.inl rfl) (pv_w (d := t3D u) 0 rfl) (pv_w (d := .str x.1) 1 rfl) rfl hget) hd) (by omega) (fun z s H C cl fp => bind_name 5) (fun z hz J s H C cl fp => ?_) ?_))
    · refine pv_if (pt_it E hu z (pv_w (d := itD z) 5 rfl) (pv_w (d := itD z) 5 rfl)) (fun hw => ?_) fun hw => ?_
      · cases z with
        | w w0 => exact pv_ix ix_tup (pv_w (d := wr4 w0) 5 rfl) pv_int (p2_ixT rfl)
        | o i => exact nomatch hw
      · cases z with
        | w w0 => exact nomatch hw
        | o i => exact pv_str
    rw [ekk]
    have hkl : (its.map kI).length ≤ 8 := by rw [List.length_map]; exact hl.2
    have hks : ∀ y ∈ its.map kI, PyData.strOk y = true := fun y hy => by
      obtain ⟨z, hz, rfl⟩ := List.mem_map.mp hy
      refine List.all_eq_true.mp okW_kind _ ?_
      cases z with
      | w w0 => exact kind_mem (x := .wr w0) (hio _ hz : GoodR w0).g.gk
      | o i => exact kind_mem (x := .ot (oddD i)) (odd_ty i)
    clear ekk
    clear hxv hlf
    generalize its.map kI = ks at *
    refine s_one (s_forT (xs := List.range ks.length) (g := fun i : Nat => D.int i) po (PVI.is (vi_range1 E.b_range (PV.is (z := .int (ks.length : Nat)) (pv_len E.b_len (pv_w (d := .lst (ks.map D.str)) 2 rfl) trivial) (by rw [List.length_map])) (by omega) (by omega)) (by rw [Int.toNat_natCast])) (fun p' δ' I'' => I'' = I' ∧ (∀ i ∈ p', ∀ k, ks[i]? = some k → kindBad ks k i = false) ∧ ∃ o3, δ' = [some (t3D u), some (.str x.1), some (.lst (ks.map D.str)), o3, none, none]) ⟨rfl, (fun y hy => nomatch hy), _, rfl⟩ ?_ ?_)
    · rintro p' i r' δ' I' e' ⟨rfl, hp', o3', rfl⟩
      obtain ⟨epi, hi⟩ := zip_take3 e'
      have hi1 : i - 1 < ks.length := by omega
      have hki : ks[i]? = some ks[i] := List.getElem?_eq_getElem hi
      have e1 : (↑i + 1 : Int) = ((i + 1 : Nat) : Int) := rfl
      have e2 : (↑i + 2 : Int) = ((i + 2 : Nat) : Int) := rfl
      have a1 : eqD (.lst (cutD (ks.map D.str) (some (↑i + 1)) (some (↑i + 2)))) (.lst [.str "reply"]) = decide ((ks.drop (i + 1)).take 1 = (["reply"] : List Str)) := by
        rw [e1, e2, cut_mid, show i + 2 - (i + 1) = 1 by omega, ← List.map_drop, ← List.map_take, eqD_lst]
        exact Bool.eq_iff_iff.mpr ((Inj.str.eqs _ ["reply"]).trans (by simp))
      have o1' : okEq (.lst (cutD (ks.map D.str) (some (↑i + 1)) (some (↑i + 2)))) = true := by
        rw [e1, e2, cut_mid, ← List.map_drop, ← List.map_take]
        exact okS_map fun x hx => hks x (List.mem_of_mem_drop (List.mem_of_mem_take hx))
      have eI : ∀ {j : Nat} (hj : j < ks.length), atI (ks.map D.str) ((j : Nat) : Int) = some (.str ks[j]) := fun hj => atI_m (List.getElem?_eq_getElem hj)
      have done : kindBad ks ks[i] i = true → castFault (ws3 u) = some (x.1, some i) := fun hk => fin _ (by
        rw [eR, kind_atR3 hi (fun j hj hjl => hp' j (by rw [epi]; exact List.mem_range.mpr hj) _ (List.getElem?_eq_getElem hjl)) hk]; rfl)
      have eKB : kindBad ks ks[i] i = ((decide (ks[i] = ("" : Str)) || (decide (ks[i] = ("ask" : Str)) && !decide ((ks.drop (i + 1)).take 1 = (["reply"] : List Str)))) || (decide (ks[i] = ("reply" : Str)) && (decide (i = 0) || !decide (ks[i - 1]'hi1 = ("ask" : Str))))) := by
        unfold kindBad
        rw [last_ask3 hi]
      refine ⟨_, [3], bind_name 3, ?_⟩
      refine s_cons (s_ifP (ptw (ww_or (pt_eq hu (pv_ix ix_list (pv_w (d := .lst (ks.map D.str)) 2 rfl) (pv_w (d := .int (i : Int)) 3 rfl) (p2_ixL (eI hi))) pv_str trivial) fun _ => ww_or1 (ptw (ww_and (pt_eq hu (pv_ix ix_list (pv_w (d := .lst (ks.map D.str)) 2 rfl) (pv_w (d := .int (i : Int)) 3 rfl) (p2_ixL (eI hi))) pv_str trivial) fun _ => ww_and1 (pt_ne hu (pv_slL (pv_w (d := .lst (ks.map D.str)) 2 rfl) (vo_some (pv_op op_add (pv_w 3 rfl) pv_int p2_add)) (vo_some (pv_op op_add (pv_w 3 rfl) pv_int p2_add))) (pv_lst (va_cons pv_str va_nil)) ⟨o1', by decide +kernel⟩))))) (fun hA => ?_) fun hA => s_nil ?_)
      · rw [a1] at hA
        rw [done (by rw [eKB, hA]; all_goals rfl)] at q
        exact s_one (s_retP (pv_tup (va_cons (pv_w (d := .str x.1) 1 rfl) (va_cons (pv_w (d := .int (i : Int)) 3 rfl) va_nil))) q)
      rw [a1] at hA
      refine s_one (s_ifP (b := decide (ks[i] = ("reply" : Str)) && (decide (i = 0) || !decide (ks[i - 1]'hi1 = ("ask" : Str)))) (ptw (ww_and (pt_eq hu (pv_ix ix_list (pv_w (d := .lst (ks.map D.str)) 2 rfl) (pv_w (d := .int (i : Int)) 3 rfl) (p2_ixL (eI hi))) pv_str trivial) fun _ => ww_and1 (ptw (PVW.is3 (ww_or (l := !decide (ks[i - 1]'hi1 = ("ask" : Str))) (pt_eq hu (pv_w (d := .int (i : Int)) 3 rfl) pv_int trivial) fun h0 => ww_or1 (pt_ne hu (pv_ix (z := .str (ks[i - 1]'hi1)) ix_list (pv_w (d := .lst (ks.map D.str)) 2 rfl) (pv_op op_sub (pv_w (d := .int (i : Int)) 3 rfl) pv_int p2_sub) (p2_ixL ?_)) pv_str trivial)) (congrArg (fun b => b || _) (decide_eq_decide.mpr (by omega))))))) (fun hB => ?_) fun hB => s_nil ?_)
      · have h0 : ¬ i = 0 := by simpa using h0
        rw [show ((i : Int) - 1) = ((i - 1 : Nat) : Int) by omega]
        exact eI (by omega)
      · rw [done (by rw [eKB, hA, hB]; all_goals rfl)] at q
        exact s_one (s_retP (pv_tup (va_cons (pv_w (d := .str x.1) 1 rfl) (va_cons (pv_w (d := .int (i : Int)) 3 rfl) va_nil))) q)
      · refine ⟨rfl, fun j hj k hk => ?_, _, rfl⟩
        rcases List.mem_append.mp hj with hj | hj
        · exact hp' j hj k hk
        · rw [List.mem_singleton.mp hj] at hk ⊢
          rw [hki] at hk
          cases hk
          rw [eKB, hA, hB]; all_goals rfl
    · rintro δ' I' ⟨rfl, hp', o3', rfl⟩
      refine ⟨rfl, fun y hy => ?_, _, _, _, rfl⟩
      rcases List.mem_append.mp hy with hy | hy
      · exact hp y hy
      · rw [List.mem_singleton.mp hy, eR, kind_none (fun z hz => hp' z.2 (List.mem_range.mpr (by
          have := mem_zipIdx hz
          exact (List.getElem?_eq_some_iff.mp this).1)) z.1 (mem_zipIdx hz))]; rfl
  · rintro δ' I' ⟨rfl, hp, o1, o2, o3, rfl⟩
    have e2 : castFault (ws3 u) = none := by
      rw [eB, List.findSome?_eq_none_iff]
      exact hp
    rw [e2] at q
    exact s_one (s_retP pv_non q)
end
end LK
set_option Elab.async false
set_option linter.all false
set_option maxRecDepth 100000
set_option maxHeartbeats 4000000
set_option pp.maxSteps 300
namespace LK
open PySem PySem.Spec PyProof.Rows L2 DL
inductive En where
  | row (i : Nat)
  | tp (its : List Itm)
  | ot (i : Nat)
def entD (qs : List Addr) : En → D
  | .row i => match qs[i]? with
    | some q => .adr q
    | none => .non
  | .tp its => .tup (its.map itD)
  | .ot i => otD i
structure S3 where
  qs : List Addr
  rs : List (List Itm)
  T : List (Str × En)
abbrev kdT (qs : List Addr) (T : List (Str × En)) : List (Key × D) := T.map fun x => ((.inr x.1 : Key), entD qs x.2)
def iT3 (K : PySem.W.Frag) (p : Addr) (s : S3) : Iv K := (iDic K p (kdT s.qs s.T)).and (iRows K s.qs (s.rs.map fun r => r.map itD))
def EnOk (n m : Nat) : En → Prop
  | .row i => i < m
  | .tp its => (∀ y ∈ its, ItOk y) ∧ its.length ≤ 3 * 10 ^ n
  | .ot _ => True
structure S3ok (n : Nat) (s : S3) : Prop where
  l : s.qs.length = s.rs.length
  nd : (s.T.map (·.1)).Nodup
  nm : ∀ x ∈ s.T, x.1 ∈ nm16
  en : ∀ x ∈ s.T, EnOk n s.qs.length x.2
  it : ∀ r ∈ s.rs, (∀ y ∈ r, ItOk y) ∧ r.length ≤ 3 * 10 ^ n
  tz : s.T.length ≤ 3 + 7 * n
theorem erase_map {α β : Type} (f : α → β) : ∀ (r : List α) (j : Nat), (r.map f).eraseIdx j = (r.eraseIdx j).map f
  | [], _ => rfl
  | _ :: _, 0 => rfl
  | a :: r, j + 1 => by rw [List.map_cons, List.eraseIdx_cons_succ, List.eraseIdx_cons_succ, List.map_cons, erase_map f r j]
theorem pow_up (n : Nat) : 10 ^ (n + 1) = 10 * 10 ^ n := by rw [Nat.pow_succ]; omega
theorem EnOk.up {n m k : Nat} {e : En} (h : EnOk n m e) (hm : m ≤ k) : EnOk (n + 1) k e := by
  cases e with
  | row i => exact Nat.lt_of_lt_of_le h hm
  | tp its => refine ⟨h.1, ?_⟩; have := h.2; rw [pow_up]; omega
  | ot i => trivial
theorem S3ok.up {n : Nat} {s : S3} (h : S3ok n s) : S3ok (n + 1) s := ⟨h.l, h.nd, h.nm, fun x hx => (h.en x hx).up (Nat.le_refl _), fun r hr => ⟨(h.it r hr).1, by have := (h.it r hr).2; rw [pow_up]; omega⟩, by have := h.tz; omega⟩
def putE (T : List (Str × En)) (n : Str) (e : En) : List (Str × En) := if n ∈ T.map (·.1) then T.map fun p => if p.1 = n then (p.1, e) else p else T ++ [(n, e)]
theorem putE_kd (qs : List Addr) (T : List (Str × En)) (n : Str) (e : En) : putG (kdT qs T) (.inr n) (entD qs e) = kdT qs (putE T n e) := by
  by_cases hn : n ∈ T.map (·.1)
  · unfold putG putE
    have ea : ((kdT qs T).any fun kv => decide (kv.1 = (.inr n : Key))) = true := by
      rw [List.any_eq_true]
      obtain ⟨p, hp, e⟩ := List.mem_map.mp hn
      exact ⟨_, List.mem_map_of_mem hp, decide_eq_true (congrArg Sum.inr e)⟩
    rw [if_pos ea, if_pos hn]
    unfold kdT
    rw [List.map_map, List.map_map]
    refine List.map_congr_left fun p _ => ?_
    show (if (Sum.inr p.1 : Key) = .inr n then ((Sum.inr p.1 : Key), entD qs e) else _) = ((.inr (if p.1 = n then (p.1, e) else p).1 : Key), entD qs (if p.1 = n then (p.1, e) else p).2)
    by_cases e : p.1 = n
    · rw [if_pos (congrArg Sum.inr e), if_pos e]
    · rw [if_neg fun h => e (Sum.inr.inj h), if_neg e]
  · unfold putE
    rw [if_neg hn]
    unfold kdT
    rw [put_newT (k := fun p : Str × En => p.1) (v := fun p => entD qs p.2) hn, List.map_append]; rfl
theorem putE_names (T : List (Str × En)) (n : Str) (e : En) : (putE T n e).map (·.1) = if n ∈ T.map (·.1) then T.map (·.1) else T.map (·.1) ++ [n] := by
  unfold putE
  split
  · rw [List.map_map]
    refine List.map_congr_left fun p _ => ?_
    show (if p.1 = n then (p.1, e) else p).1 = p.1
    split <;> rfl
  · rw [List.map_append]; rfl
theorem putE_mem {T : List (Str × En)} {n : Str} {e : En} {x : Str × En} (h : x ∈ putE T n e) : x ∈ T ∨ x = (n, e) := by
  unfold putE at h
  split at h
  · obtain ⟨q, hq, e2⟩ := List.mem_map.mp h
    split at e2
    · rename_i hn
      exact .inr (by rw [← e2, hn])
    · exact .inl (e2 ▸ hq)
  · rcases List.mem_append.mp h with h | h
    · exact .inl h
    · exact .inr (List.mem_singleton.mp h)
theorem putE_nd {T : List (Str × En)} (nd : (T.map (·.1)).Nodup) (n : Str) (e : En) : ((putE T n e).map (·.1)).Nodup := by
  rw [putE_names]
  split
  · exact nd
  · rename_i h
    rw [List.nodup_append]
    exact ⟨nd, by simp, fun a ha b hb e => by
      rw [List.mem_singleton.mp hb] at e
      exact h (e ▸ ha)⟩
theorem putE_len (T : List (Str × En)) (n : Str) (e : En) : T.length ≤ (putE T n e).length ∧ (putE T n e).length ≤ T.length + 1 := by
  unfold putE
  split
  · rw [List.length_map]; omega
  · rw [List.length_append]; simp
theorem entD_app {qs ps : List Addr} {n : Nat} {e : En} (h : EnOk n qs.length e) : entD (qs ++ ps) e = entD qs e := by
  cases e with
  | row i =>
    have h : i < qs.length := h
    simp only [entD, List.getElem?_append_left h]
  | tp its => rfl
  | ot i => rfl
theorem kdT_app {qs ps : List Addr} {n : Nat} {T : List (Str × En)} (h : ∀ x ∈ T, EnOk n qs.length x.2) : kdT (qs ++ ps) T = kdT qs T := List.map_congr_left fun x hx => by rw [entD_app (h x hx)]
theorem wk_rows {K : PySem.W.Frag} {F : Iv K} {p : Addr} {s : S3} {ps : List Addr} {ns : List (List Itm)} {T : List (Str × En)} (hl : s.qs.length = s.rs.length) : Wk ((F.and ((iDic K p (kdT (s.qs ++ ps) T)).and (iRows K s.qs (s.rs.map fun r => r.map itD)))).and (iRows K ps (ns.map fun r => r.map itD))) (F.and (iT3 K p ⟨s.qs ++ ps, s.rs ++ ns, T⟩)) := by
  refine Wk.assoc.trans (Wk.andR (Wk.assoc.trans ?_))
  show Wk _ ((iDic K p (kdT (s.qs ++ ps) T)).and (iRows K (s.qs ++ ps) ((s.rs ++ ns).map fun r => r.map itD)))
  rw [List.map_append]
  exact Wk.andR (Wk.rows_app (by rw [List.length_map]; exact hl))
theorem S3ok.row {n : Nat} {s : S3} (h : S3ok n s) {i : Nat} {r2 : List Itm} (hi : ∀ y ∈ r2, ItOk y) (hl : r2.length ≤ 3 * 10 ^ (n + 1)) : S3ok (n + 1) ⟨s.qs, s.rs.set i r2, s.T⟩ := by
  have u := h.up
  refine ⟨by rw [List.length_set]; exact u.l, u.nd, u.nm, u.en, fun r hr => ?_, u.tz⟩
  rcases List.mem_or_eq_of_mem_set hr with h | h
  · exact u.it r h
  · rw [h]; exact ⟨hi, hl⟩
theorem S3ok.put {n : Nat} {s : S3} (h : S3ok n s) {ps : List Addr} {ns : List (List Itm)} {m : Str} {e : En} (hl : ps.length = ns.length) (hm : m ∈ nm16) (he : EnOk (n + 1) (s.qs ++ ps).length e) (hns : ∀ r ∈ ns, (∀ y ∈ r, ItOk y) ∧ r.length ≤ 3 * 10 ^ (n + 1)) : S3ok (n + 1) ⟨s.qs ++ ps, s.rs ++ ns, putE s.T m e⟩ := by
  have u := h.up
  refine ⟨by rw [List.length_append, List.length_append, h.l, hl], putE_nd h.nd _ _, fun x hx => ?_, fun x hx => ?_, fun r hr => ?_, ?_⟩
  · rcases putE_mem hx with hx | rfl
    · exact h.nm x hx
    · exact hm
  · rcases putE_mem hx with hx | rfl
    · exact (h.en x hx).up (by rw [List.length_append]; omega)
    · exact he
  · rcases List.mem_append.mp hr with hr | hr
    · exact u.it r hr
    · exact hns r hr
  · have := (putE_len s.T m e).2
    have := h.tz
    show (putE s.T m e).length ≤ _
    omega
def sSpoil3 {K : PySem.W.Frag} : Spec K := fun I ds P _ => ∃ (a b : Addr) (c : Rc K) (p : Addr) (s : S3) (n : Nat), ds = [.adr a, .adr p] ∧ I = (c.fill (iDr K a b)).and (iT3 K p s) ∧ S3ok n s ∧ n ≤ 1 ∧ 1 ≤ s.T.length ∧ ∀ s', S3ok (n + 1) s' → 1 ≤ s'.T.length → P .non ((c.fill (iDr K a b)).and (iT3 K p s'))
section
variable {P : Program} {w : World} {K : PySem.W.Frag} {mg : Str → Option Value} {base : Heap}
theorem D_spoil3 (E : Env P w K mg base) : Def P w K mg base "_law_spoil" 2 ["_law_h", "_law_t"] [] sSpoil3 := mk_f_Lspoil E fun fd F => by
  refine fn_d F sc_f_Lspoil (fun I ds P R h => by obtain ⟨a, b, c, p, s, n, rfl, _⟩ := h; rfl) fun cdv A outer s0 H EE hr tk po I ds Q R h => ?_
  obtain ⟨a, b, c, p, s, n, rfl, rfl, o, hn1, hT1, q⟩ := h
  have nd := sc_f_Lspoil.nd
  have hu := hr.units
  have hu0 := hr.units0
  have hu1 := hr.u1
  have hr1 : Room 1 _ := hr
  have htz := o.tz
  have hp1 : 10 ^ n ≤ 10 := by
    have : n = 0 ∨ n = 1 := by omega
    rcases this with rfl | rfl <;> decide
  have hp0 : 1 ≤ 10 ^ n := by
    have : n = 0 ∨ n = 1 := by omega
    rcases this with rfl | rfl <;> decide
  have h64 : (s.T.map (·.1)).length < 64 := by rw [List.length_map]; omega
  have hnl : (sortS (s.T.map (·.1))).length = s.T.length := by rw [sortS_len, List.length_map]
  have ek : ((kdT s.qs s.T).map fun p => keyV p.1) = (s.T.map (·.1)).map D.str := by unfold kdT; rw [List.map_map, List.map_map]; rfl
  have dI : DcI ((c.fill (iDr K a b)).and (iT3 K p s)) (.adr p) (kdT s.qs s.T) := DcI.m (.r (c.fill (iDr K a b)) (.l .here (iRows K s.qs (s.rs.map fun r => r.map itD)))) rfl
  refine SX.k ?_
  refine s_cons (s_set 2 (ev_ix ix_list (PV.ev (pv_sortedS E.b_sorted (PV.is (pv_listDI E.b_list (pv_v (d := .adr p) 1) dI) (congrArg D.lst ek)) h64) (ev_nextP (n := s.T.length) tk (D_next E) hr1 (.l c (iT3 K p s)) (pv_v (d := .adr a) 0) (PV.is (pv_cb call_lenDR E.b_len (va_cons (pv_v (d := .adr p) 1) va_nil) (pn_lenDI dI)) (by unfold kdT; rw [List.length_map])) rfl (by omega) fun k k0 k1 => o2_ixL k0 (by rw [List.length_map, hnl]; exact k1) fun d hd => ?_))))
  obtain ⟨nm, hnm, rfl⟩ := List.mem_map.mp hd
  obtain ⟨x, hx, rfl⟩ := List.mem_map.mp (sortS_mem.mp hnm)
  have hgx : getG (kdT s.qs s.T) (.inr x.1) = some (entD s.qs x.2) := get_dicT (k := fun y : Str × En => y.1) (v := fun y => entD s.qs y.2) o.nd hx
  have hxn : x.1 ∈ s.T.map (·.1) := List.mem_map_of_mem hx
  refine s_cons (s_set 3 (ev_nextP tk (D_next E) hr1 (.l c (iT3 K p s)) (pv_w (d := .adr a) 0 rfl) pv_int rfl (by decide) fun z z0 z1 => ?_))
  have back : ∃ I', Wk ((c.fill (iDr K a b)).and (iT3 K p s)) I' ∧ Q .non I' := ⟨_, Wk.refl, q s o.up hT1⟩
  have hen := o.en x hx
  cases hv : x.2 with
  | ot i0 =>
    have hot : ∃ t, tyD (otD i0) = some t ∧ kitB t "list" = some false := by
      unfold otD
      split
      · exact ⟨_, rfl, by decide +kernel⟩
      · exact ⟨_, rfl, by decide +kernel⟩
      · exact ⟨_, rfl, by decide +kernel⟩
    obtain ⟨t, ht, hk⟩ := hot
    exact s_cons (s_ifT (ptw (ww_orT (ptn (k := false) (pt_v (pv_cb call_isi E.b_isinstance (va_cons (pv_dgetI (d := otD i0) hu1 dI (pv_w (d := .adr p) 1 rfl) (pv_w (d := .str x.1) 2 rfl) rfl (by rw [hgx, hv]; rfl)) (va_cons (pv_gty (n := "list") E.b_list) va_nil)) (pn_isi ht hk)))))) (s_one (s_retN back)))
  | tp its => exact s_cons (s_ifT (ptw (ww_orT (ptn (k := false) (pt_v (pv_cb call_isi E.b_isinstance (va_cons (pv_dgetI (d := .tup (its.map itD)) hu1 dI (pv_w (d := .adr p) 1 rfl) (pv_w (d := .str x.1) 2 rfl) rfl (by rw [hgx, hv]; rfl)) (va_cons (pv_gty (n := "list") E.b_list) va_nil)) (pn_isi (t := "tuple") (b := false) rfl)))))) (s_one (s_retN back)))
  | row i =>
  rw [hv] at hen
  have hi : i < s.qs.length := hen
  have hil : i < s.rs.length := by rw [← o.l]; exact hi
  obtain ⟨qa, hqa⟩ : ∃ qa, s.qs[i]? = some qa := ⟨_, List.getElem?_eq_getElem hi⟩
  obtain ⟨r, hr0⟩ : ∃ r, s.rs[i]? = some r := ⟨_, List.getElem?_eq_getElem hil⟩
  have hrm : r ∈ s.rs := List.mem_of_getElem? hr0
  obtain ⟨hri, hrl⟩ := o.it r hrm
  have hrl2 : r.length ≤ 30 := by omega
  have hgx2 : getG (kdT s.qs s.T) (.inr x.1) = some (.adr qa) := by rw [hgx, hv]; simp only [entD, hqa]
  obtain ⟨cr, hc1, hc2⟩ := iRows_at (K := K) (qs := s.qs) (rs := s.rs.map fun r => r.map itD) (i := i) (q := qa) (r := r.map itD) (by rw [List.length_map]; exact o.l) hqa (by rw [List.getElem?_map, hr0]; rfl)
  have eI : (c.fill (iDr K a b)).and (iT3 K p s) = (Rc.r (c.fill (iDr K a b)) (.r (iDic K p (kdT s.qs s.T)) cr)).fill (iLst K qa (r.map itD)) := by
    unfold iT3
    rw [hc1]; rfl
  have fin : ∀ r2 : List Itm, (∀ y ∈ r2, ItOk y) → r2.length ≤ 3 * 10 ^ (n + 1) → ∃ I', Wk ((Rc.r (c.fill (iDr K a b)) (.r (iDic K p (kdT s.qs s.T)) cr)).fill (iLst K qa (r2.map itD))) I' ∧ Q .non I' := fun r2 h1 h2 => by
    refine ⟨(c.fill (iDr K a b)).and (iT3 K p ⟨s.qs, s.rs.set i r2, s.T⟩), Wk.eq ?_, q _ (o.row h1 h2) hT1⟩
    show (c.fill (iDr K a b)).and ((iDic K p (kdT s.qs s.T)).and (cr.fill (iLst K qa (r2.map itD)))) = _
    rw [hc2, ← List.map_set]; rfl
  refine s_cons (s_ifP (b := decide (r = [])) (PVT.is (ptw (ww_orF (ptn (k := true) (pt_v (pv_cb call_isi E.b_isinstance (va_cons (pv_dgetI (d := .adr qa) hu1 dI (pv_w (d := .adr p) 1 rfl) (pv_w (d := .str x.1) 2 rfl) rfl hgx2) (va_cons (pv_gty (n := "list") E.b_list) va_nil)) (pn_isiM _ (b := true) (by decide +kernel) (eI := eI))))) (ww_or1 (pt_eqNil hu0 (pv_dgetI (d := .adr qa) hu1 dI (pv_w (d := .adr p) 1 rfl) (pv_w (d := .str x.1) 2 rfl) rfl hgx2) (LsI.m _ eI))))) (by cases r <;> rfl)) (fun hb => s_one (s_retN back)) fun hb => s_nil ?_)
  have hne : r ≠ [] := by simpa using hb
  have hrn : 1 ≤ r.length := List.length_pos_iff.mpr hne
  refine s_cons (s_set 4 (ev_nextP (n := r.length) tk (D_next E) hr1 (.l c (iT3 K p s)) (pv_w (d := .adr a) 0 rfl) (PV.is (pv_cb call_len_seq E.b_len (va_cons (pv_dgetI (d := .adr qa) hu1 dI (pv_w (d := .adr p) 1 rfl) (pv_w (d := .str x.1) 2 rfl) rfl hgx2) va_nil) (pn_lenI (LsI.m _ eI))) (by rw [List.length_map])) rfl (by omega) fun at0 a0 a1 => ?_))
  obtain ⟨at', rfl⟩ : ∃ j : Nat, at0 = (j : Int) := ⟨at0.toNat, by omega⟩
  have hat : at' < r.length := by omega
  have hra : r[at']? = some r[at'] := List.getElem?_eq_getElem hat
  refine s_cons (s_ifP (pt_eq hu (pv_w (d := .int z) 3 rfl) pv_int trivial) (fun hz0 => ?_) fun hz0 => s_nil ?_)
  · have hz : z = 0 := of_decide_eq_true hz0
    refine s_one (s_dputK (p := p) hu1 (PV.ev (pv_dgetI (d := .adr qa) hu1 dI (pv_w (d := .adr p) 1 rfl) (pv_w (d := .str x.1) 2 rfl) rfl hgx2) ⟨pv_w (d := .adr p) 1 rfl, ev_ix ix_list (PV.ev (pv_lst (va_cons pv_str (va_cons pv_str (va_cons pv_str (va_cons pv_str (va_cons pv_str (va_cons pv_str va_nil))))))) (ev_nextP tk (D_next E) hr1 (.l c (iT3 K p s)) (pv_w (d := .adr a) 0 rfl) pv_int rfl (by decide) fun j j0 j1 => o2_ixL j0 j1 fun d hd => ?_))⟩))
    have hd : d ∈ (["", "A", "a1", "abcdefghi", "a b", "abcdefgh"] : List Str).map D.str := hd
    obtain ⟨y, hy, rfl⟩ := List.mem_map.mp hd
    have hy16 : y ∈ nm16 := by
      have h9 : ∀ y ∈ (["", "A", "a1", "abcdefghi", "a b", "abcdefgh"] : List Str), y ∈ nm16 := by decide +kernel
      exact h9 y hy
    refine ⟨.r (c.fill (iDr K a b)) (.l .here (iRows K s.qs (s.rs.map fun r => r.map itD))), kdT s.qs s.T, .inr y, rfl, rfl, by unfold kdT; rw [List.length_map]; omega, ?_⟩
    have e0 : entD s.qs (.row i) = .adr qa := by simp only [entD, hqa]
    rw [← e0, putE_kd]
    have fin0 : ∃ I', Wk ((c.fill (iDr K a b)).and ((iDic K p (kdT s.qs (putE s.T y (.row i)))).and (iRows K s.qs (s.rs.map fun r => r.map itD)))) I' ∧ Q .non I' := ⟨(c.fill (iDr K a b)).and (iT3 K p ⟨s.qs, s.rs, putE s.T y (.row i)⟩), Wk.refl, q _ (by have := o.put (ps := []) (ns := []) (m := y) (e := .row i) rfl hy16 (by rw [List.append_nil]; exact hi) (fun r hr => nomatch hr); rwa [List.append_nil, List.append_nil] at this) (by have := (putE_len s.T y (.row i)).1; show 1 ≤ (putE s.T y (.row i)).length; omega)⟩
    refine s_cons (s_ifF (PVT.is (pt_eq hu (pv_w (d := .int z) 3 rfl) pv_int trivial) (decide_eq_false (by omega))) (s_nil ?_))
    refine s_cons (s_ifF (PVT.is (pt_eq hu (pv_w (d := .int z) 3 rfl) pv_int trivial) (decide_eq_false (by omega))) (s_nil ?_))
    refine s_cons (s_ifF (PVT.is (pt_eq hu (pv_w (d := .int z) 3 rfl) pv_int trivial) (decide_eq_false (by omega))) (s_nil ?_))
    refine s_cons (s_ifF (PVT.is (pt_eq hu (pv_w (d := .int z) 3 rfl) pv_int trivial) (decide_eq_false (by omega))) (s_nil ?_))
    refine s_cons (s_ifF (PVT.is (pt_eq hu (pv_w (d := .int z) 3 rfl) pv_int trivial) (decide_eq_false (by omega))) (s_nil ?_))
    refine s_one (s_ifF (PVT.is (pt_eq hu (pv_w (d := .int z) 3 rfl) pv_int trivial) (decide_eq_false (by omega))) (s_nil ?_))
    exact fin0
  have hz0 : z ≠ 0 := of_decide_eq_false hz0
  refine s_cons (s_ifP (pt_eq hu (pv_w (d := .int z) 3 rfl) pv_int trivial) (fun hz1 => ?_) fun hz1 => s_nil ?_)
  · have hz : z = 1 := of_decide_eq_true hz1
    refine s_one (s_dputK (p := p) hu1 (ev_ix ix_list (ev_lst (ea_cons (ev_lstM' va_nil (by simp) fun p1 => ?_)))))
    refine ea_cons (pv_non.ev ?_)
    refine ea_cons (pv_str.ev ?_)
    refine ea_cons (pv_int.ev ?_)
    refine ea_cons ?_
    have w1 : Wk (((c.fill (iDr K a b)).and (iT3 K p s)).and (iLst K p1 [])) ((c.fill (iDr K a b)).and (iT3 K p s)) := Wk.dropR
    have eI1 : ((c.fill (iDr K a b)).and (iT3 K p s)).and (iLst K p1 []) = (Rc.l (Rc.r (c.fill (iDr K a b)) (.r (iDic K p (kdT s.qs s.T)) cr)) (iLst K p1 [])).fill (iLst K qa (r.map itD)) := by rw [eI]; rfl
    refine ev_op op_rep (PV.ev (pv_dgetI (d := .adr qa) hu1 (DcI.wk w1 dI) (pv_w (d := .adr p) 1 rfl) (pv_w (d := .str x.1) 2 rfl) rfl hgx2) (pv_int.ev (o2_repM (n := 9) (LsI.m _ eI1) (by rw [List.length_map]; omega) (by decide) fun p2 => ea_cons ?_)))
    have w2 : Wk ((((c.fill (iDr K a b)).and (iT3 K p s)).and (iLst K p1 [])).and (iLst K p2 (List.replicate 9 (r.map itD)).flatten)) ((c.fill (iDr K a b)).and (iT3 K p s)) := Wk.dropR.trans w1
    have lr : LsI ((((c.fill (iDr K a b)).and (iT3 K p s)).and (iLst K p1 [])).and (iLst K p2 (List.replicate 9 (r.map itD)).flatten)) (.adr qa) (r.map itD) := LsI.wk w2 (LsI.m _ eI)
    refine (pv_tupJ E.b_tuple (pv_dgetI (d := .adr qa) hu1 (DcI.wk w2 dI) (pv_w (d := .adr p) 1 rfl) (pv_w (d := .str x.1) 2 rfl) rfl hgx2) lr).ev (ea_nil ⟨by simp, ?_⟩)
    refine ev_nextP tk (D_next E) hr1 (.l (.l (.l c (iT3 K p s)) (iLst K p1 [])) (iLst K p2 (List.replicate 9 (r.map itD)).flatten)) (pv_w (d := .adr a) 0 rfl) pv_int rfl (by decide) fun j j0 j1 => o2_ixL j0 j1 fun d hd => ⟨pv_w (d := .adr p) 1 rfl, (pv_w (d := .str x.1) 2 rfl).ev ⟨.l (.l (.r (c.fill (iDr K a b)) (.l .here (iRows K s.qs (s.rs.map fun r => r.map itD)))) (iLst K p1 [])) (iLst K p2 (List.replicate 9 (r.map itD)).flatten), kdT s.qs s.T, .inr x.1, rfl, rfl, by unfold kdT; rw [List.length_map]; omega, ?_⟩⟩
    have e9 : (List.replicate 9 (r.map itD)).flatten = ((List.replicate 9 r).flatten).map itD := by rw [List.map_flatten, List.map_replicate]
    have hl9 : ((List.replicate 9 r).flatten).length = 9 * r.length := by rw [List.length_flatten, List.map_replicate, List.sum_replicate_nat]
    have hns : ∀ r' ∈ [([] : List Itm), (List.replicate 9 r).flatten], (∀ y ∈ r', ItOk y) ∧ r'.length ≤ 3 * 10 ^ (n + 1) := fun r' hr' => by
      rcases List.mem_cons.mp hr' with rfl | hr'
      · exact ⟨(fun y hy => nomatch hy), by simp⟩
      · rw [List.mem_singleton.mp hr']
        refine ⟨fun y hy => ?_, by rw [hl9, pow_up]; omega⟩
        obtain ⟨l, hl, hy⟩ := List.mem_flatten.mp hy
        rw [List.eq_of_mem_replicate hl] at hy
        exact hri y hy
    have put1 : ∀ e : En, EnOk (n + 1) (s.qs ++ [p1, p2]).length e → d = entD (s.qs ++ [p1, p2]) e → ∃ I', Wk (((((c.fill (iDr K a b)).and ((iDic K p (putG (kdT s.qs s.T) (.inr x.1) d)).and (iRows K s.qs (s.rs.map fun r => r.map itD)))).and (iLst K p1 [])).and (iLst K p2 (List.replicate 9 (r.map itD)).flatten))) I' ∧ Q .non I' := fun e he hd => by
      have ok2 := o.put (ps := [p1, p2]) (ns := [[], (List.replicate 9 r).flatten]) (m := x.1) (e := e) rfl (o.nm x hx) he hns
      refine ⟨(c.fill (iDr K a b)).and (iT3 K p ⟨s.qs ++ [p1, p2], s.rs ++ [[], (List.replicate 9 r).flatten], putE s.T x.1 e⟩), ?_, q _ ok2 (by have := (putE_len s.T x.1 e).1; show 1 ≤ (putE s.T x.1 e).length; omega)⟩
      rw [hd, ← kdT_app (ps := [p1, p2]) o.en, putE_kd, e9]
      refine Wk.trans ?_ (wk_rows (ps := [p1, p2]) (ns := [[], (List.replicate 9 r).flatten]) o.l)
      exact Wk.assoc.trans (Wk.andR (Wk.and .refl Wk.row1))
    have fin1 : ∃ I', Wk (((((c.fill (iDr K a b)).and ((iDic K p (putG (kdT s.qs s.T) (.inr x.1) d)).and (iRows K s.qs (s.rs.map fun r => r.map itD)))).and (iLst K p1 [])).and (iLst K p2 (List.replicate 9 (r.map itD)).flatten))) I' ∧ Q .non I' := by
      simp only [List.mem_cons, List.not_mem_nil, or_false] at hd
      rcases hd with rfl | rfl | rfl | rfl | rfl | rfl
      · exact put1 (.row s.qs.length) (by show s.qs.length < _; rw [List.length_append]; simp) (by unfold entD; simp)
      · exact put1 (.ot 0) trivial rfl
      · exact put1 (.ot 1) trivial rfl
      · exact put1 (.ot 2) trivial rfl
      · exact put1 (.row (s.qs.length + 1)) (by show s.qs.length + 1 < _; rw [List.length_append]; simp) (by unfold entD; simp)
      · exact put1 (.tp r) ⟨hri, by rw [pow_up]; omega⟩ rfl
    refine s_cons (s_ifF (PVT.is (pt_eq hu (pv_w (d := .int z) 3 rfl) pv_int trivial) (decide_eq_false (by omega))) (s_nil ?_))
    refine s_cons (s_ifF (PVT.is (pt_eq hu (pv_w (d := .int z) 3 rfl) pv_int trivial) (decide_eq_false (by omega))) (s_nil ?_))
    refine s_cons (s_ifF (PVT.is (pt_eq hu (pv_w (d := .int z) 3 rfl) pv_int trivial) (decide_eq_false (by omega))) (s_nil ?_))
    refine s_cons (s_ifF (PVT.is (pt_eq hu (pv_w (d := .int z) 3 rfl) pv_int trivial) (decide_eq_false (by omega))) (s_nil ?_))
    refine s_one (s_ifF (PVT.is (pt_eq hu (pv_w (d := .int z) 3 rfl) pv_int trivial) (decide_eq_false (by omega))) (s_nil ?_))
    exact fin1
  have hz1 : z ≠ 1 := of_decide_eq_false hz1
  refine s_cons (s_ifP (pt_eq hu (pv_w (d := .int z) 3 rfl) pv_int trivial) (fun hz2 => ?_) fun hz2 => s_nil ?_)
  · have hz : z = 2 := of_decide_eq_true hz2
    refine s_one (s_setItemE (ev_ix ix_list (PV.ev (pv_lst (va_cons pv_non (va_cons pv_int (va_cons pv_str (va_cons (pv_tup (va_cons pv_str (va_cons pv_str va_nil))) (va_cons pv_bl (va_cons (pv_lst (va_cons pv_str (va_cons pv_str (va_cons pv_str (va_cons pv_str va_nil))))) va_nil))))))) (ev_nextP tk (D_next E) hr1 (.l c (iT3 K p s)) (pv_w (d := .adr a) 0 rfl) pv_int rfl (by decide) fun j j0 j1 => o2_ixL j0 j1 fun d hd => ?_))))
    have hd : d ∈ (List.range 6).map oddD := hd
    obtain ⟨j', _, rfl⟩ := List.mem_map.mp hd
    refine ⟨_, qa, r.map itD, (at' : Int), at', eI, (pv_dgetI (d := .adr qa) hu1 dI (pv_w (d := .adr p) 1 rfl) (pv_w (d := .str x.1) 2 rfl) rfl hgx2), pv_w (d := .int (at' : Int)) 4 rfl, by rw [List.length_map]; exact ixN_nat hat, ?_⟩
    rw [show (r.map itD).set at' (oddD j') = (r.set at' (.o j')).map itD by rw [List.map_set]; rfl]
    have fin2 := fin (r.set at' (.o j')) (fun y hy => by
      rcases List.mem_or_eq_of_mem_set hy with h | h
      · exact hri y h
      · rw [h]; trivial) (by rw [List.length_set, pow_up]; omega)
    refine s_cons (s_ifF (PVT.is (pt_eq hu (pv_w (d := .int z) 3 rfl) pv_int trivial) (decide_eq_false (by omega))) (s_nil ?_))
    refine s_cons (s_ifF (PVT.is (pt_eq hu (pv_w (d := .int z) 3 rfl) pv_int trivial) (decide_eq_false (by omega))) (s_nil ?_))
    refine s_cons (s_ifF (PVT.is (pt_eq hu (pv_w (d := .int z) 3 rfl) pv_int trivial) (decide_eq_false (by omega))) (s_nil ?_))
    refine s_one (s_ifF (PVT.is (pt_eq hu (pv_w (d := .int z) 3 rfl) pv_int trivial) (decide_eq_false (by omega))) (s_nil ?_))
    exact fin2
  have hz2 : z ≠ 2 := of_decide_eq_false hz2
  refine s_cons (s_ifP (pt_eq hu (pv_w (d := .int z) 3 rfl) pv_int trivial) (fun hz3 => ?_) fun hz3 => s_nil ?_)
  · have hz : z = 3 := of_decide_eq_true hz3
    refine s_one (s_popAtM _ (j := at') (pv_dgetI (d := .adr qa) hu1 dI (pv_w (d := .adr p) 1 rfl) (pv_w (d := .str x.1) 2 rfl) rfl hgx2) (pv_w (d := .int (at' : Int)) 4 rfl) (by rw [List.length_map]; exact hat) (by rw [List.length_map]; omega) ?_ (eI := eI))
    rw [show (r.map itD).eraseIdx at' = (r.eraseIdx at').map itD by rw [erase_map]]
    have fin3 := fin (r.eraseIdx at') (fun y hy => hri y (List.mem_of_mem_eraseIdx hy)) (by have := List.length_eraseIdx_le r at'; rw [pow_up]; omega)
    refine s_cons (s_ifF (PVT.is (pt_eq hu (pv_w (d := .int z) 3 rfl) pv_int trivial) (decide_eq_false (by omega))) (s_nil ?_))
    refine s_cons (s_ifF (PVT.is (pt_eq hu (pv_w (d := .int z) 3 rfl) pv_int trivial) (decide_eq_false (by omega))) (s_nil ?_))
    refine s_one (s_ifF (PVT.is (pt_eq hu (pv_w (d := .int z) 3 rfl) pv_int trivial) (decide_eq_false (by omega))) (s_nil ?_))
    exact fin3
  have hz3 : z ≠ 3 := of_decide_eq_false hz3
  refine s_cons (s_ifP (pt_eq hu (pv_w (d := .int z) 3 rfl) pv_int trivial) (fun hz4 => ?_) fun hz4 => s_nil ?_)
  · have hz : z = 4 := of_decide_eq_true hz4
    refine s_one (s_insert _ (pv_dgetI (d := .adr qa) hu1 dI (pv_w (d := .adr p) 1 rfl) (pv_w (d := .str x.1) 2 rfl) rfl hgx2) eI (by rw [List.length_map]; omega) ((pv_w (d := .int (at' : Int)) 4 rfl).ev ⟨at', rfl, by omega, eI, pv_ix (z := itD r[at']) ix_list (pv_dgetI (d := .adr qa) hu1 dI (pv_w (d := .adr p) 1 rfl) (pv_w (d := .str x.1) 2 rfl) rfl hgx2) (pv_w (d := .int (at' : Int)) 4 rfl) (p2_ixI (LsI.m (ds := r.map itD) _ eI) (atI_m hra)), ?_⟩))
    rw [show (r.map itD).take at' ++ [itD r[at']] ++ (r.map itD).drop at' = (r.take at' ++ [r[at']] ++ r.drop at').map itD by rw [List.map_append, List.map_append, List.map_take, List.map_drop]; rfl]
    have fin4 := fin (r.take at' ++ [r[at']] ++ r.drop at') (fun y hy => by
      rcases List.mem_append.mp hy with hy | hy
      · rcases List.mem_append.mp hy with hy | hy
        · exact hri y (List.mem_of_mem_take hy)
        · rw [List.mem_singleton.mp hy]; exact hri _ (List.getElem_mem _)
      · exact hri y (List.mem_of_mem_drop hy)) (by rw [List.length_append, List.length_append, List.length_take, List.length_drop, pow_up]; simp; omega)
    refine s_cons (s_ifF (PVT.is (pt_eq hu (pv_w (d := .int z) 3 rfl) pv_int trivial) (decide_eq_false (by omega))) (s_nil ?_))
    refine s_one (s_ifF (PVT.is (pt_eq hu (pv_w (d := .int z) 3 rfl) pv_int trivial) (decide_eq_false (by omega))) (s_nil ?_))
    exact fin4
  have hz4 : z ≠ 4 := of_decide_eq_false hz4
  refine s_cons (s_ifP (pt_eq hu (pv_w (d := .int z) 3 rfl) pv_int trivial) (fun hz5 => ?_) fun hz5 => s_nil ?_)
  · have hz : z = 5 := of_decide_eq_true hz5
    refine s_one (s_appendE (pv_dgetI (d := .adr qa) hu1 dI (pv_w (d := .adr p) 1 rfl) (pv_w (d := .str x.1) 2 rfl) rfl hgx2) (LsI.m _ eI) (ev_popAtM _ (d := itD r[at']) (pv_dgetI (d := .adr qa) hu1 dI (pv_w (d := .adr p) 1 rfl) (pv_w (d := .str x.1) 2 rfl) rfl hgx2) (pv_w (d := .int (at' : Int)) 4 rfl) (by rw [List.getElem?_map, hra]; rfl) (by rw [List.length_map]; omega) eI ⟨_, (r.map itD).eraseIdx at', rfl, by have := List.length_eraseIdx_le (r.map itD) at'; rw [List.length_map] at this; omega, ?_⟩))
    rw [show (r.map itD).eraseIdx at' ++ [itD r[at']] = (r.eraseIdx at' ++ [r[at']]).map itD by rw [erase_map, List.map_append]; rfl]
    have fin5 := fin (r.eraseIdx at' ++ [r[at']]) (fun y hy => by
      rcases List.mem_append.mp hy with hy | hy
      · exact hri y (List.mem_of_mem_eraseIdx hy)
      · rw [List.mem_singleton.mp hy]; exact hri _ (List.getElem_mem _)) (by have := List.length_eraseIdx_le r at'; rw [List.length_append, pow_up]; simp; omega)
    refine s_one (s_ifF (PVT.is (pt_eq hu (pv_w (d := .int z) 3 rfl) pv_int trivial) (decide_eq_false (by omega))) (s_nil ?_))
    exact fin5
  have hz5 : z ≠ 5 := of_decide_eq_false hz5
  refine s_one (s_ifP (pt_eq hu (pv_w (d := .int z) 3 rfl) pv_int trivial) (fun hz6 => ?_) fun hz6 => s_nil ?_)
  · have hz : z = 6 := of_decide_eq_true hz6
    refine s_one (s_forE po (ei_lst (ev_slL ((pv_lst (va_cons pv_str (va_cons pv_str (va_cons pv_str (va_cons pv_str (va_cons pv_str (va_cons pv_str va_nil))))))).ev ⟨_, rfl, eo_none (eo_some (ev_op op_add (pv_int.ev (ev_nextP tk (D_next E) hr1 (.l c (iT3 K p s)) (pv_w (d := .adr a) 0 rfl) pv_int rfl (by decide) fun j j0 j1 => p2_add _ ⟨_, rfl, ?_⟩))))⟩))))
    obtain ⟨j', rfl⟩ : ∃ j' : Nat, j = (j' : Int) := ⟨j.toNat, by omega⟩
    refine ⟨_, .inl rfl, Str, (["n", "o", "p", "q", "r", "s"] : List Str).take (1 + j'), D.str, fun pre δ' I' => ∃ (ps : List Addr) (ns : List (List Itm)) (T : List (Str × En)) (o5 : Option D), S3ok (n + 1) ⟨s.qs ++ ps, s.rs ++ ns, T⟩ ∧ ps.length = ns.length ∧ 1 ≤ T.length ∧ T.length ≤ s.T.length + pre.length ∧ I' = (c.fill (iDr K a b)).and (iT3 K p ⟨s.qs ++ ps, s.rs ++ ns, T⟩) ∧ δ' = [some (.adr a), some (.adr p), some (.str x.1), some (.int z), some (.int (at' : Int)), o5], ?_, ?_, ?_, ?_⟩
    · rw [show (1 + (j' : Int)) = ((1 + j' : Nat) : Int) by omega, cut_take]
      exact (List.map_take (f := D.str) (l := (["n", "o", "p", "q", "r", "s"] : List Str)) (i := 1 + j')).symm
    · exact ⟨[], [], s.T, none, by rw [List.append_nil, List.append_nil]; exact o.up, rfl, hT1, by simp, by rw [List.append_nil, List.append_nil], rfl⟩
    · rintro pre y rr δ' I' epre ⟨ps, ns, T, o5, ok, hpl, ht1, htl, rfl, rfl⟩
      have hy : y ∈ (["n", "o", "p", "q", "r", "s"] : List Str) := List.mem_of_mem_take (by rw [epre]; simp)
      have hy16 : y ∈ nm16 := by
        have h9 : ∀ y ∈ (["n", "o", "p", "q", "r", "s"] : List Str), y ∈ nm16 := by decide +kernel
        exact h9 y hy
      have hpre : pre.length < 6 := by
        have := congrArg List.length epre
        rw [List.length_take, List.length_append, List.length_cons] at this
        have h6 : pre.length + (y :: rr).length ≤ 6 := by rw [← List.length_append, ← epre, List.length_take]; exact Nat.min_le_right _ _
        rw [List.length_cons] at h6
        omega
      refine ⟨_, [5], bind_name 5, ?_⟩
      refine SX.k ?_
      refine s_one (s_dputK (p := p) hu1 (ev_lstM' (va_cons (pv_tup (va_cons pv_str (va_cons pv_str (va_cons pv_str (va_cons pv_str va_nil))))) va_nil) (by simp) fun p1 => ⟨pv_w (d := .adr p) 1 rfl, (pv_w (d := .str y) 5 rfl).ev ⟨.l (.r (c.fill (iDr K a b)) (.l .here (iRows K (s.qs ++ ps) ((s.rs ++ ns).map fun r => r.map itD)))) (iLst K p1 [.tup [.str "say", .str "x", .str "", .str ""]]), kdT (s.qs ++ ps) T, .inr y, rfl, rfl, by unfold kdT; rw [List.length_map]; omega, ?_⟩⟩))
      have hw0 : GoodR ⟨"say", "x", "", ""⟩ := ⟨⟨by decide +kernel, by decide +kernel, by decide +kernel, by decide +kernel, by decide +kernel, by decide +kernel, by decide +kernel⟩, by decide +kernel⟩
      have eE : D.adr p1 = entD ((s.qs ++ ps) ++ [p1]) (.row (s.qs ++ ps).length) := by simp [entD]
      have ok2 : S3ok (n + 1) ⟨(s.qs ++ ps) ++ [p1], (s.rs ++ ns) ++ [[.w ⟨"say", "x", "", ""⟩]], putE T y (.row (s.qs ++ ps).length)⟩ := by
        refine ⟨by rw [List.length_append, List.length_append (as := s.rs ++ ns), ok.l]; rfl, putE_nd ok.nd _ _, fun x hx => ?_, fun x hx => ?_, fun r hr => ?_, ?_⟩
        · rcases putE_mem hx with hx | rfl
          · exact ok.nm x hx
          · exact hy16
        · rcases putE_mem hx with hx | rfl
          · have := ok.en x hx
            cases hxe : x.2 with
            | row i => rw [hxe] at this; exact Nat.lt_of_lt_of_le this (by show (s.qs ++ ps).length ≤ ((s.qs ++ ps) ++ [p1]).length; rw [List.length_append (bs := [p1])]; exact Nat.le_add_right _ _)
            | tp its => rw [hxe] at this; exact this
            | ot i => trivial
          · show (s.qs ++ ps).length < ((s.qs ++ ps) ++ [p1]).length
            rw [List.length_append (bs := [p1])]; simp
        · rcases List.mem_append.mp hr with hr | hr
          · exact ok.it r hr
          · rw [List.mem_singleton.mp hr]
            exact ⟨fun z hz => by rw [List.mem_singleton.mp hz]; exact hw0, by rw [pow_up]; show 1 ≤ _; omega⟩
        · have := (putE_len T y (.row (s.qs ++ ps).length)).2
          have := o.tz
          show (putE T y _).length ≤ _
          omega
      have wk : Wk (((c.fill (iDr K a b)).and ((iDic K p (putG (kdT (s.qs ++ ps) T) (.inr y) (D.adr p1))).and (iRows K (s.qs ++ ps) ((s.rs ++ ns).map fun r => r.map itD)))).and (iLst K p1 [.tup [.str "say", .str "x", .str "", .str ""]])) ((c.fill (iDr K a b)).and (iT3 K p ⟨(s.qs ++ ps) ++ [p1], (s.rs ++ ns) ++ [[.w ⟨"say", "x", "", ""⟩]], putE T y (.row (s.qs ++ ps).length)⟩)) := by
        rw [eE, ← kdT_app (ps := [p1]) ok.en, putE_kd]
        exact Wk.trans (Wk.andR Wk.row1) (wk_rows (s := ⟨s.qs ++ ps, s.rs ++ ns, T⟩) (ps := [p1]) (ns := [[.w ⟨"say", "x", "", ""⟩]]) ok.l)
      have hTl : (putE T y (.row (s.qs ++ ps).length)).length ≤ s.T.length + (pre ++ [y]).length := by
        have h1 := (putE_len T y (.row (s.qs ++ ps).length)).2
        have h2 : (pre ++ [y]).length = pre.length + 1 := by simp
        omega
      refine ⟨_, wk, ps ++ [p1], ns ++ [[.w ⟨"say", "x", "", ""⟩]], putE T y (.row (s.qs ++ ps).length), _, ?_, by rw [List.length_append, List.length_append, hpl]; rfl, by have := (putE_len T y (.row (s.qs ++ ps).length)).1; omega, hTl, ?_, rfl⟩
      · rw [← List.append_assoc, ← List.append_assoc]; exact ok2
      · rw [← List.append_assoc, ← List.append_assoc]
    · rintro δ' I' ⟨ps, ns, T, o5, ok, hpl, ht1, htl, rfl, rfl⟩
      exact ⟨_, Wk.refl, q _ ok ht1⟩
  · exact back
end
end LK
set_option Elab.async false
set_option linter.all false
set_option maxRecDepth 100000
set_option maxHeartbeats 4000000
namespace RT
open PySem PySem.Spec PyProof.Rows L2
section
variable {prog : Program} {w : World} {A : Around} {E : Value → Shared → Prop} {s : Shared}
theorem extend_rev {R : Result → Shared → Prop} {it l : Addr} {items : Array Value} (hh : A.handled = none) (hit : s.heap.IsRevIter it l ((items.size : Int) - 1)) (hl : s.heap.IsList l items) (hne : l ≠ it) (hn : items.size ≤ sizeLine) (S : Addr) (hSi : S ≠ it) (hSl : S ≠ l) (res : Value) (c₀ : Nat)
    (hS : s.heap.get? S = some { cls := .type "list", data := .seq #[] c₀ })
    (hR : ∀ h' tk acc' c', (∀ b o, b ≠ S → b ≠ it → s.heap.get? b = some o → h'.get? b = some o) → h'.get? S = some { cls := .type "list", dict := none, data := .seq acc' c', slots := #[] } → ItemsOf (fun i v => items[items.size - 1 - i]? = some v) acc' items.size → R (.ok (.ret res)) { s with heap := h', toks := tk }) :
    wpAny (model prog w) A.in1 (Builtin.List.listExtendWith (.ref S) (.ref it) res)
      (fun fin s' => match fin with | .done f => R (.ok f) s' | .again c' => c'.quiet = true ∧ codeAny (model prog w) A c' R s') (fun e s' => R (.error e) s') s := by
  have W := (Walks.listRev (prog := prog) (w := w) (A := A.in1) hh it l hne items).toS
  have hSf : S ∉ [it, l] := by simp only [List.mem_cons, List.not_mem_nil, or_false, not_or]; exact ⟨hSi, hSl⟩
  have hT : s.TypeIs (.ref it) "list_reverseiterator" := hit.typeIs
  have h1 : Builtin.List.listSameRef (.ref S) (.ref it) = false := by simp [Builtin.List.listSameRef, hSi]
  unfold Builtin.List.listExtendWith
  refine wpAny_bind (wpAny_typeOf hT ?_)
  rw [if_neg (by rw [h1]; decide)]
  refine wpAny_bind (wpAny_pyIter_revIter hit ?_)
  refine wpAny_bind (wpAny_holding ?_)
  unfold Builtin.List.listLengthHint
  refine wpAny_bind (wpAny_specialOf hT nolen_lri ?_)
  show wpAny _ A.in1 (specialOf (Value.ref it) (Str.ofString "__length_hint__") >>= _) _ _ _
  refine wpAny_bind (wpAny_specialOf hT hint_lri ?_)
  generalize hid : ("list_reverseiterator.__length_hint__" : String) = id0
  wp_delta
  rw [show splitId id0 = some ("list_reverseiterator", "__length_hint__") from by subst hid; decide +kernel]
  subst hid
  refine wpAny_bind (wpAny_isInstance (b := true) hT (by rw [isSubtype_type]; kernel_rfl) ?_)
  refine wpAny_pure ?_
  rw [if_neg (by decide)]
  have e0 : ((items.size : Nat) : Int) - 1 - ((0 : Nat) : Int) = (items.size : Int) - 1 := by omega
  refine wpAny_pure ⟨plainId_quiet F.plain_extend_loop _, codeAny_extend_loopS W hn _ hSf _ items.size 0 _ _ _ rfl (Nat.zero_le _) ⟨Nat.zero_le _, by rw [e0]; exact hit, hl⟩ hS (ItemsOf.nil _) fun s' acc' c' hm hS' hacc => ?_⟩
  rw [Moved.eq_with hm]
  refine hR s'.heap s'.toks acc' c' (fun b o hb hb2 e => hm.heap b o (fun hmem => ?_) e) hS' hacc
  rcases List.mem_cons.mp hmem with e' | hmem
  · exact hb e'
  · exact hb2 (List.mem_singleton.mp hmem)
theorem init_rev {R : Result → Shared → Prop} {it l : Addr} {items : Array Value} (hh : A.handled = none) (hit : s.heap.IsRevIter it l ((items.size : Int) - 1)) (hl : s.heap.IsList l items) (hne : l ≠ it) (hn : items.size ≤ sizeLine) (S : Addr) (hSi : S ≠ it) (hSl : S ≠ l)
    (hS : s.heap.get? S = some { cls := .type "list", data := .seq #[] })
    (hR : ∀ h' tk acc' c', (∀ b o, b ≠ S → b ≠ it → s.heap.get? b = some o → h'.get? b = some o) → h'.get? S = some { cls := .type "list", dict := none, data := .seq acc' c', slots := #[] } → ItemsOf (fun i v => items[items.size - 1 - i]? = some v) acc' items.size → R (.ok (.ret .none)) { s with heap := h', toks := tk }) :
    wpAny (model prog w) A.in1 (Builtin.«list.__init__» ⟨[.ref S, .ref it], []⟩)
      (fun fin s' => match fin with | .done f => R (.ok f) s' | .again c' => c'.quiet = true ∧ codeAny (model prog w) A c' R s') (fun e s' => R (.error e) s') s := by
  show wpAny _ A.in1 (do let old ← Builtin.List.listItems (.ref S); Builtin.List.listUpdate (.ref S) (fun _ => #[]); letGo old.toList.reverse; Builtin.List.listExtendWith (.ref S) (.ref it) .none) _ _ s
  refine wpAny_bind ?_
  unfold Builtin.List.listItems
  refine wpAny_bind (wpAny_seqItems hS rfl (wpAny_pure ?_))
  show wpAny _ A.in1 (updateSeq S (fun _ => #[]) >>= fun _ => letGo (#[] : Array Value).toList.reverse >>= fun _ => Builtin.List.listExtendWith (.ref S) (.ref it) .none) _ _ s
  refine wpAny_bind (wpAny_updateSeq hS rfl ?_)
  have hS₂ := Heap.get?_update_self (Obj.mapSeq (fun _ => (#[] : Array Value))) hS rfl
  have oth : ∀ b o, b ≠ S → s.heap.get? b = some o → (s.heap.update S (Obj.mapSeq (fun _ => (#[] : Array Value)))).get? b = some o :=
    fun b o hb e => (Heap.get?_update_other _ _ (Ne.symm hb)).trans e
  refine wpAny_bind (wpAny_letGo ?_)
  obtain ⟨ol, hol, hlr⟩ := id hl
  refine extend_rev hh (hit.at fun o e => oth _ _ (Ne.symm hSi) e) ⟨ol, oth _ _ (Ne.symm hSl) hol, hlr⟩ hne hn S hSi hSl .none _ hS₂ fun h' tk acc' c' hk hS' hacc => ?_
  exact hR h' tk acc' c' (fun b o hb hb2 e => hk b o hb hb2 (oth b o hb e)) hS' hacc
theorem call_list_rev {it l : Addr} {items : Array Value} {Q : Value → Shared → Prop} (hh : A.handled = none) (hit : s.heap.IsRevIter it l ((items.size : Int) - 1)) (hl : s.heap.IsList l items) (hne : l ≠ it) (hn : items.size ≤ sizeLine)
    (hQ : ∀ h' tk acc' c', (∀ b o, b ≠ it → s.heap.get? b = some o → h'.get? b = some o) → h'.get? s.heap.objs.size = some { cls := .type "list", dict := none, data := .seq acc' c', slots := #[] } → ItemsOf (fun i v => items[items.size - 1 - i]? = some v) acc' items.size → Q (.ref s.heap.objs.size) { s with heap := h', toks := tk }) :
    wpAny (model prog w) A (call (.type "list") [.ref it]) Q E s := by
  refine callType_codes (Q₁ := fun obj s₁ => obj = .ref s.heap.objs.size ∧ s₁ = { s with heap := s.heap.push { cls := .type "list", data := .seq #[] } }) F.called_list (F.typeCall_list_1 _) F.entry_list_init
    (code_list_new _ ⟨rfl, rfl⟩) fun obj s₁ h₁ => ?_
  obtain ⟨rfl, rfl⟩ := h₁
  have hS : (s.heap.push { cls := .type "list", data := .seq #[] }).get? s.heap.objs.size = some { cls := .type "list", data := .seq #[] } := Heap.get?_push_size _ rfl
  obtain ⟨oi, hoi, _⟩ := id hit
  obtain ⟨ol, hol, _⟩ := id hl
  refine ⟨⟨_, hS, rfl⟩, F.args_list_init_2 _ _, init_rev (A := A.in1) (s := { s with heap := s.heap.push { cls := .type "list", data := .seq #[] } }) hh (hit.at fun o e => Heap.get?_push_of_some _ e) (hl.push _) hne hn _ (Nat.ne_of_gt (Heap.lt_size hoi)) (Nat.ne_of_gt (Heap.lt_size hol)) hS fun h' tk acc' c' hk hS' hacc => ?_⟩
  exact ⟨rfl, hQ h' tk acc' c' (fun b o hb e => hk b o (Nat.ne_of_lt (Heap.lt_size e)) hb (Heap.get?_push_of_some _ e)) hS' hacc⟩
end
section
variable {X : Cx}
def tListRev (K : PySem.W.Frag) (te : TE) : TE := fun σ H Q => te σ H fun v H1 => ∃ (a : Addr) (xs : List V), v = .ref a ∧ SqL K H1 a xs ∧ ∀ q, H1 q = none → Q (.ref q) (upd H1 q (.lst xs.reverse))
theorem pe_listRev {e : Expr} {te : TE} {p p2 pos pos2 : Pos} (hc : X.calm = true) (hg : Gl X "list") (hm : X.mg "list" = none) (hg2 : Gl X "reversed") (hm2 : X.mg "reversed" = none) (he : PE X e te)
    (hs : starEach [e] X.env = (false, eval e X.env) :: starEach [] X.env := by rfl)
    (hs2 : starEach [.Call (.Name "reversed" p2) [e] [] pos2] X.env = (false, eval (.Call (.Name "reversed" p2) [e] [] pos2) X.env) :: starEach [] X.env := by rfl) :
    PE X (.Call (.Name "list" p) [.Call (.Name "reversed" p2) [e] [] pos2] [] pos) (tListRev X.K te) := by
  refine ⟨fun pins s σ H Q I h => ?_⟩
  refine Call_ (ld_blt I hg hm boot_list (PyProof.Rows.callWith_type1 (args_cons (Call_ (ld_blt I hg2 hm2 PyProof.Rows.boot_reversed (PyProof.Rows.callWith_type1 (args_cons (thn (he.run pins s σ H _ I h) fun u s1 ⟨v, H1, I1, r1, q1⟩ => args_nil ?_) hs) hs rfl))) hs2) hs2 rfl))
  obtain ⟨a, xs, ev, hq, q⟩ := q1
  subst ev
  obtain rfl : u = Value.ref a := r1
  obtain ⟨its, rv, p', hz⟩ := I1.list hq
  refine call_reversed_list p'.isList (args_nil ?_)
  have k0 : ∀ b o, s1.heap.get? b = some o → (s1.heap.push (revObj a ((its.toArray.size : Int) - 1))).get? b = some o := fun b o e => Heap.get?_push_of_some _ e
  have I2 : Inv X pins σ H1 { s1 with heap := s1.heap.push (revObj a ((its.toArray.size : Int) - 1)) } := I1.kept (t' := s1.toks) k0
  obtain ⟨f0, f1, f2, f3, f4, f5⟩ := I1.fpOk (H' := H1) (b := s1.heap.objs.size) (Nat.le_refl _) (I1.hok.fresh (Nat.le_refl _))
  have hl := p'.isList
  obtain ⟨ol, hol, _⟩ := id hl
  have hne : a ≠ s1.heap.objs.size := Nat.ne_of_lt (Heap.lt_size hol)
  have hn : its.toArray.size ≤ sizeLine := by rw [List.size_toArray, ← rv.length]; exact hz
  refine call_list_rev (s := { s1 with heap := s1.heap.push (revObj a ((its.toArray.size : Int) - 1)) }) (I1.ok.hd hc) ⟨_, Heap.get?_push_size _ rfl, rfl, rfl⟩ (hl.push _) hne hn fun h' tk acc c' hk hD hi => ?_
  have hfr : H1 (s1.heap.push (revObj a ((its.toArray.size : Int) - 1))).objs.size = none := I2.hok.fresh (Nat.le_refl _)
  exact ⟨.ref (s1.heap.push (revObj a ((its.toArray.size : Int) - 1))).objs.size, upd H1 (s1.heap.push (revObj a ((its.toArray.size : Int) - 1))).objs.size (.lst xs.reverse), I2.turnedNew (t' := tk) (ch := [s1.heap.objs.size]) (fun b o hb e => hk b o (fun h => hb (by simp [h])) e) (fun b hb => by rw [List.mem_singleton.mp hb]; exact ⟨f0, f1, f2, f3, f4, f5⟩) (Nat.le_refl _)
    (show ObjOk X.prog X.w _ _ _ (.lst xs.reverse) from ⟨by rw [List.length_reverse]; exact hz, acc.toList, c', vals_rev rv hi, by rw [Array.toArray_toList]; exact hD⟩), rfl, q _ hfr⟩
end
end RT
namespace DL
open PySem PySem.Spec PyProof.Rows L2
section
variable {X : Cx} {I : Iv X.K} {e : Expr} {δ : DEnv} {p p2 pos pos2 : Pos} {ds : List D}
theorem pv_listRev (hm : X.mg "list" = none) (hm2 : X.mg "reversed" = none) (h : PV X I e δ (.lst ds)) (hc : X.calm = true := by rfl) (hg : Gl X "list" := by rfl) (hg2 : Gl X "reversed" := by rfl) (hs : starEach [e] X.env = (false, eval e X.env) :: starEach [] X.env := by rfl)
    (hs2 : starEach [.Call (.Name "reversed" p2) [e] [] pos2] X.env = (false, eval (.Call (.Name "reversed" p2) [e] [] pos2) X.env) :: starEach [] X.env := by rfl) : PV X I (.Call (.Name "list" p) [.Call (.Name "reversed" p2) [e] [] pos2] [] pos) δ (.lst ds.reverse) := fun W R P pp σ G H Q hE s hI qx q =>
  PE.wp (RT.pe_listRev hc hg hm hg2 hm2 peC hs hs2) (h W R (fun z J => z = .lst ds ∧ J = I) ⟨rfl, rfl⟩ σ G H _ hE s hI qx fun v d1 G1 H1 I1 s1 t1 h1 r1 ⟨ed, ei⟩ => by
    subst ed ei
    obtain ⟨a, xs, rfl, e1, rr⟩ := r1
    refine ⟨a, xs, rfl, SqL.of (t1 _ _ e1), fun n hn => ?_⟩
    have hg : G1 n = none := t1.free hn
    exact q (.ref n) (.lst ds.reverse) (upd G1 n (.lst xs.reverse)) _ _ (s1.trans (Evl.Ex.new hg)) (same_upd2 t1) (h1.keep hn t1) ⟨n, xs.reverse, rfl, upd_same, reps_rev (rr.mono (Evl.Ex.new hg))⟩ pp)
end
end DL
set_option Elab.async false
set_option linter.all false
set_option maxRecDepth 100000
set_option maxHeartbeats 4000000
set_option pp.maxSteps 300
namespace LK
open PySem PySem.Spec PyProof.Rows L2 DL
def toV (rs : List (List Itm)) : En → V3
  | .row i => .ls ((rs[i]?).getD [])
  | .tp its => .tp its
  | .ot i => .ot i
def frzT (s : S3) : T3 := s.T.map fun x => (x.1, toV s.rs x.2)
theorem frz_ok {n : Nat} {s : S3} (o : S3ok n s) (hn : n ≤ 2) : T3ok (frzT s) := by
  have hp : 10 ^ n ≤ 100 := by
    have : n = 0 ∨ n = 1 ∨ n = 2 := by omega
    rcases this with rfl | rfl | rfl <;> decide
  have htz := o.tz
  refine ⟨by unfold frzT; rw [map_fst (fun x => toV s.rs x.2)]; exact o.nd, fun p hp => ?_, fun p hp => ?_, by unfold frzT; rw [List.length_map]; omega⟩
  · obtain ⟨x, hx, rfl⟩ := List.mem_map.mp hp
    exact o.nm x hx
  · obtain ⟨x, hx, rfl⟩ := List.mem_map.mp hp
    have he := o.en x hx
    show (toV s.rs x.2).ok
    cases hv : x.2 with
    | row i =>
      rw [hv] at he
      have hi : i < s.rs.length := by rw [← o.l]; exact he
      show V3.ok (.ls ((s.rs[i]?).getD []))
      rw [List.getElem?_eq_getElem hi]
      have := o.it _ (List.getElem_mem hi)
      exact ⟨this.1, by have := this.2; show (s.rs[i]).length ≤ 1000; omega⟩
    | tp its =>
      rw [hv] at he
      exact ⟨he.1, by have := he.2; show its.length ≤ 1000; omega⟩
    | ot i => trivial
theorem kr_map {K : PySem.W.Frag} {G G' : Hp} {f g : (Str × En) → D} : ∀ {T : List (Str × En)} {kvs : List (Key × V)}, KR K G (T.map fun x => ((.inr x.1 : Key), f x)) kvs → (∀ x ∈ T, ∀ v, Rep K G (f x) v → Rep K G' (g x) v) → KR K G' (T.map fun x => ((.inr x.1 : Key), g x)) kvs
  | [], _, h, _ => h
  | x :: T, _, ⟨v, r, e, r1, r2⟩, k => ⟨v, r, e, k x (by simp) v r1, kr_map r2 fun y hy => k y (by simp [hy])⟩
theorem sx_frzT {X : Cx} {W : WX} {sts : List Stmt} {δ : DEnv} {κ : Ko X.K} {F : Iv X.K} {p : Addr} {s : S3} {n : Nat} (j : Nat) (o : S3ok n s) (hd : δ[j]? = some (some (.adr p))) (h : SX X W sts (δ.set j (some (t3D (frzT s)))) F κ) : SX X W sts δ (F.and (iT3 X.K p s)) κ := fun σ G H E hE sm hI kk => by
  have h1 : Hd ((F.and (iDic X.K p (kdT s.qs s.T))).and (iRows X.K s.qs (s.rs.map fun r => r.map itD))) G H := hI.wk Wk.assoc'
  obtain ⟨G1, s1, t1, h2, rr⟩ := freeze_rows (by rw [List.length_map]; exact o.l) sm h1
  obtain ⟨ob, hp, kvs, ek, kr⟩ := h2.right.ph
  have kr2 : KR X.K G1 (s.T.map fun x => ((.inr x.1 : Key), (toV s.rs x.2).d)) kvs := kr_map kr fun x hx v r => by
    have he := o.en x hx
    cases hv : x.2 with
    | row i =>
      rw [hv] at he r
      have hi : i < s.qs.length := he
      have hil : i < s.rs.length := by rw [← o.l]; exact hi
      have r : Rep X.K G1 (entD s.qs (.row i)) v := r
      simp only [entD, List.getElem?_eq_getElem hi] at r
      have ev : v = .ref s.qs[i] := r
      obtain ⟨v2, g1, g2⟩ := rr.get (i := i) (d := .lst ((s.rs[i]).map itD)) (by rw [List.getElem?_map, List.getElem?_map, List.getElem?_eq_getElem hil]; rfl)
      rw [List.getElem?_map, List.getElem?_eq_getElem hi] at g1
      have ev2 : v2 = .ref s.qs[i] := (Option.some.inj g1).symm
      show Rep X.K G1 (.lst (((s.rs[i]?).getD []).map itD)) v
      rw [List.getElem?_eq_getElem hil, ev, ← ev2]
      exact g2
    | tp its => rw [hv] at r; exact r
    | ot i => rw [hv] at r; exact r
  have h3 : Hd (F.and (iDic X.K p (s.T.map fun x => ((.inr x.1 : Key), (toV s.rs x.2).d)))) G1 H := h2.left.mk2 ⟨⟨ob, hp, kvs, ek, kr2⟩, h2.right.fr⟩ h2.apart
  refine sx_freezeD (kds := s.T.map fun x => ((.inr x.1 : Key), (toV s.rs x.2).d)) hd ?_ σ G1 H E (hE.mono s1) t1 h3 (kk.mono s1)
  have e : dicD (s.T.map fun x => ((.inr x.1 : Key), (toV s.rs x.2).d)) = t3D (frzT s) := by
    show _ = dicD (List.map _ (List.map _ _))
    rw [List.map_map]; rfl
  rw [e]
  exact h
theorem castFault_perm {u v : List (Str × Wv)} (nd : (u.map (·.1)).Nodup) (h : u.Perm v) : castFault u = castFault v := by
  unfold castFault
  rw [h.length_eq, sortW_permE nd h]
theorem fault_name {u : T3} (o : T3ok u) {no : Str × Option Nat} (h : castFault (ws3 u) = some no) : PyData.strOk no.1 = true := by
  unfold castFault at h
  split at h
  · obtain ⟨p, hp, e⟩ := List.exists_of_findSome?_eq_some h
    have hp := (sortW_perm _).mem_iff.mp hp
    obtain ⟨q, hq, rfl⟩ := List.mem_map.mp hp
    have hk := (nm16_ok _ (o.nm q hq)).2
    unfold nameFault at e
    split at e
    · rw [Option.map_eq_some_iff] at e
      obtain ⟨o, _, e⟩ := e
      rw [← e]; exact hk
    · cases e; exact hk
  · cases h
    show PyData.strOk "" = true
    decide +kernel
theorem bad_ok {o : Option (Str × Option Nat)} (h : ∀ no, o = some no → PyData.strOk no.1 = true) : okEq (badD3 o) = true := by
  cases o with
  | none => rfl
  | some no =>
    cases hn : no.2 with
    | none => show okEq (.tup [.str no.1, nD no.2]) = true; rw [hn]; exact (OkD.t2 (n := 1) (OkD.str (h no rfl)) .non).okEq (by decide)
    | some i => show okEq (.tup [.str no.1, nD no.2]) = true; rw [hn]; exact (OkD.t2 (n := 1) (OkD.str (h no rfl)) .int).okEq (by decide)
theorem bad_eq (o : Option (Str × Option Nat)) : eqD (badD3 o) (badD3 o) = true := by
  cases o with
  | none => rfl
  | some no =>
    show eqD (.tup [.str no.1, nD no.2]) (.tup [.str no.1, nD no.2]) = true
    cases no.2 <;> simp [eqDs, nD]
abbrev kW (K : PySem.W.Frag) (u : T3) : List (Key × D) := u.map fun p => ((.inr p.1 : Key), p.2.w.d K)
theorem kW_D (K : PySem.W.Frag) (u : T3) : dicD (kW K u) = wksD K (ws3 u) := by
  show dicD _ = dicD (List.map _ (List.map _ _))
  rw [List.map_map]; rfl
theorem wk_addE {K : PySem.W.Frag} {J : Iv K} : Wk J (J.and (iEmp K)) := ⟨fun a h => h.elim id fun h => h.elim, fun G H h => ⟨h, trivial, fun a ha => ha.2⟩⟩
section
variable {P : Program} {w : World} {K : PySem.W.Frag} {mg : Str → Option Value} {base : Heap}
abbrev LVL : Nat := 7
theorem ok_law (E : Env P w K mg base) (fd : FuncData) (F : FunD K "law" "law" (defArgs f_law) (defBody f_law) (defScope f_law) [] [] (He.ga K "law") fd) : FnOk P w K mg base (L2.CX P w) LVL (He.ga K "law") fd ["_law_script"] (spD K sLaw) := by
  refine fn_d F sc_f_law (fun I ds P R h => by obtain ⟨ns, rfl, _⟩ := h; rfl) fun cdv A outer s0 H EE hr tk po I ds Q R h => ?_
  obtain ⟨ns, rfl, hl, q⟩ := h
  have nd := sc_f_law.nd
  have hu := hr.units
  have hu1 := hr.u1
  have hr1 : Room 1 _ := hr.mono (by decide)
  have hr2 : Room 2 _ := hr.mono (by decide)
  have hr4 : Room 4 _ := hr.mono (by decide)
  have hr5 : Room 5 _ := hr.mono (by decide)
  have hr6 : Room 6 _ := hr
  refine s_cons (s_set 1 (ev_def tk (D_mix E) hr1 (ea_cons ((pv_v 0).ev (ea_cons (pv_int.ev (ea_nil ⟨ns, 3, rfl, hl, fun a b => ?_⟩)))))))
  refine s_cons (s_set 2 (ev_dnew fun p _ => ?_))
  refine SX.k ?_
  refine SX.wk (I' := (I.and (iDr K a b)).and (iT3 K p ⟨[], [], []⟩)) (Wk.andR wk_addE) ?_
  refine s_cons (s_forE po (ei_lst (ev_slL ((pv_lst (va_cons pv_str (va_cons pv_str (va_cons pv_str va_nil)))).ev ⟨_, rfl, eo_none (eo_some (ev_op op_add (pv_int.ev (ev_nextP tk (D_next E) hr1 (.l (.r I .here) (iT3 K p ⟨[], [], []⟩)) (pv_w (d := .adr a) 1 rfl) pv_int rfl (by decide) fun j j0 j1 => p2_add _ ⟨_, rfl, ?_⟩))))⟩))))
  obtain ⟨j', rfl⟩ : ∃ j' : Nat, j = (j' : Int) := ⟨j.toNat, by omega⟩
  refine ⟨_, .inl rfl, Str, (["who", "a", "log"] : List Str).take (1 + j'), D.str, fun pre δ' I' => ∃ (s : S3) (o3 : Option D), S3ok 0 s ∧ s.T.map (·.1) = pre ∧ I' = (I.and (iDr K a b)).and (iT3 K p s) ∧ δ' = [some (.lsf (ns.map D.int)), some (.adr a), some (.adr p), o3, none, none, none, none, none, none, none], ?_, ?_, ?_, ?_⟩
  · rw [show (1 + (j' : Int)) = ((1 + j' : Nat) : Int) by omega, cut_take]
    exact (List.map_take (f := D.str) (l := (["who", "a", "log"] : List Str)) (i := 1 + j')).symm
  · exact ⟨⟨[], [], []⟩, none, ⟨rfl, List.nodup_nil, (fun x hx => nomatch hx), (fun x hx => nomatch hx), (fun x hx => nomatch hx), by decide⟩, rfl, rfl, rfl⟩
  · rintro pre y rr δ' I' epre ⟨s, o3, ok, hnm, rfl, rfl⟩
    have hy : y ∈ (["who", "a", "log"] : List Str) := List.mem_of_mem_take (by rw [epre]; simp)
    have hy16 : y ∈ nm16 := by
      have h9 : ∀ y ∈ (["who", "a", "log"] : List Str), y ∈ nm16 := by decide +kernel
      exact h9 y hy
    have hnd : ((["who", "a", "log"] : List Str).take (1 + j')).Nodup := (List.take_sublist _ _).nodup (by decide +kernel)
    have hyn : y ∉ s.T.map (·.1) := by
      rw [hnm]
      rw [epre] at hnd
      exact fun h => (List.nodup_append.mp hnd).2.2 y h y (by simp) rfl
    have hpre : pre.length ≤ 2 := by
      have := congrArg List.length epre
      rw [List.length_take, List.length_append, List.length_cons] at this
      have h6 : pre.length + (y :: rr).length ≤ 3 := by rw [← List.length_append, ← epre, List.length_take]; exact Nat.min_le_right _ _
      rw [List.length_cons] at h6
      omega
    have hTl : s.T.length = pre.length := by rw [← hnm, List.length_map]
    refine ⟨_, [3], bind_name 3, ?_⟩
    refine SX.k ?_
    refine s_one (s_dputK (p := p) hu1 (ev_def tk (D_rowof E) hr4 (ea_cons ((pv_w (d := .adr a) 1 rfl).ev (ea_cons (ev_op op_add (pv_int.ev (ev_nextP tk (D_next E) hr1 (.l (.r I .here) (iT3 K p s)) (pv_w (d := .adr a) 1 rfl) pv_int rfl (by decide) fun m m0 m1 => p2_add _ (ea_cons (pv_int.ev (ea_nil ⟨a, b, .l (.r I .here) (iT3 K p s), 1 + m, 5, rfl, rfl, by omega, by omega, by decide, by decide, fun ws g hl p1 => ?_⟩)))))))))))
    refine ⟨pv_w (d := .adr p) 2 rfl, (pv_w (d := .str y) 3 rfl).ev ⟨.l (.r (I.and (iDr K a b)) (.l .here (iRows K s.qs (s.rs.map fun r => r.map itD)))) (iLst K p1 (ws.map wr4)), kdT s.qs s.T, .inr y, rfl, rfl, by unfold kdT; rw [List.length_map]; omega, ?_⟩⟩
    have hws : ∀ z ∈ ws, GoodR z := (g.ok (by decide) (by omega) (by omega)).g
    have em : ws.map wr4 = (ws.map Itm.w).map itD := by rw [List.map_map]; rfl
    have eE : D.adr p1 = entD (s.qs ++ [p1]) (.row s.qs.length) := by simp [entD]
    have hpe : putE s.T y (.row s.qs.length) = s.T ++ [(y, .row s.qs.length)] := by unfold putE; rw [if_neg hyn]
    refine ⟨_, ?_, ⟨s.qs ++ [p1], s.rs ++ [ws.map Itm.w], putE s.T y (.row s.qs.length)⟩, _, ?_, by rw [putE_names, if_neg hyn, hnm], rfl, rfl⟩
    · rw [eE, ← kdT_app (ps := [p1]) ok.en, putE_kd, em]
      exact Wk.trans (Wk.andR Wk.row1) (wk_rows (ps := [p1]) (ns := [ws.map Itm.w]) ok.l)
    · refine ⟨by rw [List.length_append, List.length_append, ok.l]; rfl, putE_nd ok.nd _ _, fun x hx => ?_, fun x hx => ?_, fun r hr => ?_, by show (putE s.T y _).length ≤ _; rw [hpe, List.length_append, hTl]; show _ + 1 ≤ _; omega⟩
      · rcases putE_mem hx with hx | rfl
        · exact ok.nm x hx
        · exact hy16
      · rcases putE_mem hx with hx | rfl
        · have := ok.en x hx
          cases hxe : x.2 with
          | row i => rw [hxe] at this; exact Nat.lt_of_lt_of_le this (by show s.qs.length ≤ (s.qs ++ [p1]).length; rw [List.length_append]; exact Nat.le_add_right _ _)
          | tp its => rw [hxe] at this; exact this
          | ot i => trivial
        · show s.qs.length < (s.qs ++ [p1]).length
          rw [List.length_append]; simp
      · rcases List.mem_append.mp hr with hr | hr
        · exact ok.it r hr
        · rw [List.mem_singleton.mp hr]
          exact ⟨fun z hz => by obtain ⟨v, hv, rfl⟩ := List.mem_map.mp hz; exact hws v hv, by rw [List.length_map]; show ws.length ≤ 3 * 10 ^ 0; omega⟩
  rintro δ' I' ⟨s, o3, ok, hnm, rfl, rfl⟩
  have hT1 : 1 ≤ s.T.length := by
    have := congrArg List.length hnm
    rw [List.length_map, List.length_take] at this
    have h3 : (["who", "a", "log"] : List Str).length = 3 := rfl
    rw [h3] at this
    omega
  -- spoilt
  refine s_cons (s_forE po (ei_range1 E.b_range (ev_nextP tk (D_next E) hr1 (.l (.r I .here) (iT3 K p s)) (pv_w (d := .adr a) 1 rfl) pv_int rfl (by decide) fun k k0 k1 => ⟨k, rfl, by omega, by omega, Nat, List.range k.toNat, (fun i => D.int (0 + (i : Nat))), (fun pre δ' I' => ∃ (s : S3) (o4 : Option D), S3ok pre.length s ∧ 1 ≤ s.T.length ∧ I' = (I.and (iDr K a b)).and (iT3 K p s) ∧ δ' = [some (.lsf (ns.map D.int)), some (.adr a), some (.adr p), o3, o4, none, none, none, none, none, none]), rfl, ?_, ?_, ?_⟩)))
  · exact ⟨s, none, ok, hT1, rfl, rfl⟩
  · rintro pre i rr δ' I' epre ⟨s, o4, ok, hT1, rfl, rfl⟩
    have hpre : pre.length ≤ 1 := by
      have := congrArg List.length epre
      rw [List.length_range, List.length_append, List.length_cons] at this
      omega
    refine ⟨_, [4], bind_name 4, ?_⟩
    refine s_one (s_expr (ev_def tk (D_spoil3 E) hr2 (ea_cons ((pv_w (d := .adr a) 1 rfl).ev (ea_cons ((pv_w (d := .adr p) 2 rfl).ev (ea_nil ⟨a, b, .r I .here, p, s, pre.length, rfl, rfl, ok, hpre, hT1, fun s' ok' hT' => ?_⟩)))))))
    exact ⟨s', _, by rw [List.length_append]; exact ok', hT', rfl, rfl⟩
  rintro δ' I' ⟨s, o4, ok0, hT1, rfl, rfl⟩
  have hk2 : (List.range k.toNat).length ≤ 2 := by rw [List.length_range]; omega
  generalize (List.range k.toNat).length = nn at *
  refine s_consI (fun δ' I' => ∃ (s : S3), S3ok nn s ∧ I' = (I.and (iDr K a b)).and (iT3 K p s) ∧ δ' = [some (.lsf (ns.map D.int)), some (.adr a), some (.adr p), o3, o4, none, none, none, none, none, none]) (s_if (et_nextEq tk (D_next E) hr1 (.l (.r I .here) (iT3 K p s)) (pv_w (d := .adr a) 1 rfl) pv_int pv_int rfl (by decide) fun b => ?_)) ?_
  · cases b with
    | false => exact s_nil ⟨s, ok0, rfl, rfl⟩
    | true =>
      refine s_one (s_clearD (.r (I.and (iDr K a _)) (.l .here (iRows K s.qs (s.rs.map fun r => r.map itD)))) (pv_w (d := .adr p) 2 rfl) rfl ?_)
      exact ⟨⟨s.qs, s.rs, []⟩, ⟨ok0.l, List.nodup_nil, (fun x hx => nomatch hx), (fun x hx => nomatch hx), ok0.it, Nat.zero_le _⟩, rfl, rfl⟩
  rintro δ' I' ⟨s, ok, rfl, rfl⟩
  refine sx_frzT 2 ok rfl ?_
  have ou := frz_ok ok hk2
  generalize frzT s = u at *
  clear ok ok0 hT1 hnm
  refine s_cons (s_setP (d := badD3 (castFault (ws3 u))) 5 (pv_def (D_due3 E) hr1 (va_cons (pv_w (d := t3D u) 2 rfl) va_nil) fun P pp => ⟨u, rfl, ou, pp⟩) ?_)
  have okF : okEq (badD3 (castFault (ws3 u))) = true := bad_ok fun no h => fault_name ou h
  have huz := ou.z
  refine s_cons (s_forT (xs := [u, u.reverse]) (g := fun v : T3 => D.lst ((v.map (·.1)).map D.str)) po (PVI.is (vi_lst (pv_lst (va_cons (pv_listD E.b_list (pv_w (d := t3D u) 2 rfl)) (va_cons (pv_listRev E.b_list E.b_reversed (pv_listD E.b_list (pv_w (d := t3D u) 2 rfl))) va_nil)))) (by rw [List.map_cons, List.map_cons, List.map_nil, List.map_reverse, List.map_reverse])) (fun pre δ' I' => I' = I.and (iDr K a b) ∧ ∃ o3 o6 o7 o8, δ' = [some (.lsf (ns.map D.int)), some (.adr a), some (t3D u), o3, o4, some (badD3 (castFault (ws3 u))), o6, o7, o8, none, none]) ⟨rfl, _, none, none, none, rfl⟩ ?_ ?_)
  · rintro pre0 v rr0 δ' I' epre0 ⟨rfl, o3, o6, o7, o8, rfl⟩
    have hvp : v.Perm u := by
      have hv : v ∈ [u, u.reverse] := by rw [epre0]; simp
      simp only [List.mem_cons, List.not_mem_nil, or_false] at hv
      rcases hv with rfl | rfl
      · exact List.Perm.refl _
      · exact List.reverse_perm _
    have ov : T3ok v := ⟨(hvp.map (·.1)).nodup_iff.mpr ou.nd, fun p hp => ou.nm p (hvp.mem_iff.mp hp), fun p hp => ou.v p (hvp.mem_iff.mp hp), by rw [hvp.length_eq]; exact ou.z⟩
    have hcf : castFault (ws3 v) = castFault (ws3 u) := castFault_perm (by have h := ov.nd; unfold ws3; rw [List.map_map]; exact h) (hvp.map _)
    have hvz := ov.z
    refine ⟨_, [6], bind_name 6, ?_⟩
    refine s_cons (s_setP 7 pv_non ?_)
    refine s_cons (s_set 8 (ev_dnew fun pm _ => ?_))
    refine SX.eq (I' := (I.and (iDr K a b)).and (iDic K pm (kW K []))) rfl ?_
    refine s_cons (s_forT (xs := v) (g := fun p => D.str p.1) po (PVI.is (vi_lst (pv_w (d := .lst ((v.map (·.1)).map D.str)) 6 rfl)) (by rw [List.map_map]; rfl)) (fun pre δ' I' => I' = (I.and (iDr K a b)).and (iDic K pm (kW K pre)) ∧ ∃ o3, δ' = [some (.lsf (ns.map D.int)), some (.adr a), some (t3D u), o3, o4, some (badD3 (castFault (ws3 u))), some (.lst ((v.map (·.1)).map D.str)), some .non, some (.adr pm), none, none]) ⟨rfl, _, rfl⟩ ?_ ?_)
    · rintro pre x rr δ' I' epre ⟨rfl, o3, rfl⟩
      have hx : x ∈ v := by rw [epre]; simp
      have hxu : x ∈ u := hvp.mem_iff.mp hx
      have hgx : getG (u.map fun p => ((.inr p.1 : Key), p.2.d)) (.inr x.1) = some x.2.d := get_dicT (k := fun p : Str × V3 => p.1) (v := fun p => p.2.d) ou.nd hxu
      have hxv := ou.v x hxu
      have hxn : x.1 ∉ pre.map (·.1) := by
        have := ov.nd
        rw [epre, List.map_append] at this
        exact fun h => (List.nodup_append.mp this).2.2 _ h x.1 (by simp) rfl
      have hpl : pre.length ≤ 40 := by have := congrArg List.length epre; rw [List.length_append] at this; omega
      have hnew : ∀ d, putG (kW K pre) (.inr x.1) d = kW K pre ++ [(.inr x.1, d)] := fun d => put_newT (k := fun p : Str × V3 => p.1) (v := fun p => p.2.w.d K) hxn
      have hover : ∀ d d', putG (kW K pre ++ [((.inr x.1 : Key), d)]) (.inr x.1) d' = kW K pre ++ [(.inr x.1, d')] := fun d d' => by
        unfold putG
        rw [if_pos (by simp), List.map_append]
        congr 1
        · conv => rhs; rw [← List.map_id (kW K pre)]
          refine List.map_congr_left fun kv hkv => ?_
          obtain ⟨y, hy, rfl⟩ := List.mem_map.mp hkv
          exact if_neg fun h => hxn (List.mem_map.mpr ⟨y, hy, Sum.inr.inj h⟩)
        · simp
      have hlen : ∀ d, (kW K pre ++ [((.inr x.1 : Key), d)]).length < 100000 := fun d => by rw [List.length_append, List.length_map]; simp; omega
      have fin : kW K (pre ++ [x]) = kW K pre ++ [((.inr x.1 : Key), x.2.w.d K)] := by unfold kW; rw [List.map_append]; rfl
      refine ⟨_, [3], bind_name 3, ?_⟩
      refine s_cons (s_dput (k := .inr x.1) (y := .str x.1) (p := pm) (kds := kW K pre) hu1 (.r (I.and (iDr K a b)) .here) (PV.ev (pv_dget (d := x.2.d) hu1 (.inl rfl) (pv_w (d := t3D u) 2 rfl) (pv_w (d := .str x.1) 3 rfl) rfl hgx) ⟨rfl, pv_w (d := .adr pm) 8 rfl, pv_w (d := .str x.1) 3 rfl, rfl, by unfold kW; rw [List.length_map]; omega, ?_⟩))
      rw [hnew]
      have thd : ∀ its : List Itm, its.map (fun y => (thI y).d K) = (its.map thI).map (Th.d K) := fun its => by rw [List.map_map]; rfl
      cases hv : x.2 with
      | ls its =>
        rw [hv] at hgx hxv fin
        refine s_cons (s_ifT (pt_v (pv_cb call_isi E.b_isinstance (va_cons (pv_dget (d := .lst (its.map itD)) hu1 (.inl rfl) (pv_w (d := t3D u) 2 rfl) (pv_w (d := .str x.1) 3 rfl) rfl hgx) (va_cons (pv_gty (n := "list") E.b_list) va_nil)) (pn_isi (t := "list") (b := true) rfl))) ?_)
        refine s_one (s_dput (k := .inr x.1) (y := .str x.1) (p := pm) (kds := kW K pre ++ [(.inr x.1, (V3.ls its).d)]) hu1 (.r (I.and (iDr K a b)) .here) (PV.ev (pv_lcTM (xs := its) (g := itD) (fun y => (thI y).d K) [("_law_one_here", 10)] (fun y => [some (.lsf (ns.map D.int)), some (.adr a), some (t3D u), some (.str x.1), o4, some (badD3 (castFault (ws3 u))), some (.lst ((v.map (·.1)).map D.str)), some .non, some (.adr pm), none, some (itD y)]) (vi_lst (pv_dget (d := .lst (its.map itD)) hu1 (.inl rfl) (pv_w (d := t3D u) 2 rfl) (pv_w (d := .str x.1) 3 rfl) rfl hgx)) (by have := hxv.2; omega) (fun y s H C cl fp => bind_name 10) (fun y hy J s H C cl fp => pv_def (D_things E) hr5 (va_cons (pv_w (d := itD y) 10 rfl) va_nil) fun P pp => ⟨y, rfl, hxv.1 y hy, pp⟩)) ⟨rfl, pv_w (d := .adr pm) 8 rfl, pv_w (d := .str x.1) 3 rfl, rfl, hlen _, ?_⟩))
        rw [hover]
        refine s_one (s_ifF (pt_v (pv_cb call_isi E.b_isinstance (va_cons (pv_dget (d := .lst (its.map itD)) hu1 (.inl rfl) (pv_w (d := t3D u) 2 rfl) (pv_w (d := .str x.1) 3 rfl) rfl hgx) (va_cons (pv_gty (n := "tuple") E.b_tuple) va_nil)) (pn_isi (t := "list") (b := false) rfl))) (s_nil ?_))
        rw [thd]
        exact ⟨by rw [fin]; rfl, _, rfl⟩
      | tp its =>
        rw [hv] at hgx hxv fin
        refine s_cons (s_ifF (pt_v (pv_cb call_isi E.b_isinstance (va_cons (pv_dget (d := .tup (its.map itD)) hu1 (.inl rfl) (pv_w (d := t3D u) 2 rfl) (pv_w (d := .str x.1) 3 rfl) rfl hgx) (va_cons (pv_gty (n := "list") E.b_list) va_nil)) (pn_isi (t := "tuple") (b := false) rfl))) (s_nil ?_))
        refine s_one (s_ifT (pt_v (pv_cb call_isi E.b_isinstance (va_cons (pv_dget (d := .tup (its.map itD)) hu1 (.inl rfl) (pv_w (d := t3D u) 2 rfl) (pv_w (d := .str x.1) 3 rfl) rfl hgx) (va_cons (pv_gty (n := "tuple") E.b_tuple) va_nil)) (pn_isi (t := "tuple") (b := true) rfl))) ?_)
        refine s_one (s_dput (k := .inr x.1) (y := .str x.1) (p := pm) (kds := kW K pre ++ [(.inr x.1, (V3.tp its).d)]) hu1 (.r (I.and (iDr K a b)) .here) (PV.ev (pv_tuple E.b_tuple (pv_lcTM (xs := its) (g := itD) (fun y => (thI y).d K) [("_law_one_here", 10)] (fun y => [some (.lsf (ns.map D.int)), some (.adr a), some (t3D u), some (.str x.1), o4, some (badD3 (castFault (ws3 u))), some (.lst ((v.map (·.1)).map D.str)), some .non, some (.adr pm), none, some (itD y)]) (vi_tup (pv_dget (d := .tup (its.map itD)) hu1 (.inl rfl) (pv_w (d := t3D u) 2 rfl) (pv_w (d := .str x.1) 3 rfl) rfl hgx)) (by have := hxv.2; omega) (fun y s H C cl fp => bind_name 10) (fun y hy J s H C cl fp => pv_def (D_things E) hr5 (va_cons (pv_w (d := itD y) 10 rfl) va_nil) fun P pp => ⟨y, rfl, hxv.1 y hy, pp⟩)) (.inl rfl)) ⟨rfl, pv_w (d := .adr pm) 8 rfl, pv_w (d := .str x.1) 3 rfl, rfl, hlen _, ?_⟩))
        rw [hover, thd]
        exact ⟨by rw [fin]; rfl, _, rfl⟩
      | ot i0 =>
        rw [hv] at hgx fin
        have hot : ∃ t, tyD (otD i0) = some t ∧ kitB t "list" = some false ∧ kitB t "tuple" = some false := by
          unfold otD
          split
          · exact ⟨_, rfl, by decide +kernel, by decide +kernel⟩
          · exact ⟨_, rfl, by decide +kernel, by decide +kernel⟩
          · exact ⟨_, rfl, by decide +kernel, by decide +kernel⟩
        obtain ⟨ty, ht, hk1, hk2'⟩ := hot
        refine s_cons (s_ifF (pt_v (pv_cb call_isi E.b_isinstance (va_cons (pv_dget (d := otD i0) hu1 (.inl rfl) (pv_w (d := t3D u) 2 rfl) (pv_w (d := .str x.1) 3 rfl) rfl hgx) (va_cons (pv_gty (n := "list") E.b_list) va_nil)) (pn_isi ht hk1))) (s_nil ?_))
        refine s_one (s_ifF (pt_v (pv_cb call_isi E.b_isinstance (va_cons (pv_dget (d := otD i0) hu1 (.inl rfl) (pv_w (d := t3D u) 2 rfl) (pv_w (d := .str x.1) 3 rfl) rfl hgx) (va_cons (pv_gty (n := "tuple") E.b_tuple) va_nil)) (pn_isi ht hk2'))) (s_nil ?_))
        exact ⟨by rw [fin]; rfl, _, rfl⟩
    rintro δ' I' ⟨rfl, o3, rfl⟩
    refine sx_freezeD (j := 8) rfl ?_
    rw [kW_D]
    refine s_consI (fun δ' I' => I' = I.and (iDr K a b) ∧ δ' = [some (.lsf (ns.map D.int)), some (.adr a), some (t3D u), o3, o4, some (badD3 (castFault (ws3 u))), some (.lst ((v.map (·.1)).map D.str)), some (badD3 (castFault (ws3 u))), some (wksD K (ws3 v)), none, none]) (s_try (i := 9) tk nd (namesG E.g_InvalidCast) fun W' pn xe tk' po' => s_one (s_expr (ev_cast E tk' hr5 ((pv_w (d := wksD K (ws3 v)) 8 rfl).ev ⟨ws3 v, rfl, ws3_ok ov, ?_⟩)))) ?_
    · rw [hcf]
      cases hF : castFault (ws3 u) with
      | none => exact ⟨rfl, rfl⟩
      | some no =>
        refine ⟨true, E.xm_InvalidCast_InvalidCast, fun _ a dd oe pn zc hf => ?_, fun h => nomatch h⟩
        refine s_cons (s_setP 7 (pv_tup (va_cons (pv_xf E.t_InvalidCast.xf E.f_InvalidCast_name zc hf (pv_v 9) rfl) (va_cons (pv_xf E.t_InvalidCast.xf E.f_InvalidCast_number zc hf (pv_v 9) rfl) va_nil))) ?_)
        refine s_one (s_ifF (ptn (k := true) (pt_v (pv_cb (call_isX E.t_InvalidCast.xc zc hf) E.b_isinstance (va_cons (pv_v 9) (va_cons (pv_gref E.g_LineError) va_nil)) (pn_isX (cv := .ref _) (cu := .ref _) (fun G v r => r) (fun u r => r) E.ki_InvalidCast_LineError)))) (s_nil ?_))
        exact ⟨rfl, rfl⟩
    rintro δ' I' ⟨rfl, rfl⟩
    refine s_one (s_ifP (b := false) (PVT.is (pt_ne (E := EqC.data) hu (x := badD3 (castFault (ws3 u))) (y := badD3 (castFault (ws3 u))) (pv_w (d := badD3 (castFault (ws3 u))) 7 rfl) (pv_w (d := badD3 (castFault (ws3 u))) 5 rfl) ⟨okF, okF⟩) (by rw [bad_eq]; rfl)) (fun h => nomatch h) fun _ => s_nil ?_)
    exact ⟨rfl, _, _, _, _, rfl⟩
  rintro δ' I' ⟨rfl, o3, o6, o7, o8, rfl⟩
  exact s_one (s_retP pv_bl ⟨_, Wk.refl, q _⟩)
end
end LK
set_option Elab.async false
set_option linter.all false
set_option maxRecDepth 100000
set_option maxHeartbeats 0
namespace LK
open PySem PySem.Spec PyProof.Rows L2 DL
theorem facts {P : Program} {w : World} {K : PySem.W.Frag} {h : Heap} {mg : Str → Option Value} {f : Addr} (X : K.In h) (G : h.Ns mainGlobals mg) (hfa : mg ("law" : Str) = some (.ref f)) (c0 : SaysS fn gs [] ex w h K) :
    ∃ fd : FuncData, (∀ (s : Shared) (v : Value), BindsTo s fd ⟨[v], []⟩ [("_law_script", v)]) ∧ ∀ base : Heap, K.In base → base.Ns mainGlobals mg → FnOk P w K mg base (L2.CX P w) LVL f fd ["_law_script"] (spD K sLaw) := by
  have c := c0.p
  have EE : ∀ base, Env P w K mg base := fun base => ⟨c.more, ⟨h, X, G⟩, fun d hd => c.has hd, fun d hd => c.hasG hd, fun p hp => nomatch hp⟩
  obtain ⟨fd, F⟩ := c.has in_f_law
  have F : FunD K "law" "law" (defArgs f_law) (defBody f_law) (defScope f_law) [] [] (He.ga K "law") fd := F
  have e := hfa.symm.trans (EE h).g_law
  cases e
  have b := FunD.bindsA (ps := ["_law_script"]) F fun _ _ _ _ _ _ us hl => match us, hl with | [_], _ => rfl
  exact ⟨fd, fun s v => b s [v] rfl, fun base _ _ => ok_law (EE base) fd F⟩
end LK
open PySem PySem.W PySem.Calls PyProof.Rows
theorem PySem.Challenge.cw_linesharing_k03_casts_refused_holds : PySem.Challenge.rw_linesharing_k03_casts_refused.Holds := by
  w_on; o_law
  refine HandSHeadRun.head_any (r := OpenLaw.row PySem.Challenge.rw_linesharing_k03_casts_refused) (q := view (OpenLaw.row PySem.Challenge.rw_linesharing_k03_casts_refused).prog [37]) (H := LK.hk) (ob := LK.ob) (M := 30000) (loose := LK.loose) (d := HandSHeadRun.topDef (OpenLaw.row PySem.Challenge.rw_linesharing_k03_casts_refused).prog 37) (kwd := []) LK.ob_eq
    (by kernel_rfl) (fun s => by kernel_rfl) LK.run (by kernel_rfl) (by kernel_rfl) (by kernel_rfl) (by rfl) (by first | assumption | decide +kernel) (by decide +kernel) ⟨rfl, rfl, rfl, rfl, rfl, by decide +kernel⟩ ?hw ?hc
  case hw => w_witness2
  case hc =>
    refine LamX.walk_ofTsE (l := PySem.Challenge.rw_linesharing_k03_casts_refused) (n := 63) (k := LK.LVL) (x := "_law_script") (CX := fun w => L2.CX (PySem.Challenge.rw_linesharing_k03_casts_refused).prog w) rfl (by decide) (by kernel_rfl) ⟨rfl, by decide, by decide⟩ ?F ?E
    case F =>
      intro w mg fa h Y G hmg0
      obtain ⟨K, KX, c⟩ := Y
      have hmg : mg ("law" : PySem.Str) = some (.ref fa) := by
        have e : (HandSHeadRun.topDef (OpenLaw.row PySem.Challenge.rw_linesharing_k03_casts_refused).prog 37).name = ("law" : PySem.Str) := by kernel_rfl
        rw [← e]
        exact hmg0
      obtain ⟨fd, hb, hF⟩ := LK.facts (P := (PySem.Challenge.rw_linesharing_k03_casts_refused).prog) (w := w) KX G hmg c
      exact ⟨K, KX, fd, [], _, (fun p hp => nomatch hp), (fun p hp => nomatch hp), (fun p hp => nomatch hp), hb, fun H a ns hl hbits _ hS => DL.sp_law hl hS, fun base h1 h2 _ => hF base h1 h2⟩
    case E =>
      intro w H s e s' z
      exact DL.cx0 z
