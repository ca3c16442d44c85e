import PyProof.Rows.All
import Wide.All
import OpenK.AllK
import Wide.FinOn
import HandS.ForMost
import HandS.ForExc
import HandS.Exc
import HandS.ExcOwn
import HandS.ExcInit
import HandS.ExcField
import HandS.ExcIs
import KE.KExcIs
import HandS.TryOnly
import HandS.IsInst
import HandS.Slots
import HandS.SlotsOwn
import HandS.Defaults
import HandS.MakeKw
import HandS.MakeKwOnly
import HandS.CallSlots
import HandS.Walk
import HandS.Evl
import HandS.HeadWalk
import HandS.HeadHook4
import KE.KStateDown
import HandS.Head0
import HandS.Head1
import HandS.Head2
import HandS.HeadEnd
import HandS.Dict
import HandS.Iter
import HandS.WordsDict
import KE.GoesEnum
import HandS.Deep
import HandS.TupAny
import HandS.DictComp
import HandS.Finally
import HandS.Zip
import HandS.Conv
import KE.KDictList
import HandS.OwnEq
import KE.KEqDict
import KE.KIndexOf
import KE.DataFind
import HandS.TupMul
import HandS.Star
import HandS.More
import PyProof.WalksMore
import PyProof.SumWalkG
import PyProof.FactsAll.tuple_2
import KE.KDictKeyed
import HandS.Flow
import KE.DataCmp
import HandS.Nested
import PyProof.RulesMatch
import HandS.Property
import HandS.StrMore
import KE.KOpsOwn
import PyProof.ListStr
import HandS.TryMany
import KE.KWithOwn
import HandS.Strs
import PyProof.Rows.SetFrom
import KE.SortData
import HandS.NestedK
import PySem.Challenge.RW_linesharing_k07_whole_terminals
set_option Elab.async false
set_option linter.all false
set_option maxRecDepth 100000
set_option maxHeartbeats 4000000
namespace DL
open PySem PySem.Spec PyProof.Rows L2

inductive D where
  | non | bl (b : Bool) | int (i : Int) | str (x : Str) | ty (n : String) | adr (a : Addr)
  | tup (ds : List D) | lst (ds : List D) | lsf (ds : List D) | slo (C : Addr) (ds : List D)
  | exc (a C dd : Addr) (ks : List Str) (ds : List D) | dic (ks : List Key) (ds : List D) | tub (ds : List D)

mutual
def Rep (K : PySem.W.Frag) (G : Hp) : D → V → Prop
  | .non, v => v = .non
  | .bl b, v => v = .bl b
  | .int i, v => v = .int i
  | .str x, v => v = .str x
  | .ty n, v => v = .ty n
  | .adr a, v => v = .ref a
  | .tup ds, v => ∃ (a : Addr) (vs : List V), v = .ref a ∧ SqT K G a vs ∧ Reps K G ds vs
  | .lst ds, v => ∃ (a : Addr) (vs : List V), v = .ref a ∧ G a = some (.lst vs) ∧ Reps K G ds vs
  | .lsf ds, v => ∃ (a : Addr) (vs : List V), v = .ref a ∧ SqL K G a vs ∧ Reps K G ds vs
  | .slo C ds, v => ∃ (a dx : Addr) (vs : List V), v = .ref a ∧ SlX.Slt G a C dx (vs.map some) ∧ Reps K G ds vs
  | .exc a _ dd ks ds, v => v = .ref a ∧ ∃ vs : List V, G dd = some (.xd (ks.zip vs)) ∧ Reps K G ds vs
  | .dic ks ds, v => ∃ (a : Addr) (od : Obj) (vs : List V), v = .ref a ∧ G a = some (.frz od (.dK (ks.zip vs))) ∧ ks.length = ds.length ∧ Reps K G ds vs
  | .tub ds, v => ∃ (a : Addr) (od : Obj) (vs : List V), v = .ref a ∧ G a = some (.frz od (.tup vs)) ∧ od.dict = none ∧ Reps K G ds vs
def Reps (K : PySem.W.Frag) (G : Hp) : List D → List V → Prop
  | [], vs => vs = []
  | d :: ds, vs => ∃ (v : V) (r : List V), vs = v :: r ∧ Rep K G d v ∧ Reps K G ds r
end

section
variable {K : PySem.W.Frag} {G G' H H' : Hp}
theorem sqT_mono {a : Addr} {xs : List V} (e : Same G H) (h : SqT K G a xs) : SqT K H a xs := Evl.ex_t e h
theorem sqL_mono {a : Addr} {xs : List V} (e : Same G H) (h : SqL K G a xs) : SqL K H a xs := e.seq h
theorem slt_mono {a C dx : Addr} {vs : List (Option V)} (e : Same G H) (h : SlX.Slt G a C dx vs) : SlX.Slt H a C dx vs := by
  rcases h with ⟨h1, h2⟩ | ⟨h1, h2⟩
  · exact .inl ⟨e _ _ h1, h2⟩
  · exact .inr ⟨e _ _ h1, e _ _ h2⟩
mutual
theorem Rep.mono (e : Same G H) : ∀ {d : D} {v : V}, Rep K G d v → Rep K H d v
  | .non, _, h => h
  | .bl _, _, h => h
  | .int _, _, h => h
  | .str _, _, h => h
  | .ty _, _, h => h
  | .adr _, _, h => h
  | .tup _, _, ⟨a, vs, h1, h2, h3⟩ => ⟨a, vs, h1, sqT_mono e h2, Reps.mono e h3⟩
  | .lst _, _, ⟨a, vs, h1, h2, h3⟩ => ⟨a, vs, h1, e _ _ h2, Reps.mono e h3⟩
  | .lsf _, _, ⟨a, vs, h1, h2, h3⟩ => ⟨a, vs, h1, sqL_mono e h2, Reps.mono e h3⟩
  | .slo _ _, _, ⟨a, dx, vs, h1, h2, h3⟩ => ⟨a, dx, vs, h1, slt_mono e h2, Reps.mono e h3⟩
  | .exc _ _ _ _ _, _, ⟨h1, vs, h2, h3⟩ => ⟨h1, vs, e _ _ h2, Reps.mono e h3⟩
  | .dic _ _, _, ⟨a, od, vs, h1, h2, h4, h3⟩ => ⟨a, od, vs, h1, e _ _ h2, h4, Reps.mono e h3⟩
  | .tub _, _, ⟨a, od, vs, h1, h2, h4, h3⟩ => ⟨a, od, vs, h1, e _ _ h2, h4, Reps.mono e h3⟩
theorem Reps.mono (e : Same G H) : ∀ {ds : List D} {vs : List V}, Reps K G ds vs → Reps K H ds vs
  | [], _, h => h
  | _ :: _, _, ⟨v, r, h1, h2, h3⟩ => ⟨v, r, h1, Rep.mono e h2, Reps.mono e h3⟩
end
theorem Reps.length : ∀ {ds : List D} {vs : List V}, Reps K G ds vs → vs.length = ds.length
  | [], _, h => by
    have h' : _ = [] := h
    subst h'
    rfl
  | _ :: _, _, ⟨v, r, h1, _, h3⟩ => by rw [h1, List.length_cons, List.length_cons, Reps.length h3]
theorem Reps.get : ∀ {ds : List D} {vs : List V} {i : Nat} {d : D}, Reps K G ds vs → ds[i]? = some d → ∃ v, vs[i]? = some v ∧ Rep K G d v
  | [], _, _, _, _, e => by simp at e
  | d :: ds, _, 0, d', ⟨v, r, h1, h2, h3⟩, e => by
    have e2 : d = d' := by simpa using e
    subst e2
    exact ⟨v, by rw [h1]; rfl, h2⟩
  | d :: ds, _, i + 1, d', ⟨v, r, h1, h2, h3⟩, e => by
    obtain ⟨w, e1, e2⟩ := Reps.get (i := i) h3 (by simpa using e)
    exact ⟨w, by rw [h1]; simpa using e1, e2⟩
theorem Reps.nil : Reps K G [] [] := rfl
theorem Reps.cons {d : D} {v : V} {ds : List D} {vs : List V} (h : Rep K G d v) (t : Reps K G ds vs) : Reps K G (d :: ds) (v :: vs) := ⟨v, vs, rfl, h, t⟩
theorem Reps.append : ∀ {ds es : List D} {vs ws : List V}, Reps K G ds vs → Reps K G es ws → Reps K G (ds ++ es) (vs ++ ws)
  | [], _, _, _, h, t => by rw [show _ = [] from h]; exact t
  | d :: ds, es, _, ws, ⟨v, r, h1, h2, h3⟩, t => by rw [h1]; exact ⟨v, r ++ ws, rfl, h2, Reps.append h3 t⟩
theorem Reps.one {d : D} {v : V} (h : Rep K G d v) : Reps K G [d] [v] := .cons h .nil
theorem Reps.set : ∀ {ds : List D} {vs : List V} {i : Nat} {d : D} {v : V}, Reps K G ds vs → Rep K G d v → Reps K G (ds.set i d) (vs.set i v)
  | [], _, _, _, _, h, _ => by rw [show _ = [] from h]; exact rfl
  | _ :: _, _, 0, d, v, ⟨w, r, h1, h2, h3⟩, q => by rw [h1]; exact ⟨v, r, rfl, q, h3⟩
  | _ :: _, _, i + 1, d, v, ⟨w, r, h1, h2, h3⟩, q => by rw [h1]; exact ⟨w, r.set i v, rfl, h2, Reps.set h3 q⟩

abbrev DEnv := List (Option D)
def EnvR (K : PySem.W.Frag) (G : Hp) (δ : DEnv) (σ : L2.St) : Prop := σ.length = δ.length ∧ ∀ (i : Nat) (d : D), δ[i]? = some (some d) → ∃ v, σ[i]? = some (some v) ∧ Rep K G d v
theorem EnvR.mono {δ : DEnv} {σ : L2.St} (e : Same G H) (h : EnvR K G δ σ) : EnvR K H δ σ := ⟨h.1, fun i d hd => by
  obtain ⟨v, h1, h2⟩ := h.2 i d hd
  exact ⟨v, h1, h2.mono e⟩⟩
theorem EnvR.set {δ : DEnv} {σ : L2.St} {i : Nat} {d : D} {v : V} (h : EnvR K G δ σ) (r : Rep K G d v) : EnvR K G (δ.set i (some d)) (σ.set i (some v)) := by
  refine ⟨by simp [h.1], fun j e he => ?_⟩
  by_cases hj : i = j
  · subst hj
    have hl : i < δ.length := by
      have := (List.getElem?_eq_some_iff.mp he).1
      simpa using this
    rw [List.getElem?_set_self hl] at he
    have e2 : d = e := by simpa using he
    subst e2
    exact ⟨v, List.getElem?_set_self (by rw [h.1]; exact hl), r⟩
  · rw [List.getElem?_set_ne hj] at he
    obtain ⟨w, h1, h2⟩ := h.2 j e he
    exact ⟨w, by rw [List.getElem?_set_ne hj]; exact h1, h2⟩
theorem EnvR.drop {δ : DEnv} {σ : L2.St} {i : Nat} (h : EnvR K G δ σ) (o : Option V) : EnvR K G (δ.set i none) (σ.set i o) := by
  refine ⟨by simp [h.1], fun j e he => ?_⟩
  by_cases hj : i = j
  · subst hj
    rw [List.getElem?_set] at he
    simp at he
  · rw [List.getElem?_set_ne hj] at he
    obtain ⟨w, h1, h2⟩ := h.2 j e he
    exact ⟨w, by rw [List.getElem?_set_ne hj]; exact h1, h2⟩
def dstart (N : List Str) (ds : List D) : DEnv := ds.map some ++ List.replicate (N.length - ds.length) none
theorem EnvR.start {N : List Str} {ds : List D} {vs : List V} (r : Reps K G ds vs) : EnvR K G (dstart N ds) (L2.start N vs) := by
  have hl := r.length
  refine ⟨by unfold L2.start dstart; simp [hl], fun i d hd => ?_⟩
  unfold dstart at hd
  by_cases hi : i < ds.length
  · rw [List.getElem?_append_left (by simpa using hi), List.getElem?_map] at hd
    have hd2 : ds[i]? = some d := by
      cases e : ds[i]? with
      | none => rw [e] at hd; cases hd
      | some x => rw [e] at hd; simpa using hd
    obtain ⟨v, h1, h2⟩ := r.get hd2
    refine ⟨v, ?_, h2⟩
    unfold L2.start
    rw [List.getElem?_append_left (by rw [List.length_map, hl]; exact hi), List.getElem?_map, h1]
    rfl
  · rw [List.getElem?_append_right (by simpa using hi), List.getElem?_replicate] at hd
    split at hd <;> cases hd
end

structure Iv (K : PySem.W.Frag) where
  F : Addr → Prop
  φ : Hp → Hp → Prop
  loc : ∀ G G' H H', Same G G' → (∀ a, F a → H' a = H a) → φ G H → φ G' H'
  dom : ∀ G H, φ G H → ∀ a, F a → H a ≠ none
structure Hd {K : PySem.W.Frag} (I : Iv K) (G H : Hp) : Prop where
  ph : I.φ G H
  fr : ∀ a, I.F a → G a = none
def iEmp (K : PySem.W.Frag) : Iv K := ⟨fun _ => False, fun _ _ => True, fun _ _ _ _ _ _ _ => trivial, fun _ _ _ _ h => h.elim⟩
def Iv.and {K : PySem.W.Frag} (I J : Iv K) : Iv K where
  F := fun a => I.F a ∨ J.F a
  φ := fun G H => I.φ G H ∧ J.φ G H ∧ ∀ a, ¬ (I.F a ∧ J.F a)
  loc := fun G G' H H' s k h => ⟨I.loc G G' H H' s (fun a ha => k a (.inl ha)) h.1, J.loc G G' H H' s (fun a ha => k a (.inr ha)) h.2.1, h.2.2⟩
  dom := fun G H h a ha => ha.elim (I.dom G H h.1 a) (J.dom G H h.2.1 a)
def iObj (K : PySem.W.Frag) (p : Addr) (R : Hp → HO → Prop) (mono : ∀ G G' o, Same G G' → R G o → R G' o) : Iv K where
  F := fun a => a = p
  φ := fun G H => ∃ o, H p = some o ∧ R G o
  loc := fun G G' H H' s k ⟨o, h1, h2⟩ => ⟨o, by rw [k p rfl]; exact h1, mono G G' o s h2⟩
  dom := fun G H ⟨o, h1, _⟩ a ha => by rw [show a = p from ha, h1]; simp
def iLst (K : PySem.W.Frag) (p : Addr) (ds : List D) : Iv K := iObj K p (fun G o => ∃ vs, o = .lst vs ∧ Reps K G ds vs) fun _ _ _ s ⟨vs, h1, h2⟩ => ⟨vs, h1, h2.mono s⟩
section
variable {K : PySem.W.Frag} {I J : Iv K} {G G' H H' : Hp}
theorem Hd.emp : Hd (iEmp K) G H := ⟨trivial, fun _ h => h.elim⟩
theorem Hd.left (h : Hd (I.and J) G H) : Hd I G H := ⟨h.ph.1, fun a ha => h.fr a (.inl ha)⟩
theorem Hd.right (h : Hd (I.and J) G H) : Hd J G H := ⟨h.ph.2.1, fun a ha => h.fr a (.inr ha)⟩
theorem Hd.apart (h : Hd (I.and J) G H) : ∀ a, ¬ (I.F a ∧ J.F a) := h.ph.2.2
theorem Hd.mk2 (h1 : Hd I G H) (h2 : Hd J G H) (d : ∀ a, ¬ (I.F a ∧ J.F a)) : Hd (I.and J) G H := ⟨⟨h1.ph, h2.ph, d⟩, fun a ha => ha.elim (h1.fr a) (h2.fr a)⟩
theorem Hd.dom (h : Hd I G H) {a : Addr} (ha : I.F a) : H a ≠ none := I.dom G H h.ph a ha
theorem Hd.keep (h : Hd I G H) {q : Addr} {o : HO} (hq : H q = none) (sG : Same G H) : Hd I (upd G q o) (upd H q o) := by
  have hg : G q = none := sG.free hq
  have nq : ∀ a, I.F a → a ≠ q := fun a ha e => h.dom ha (by rw [e]; exact hq)
  exact ⟨I.loc G _ H _ (Evl.Ex.new hg) (fun a ha => upd_ne (nq a ha)) h.ph, fun a ha => by rw [upd_ne (nq a ha)]; exact h.fr a ha⟩
theorem Hd.newp (h : Hd I G H) {q : Addr} {o : HO} (hq : H q = none) : Hd I G (upd H q o) := by
  have nq : ∀ a, I.F a → a ≠ q := fun a ha e => h.dom ha (by rw [e]; exact hq)
  exact ⟨I.loc G G H _ (Same.refl G) (fun a ha => upd_ne (nq a ha)) h.ph, h.fr⟩
theorem Hd.chg (h : Hd I G H) {q : Addr} {o : HO} (hq : ¬ I.F q) : Hd I G (upd H q o) :=
  ⟨I.loc G G H _ (Same.refl G) (fun a ha => upd_ne fun e => hq (by rw [← e]; exact ha)) h.ph, h.fr⟩
theorem same_upd {q : Addr} {o : HO} (s : Same G H) (hq : G q = none) : Same G (upd H q o) := fun a u e => by
  rw [upd_ne (ne_of_none e hq)]
  exact s a u e
theorem same_upd2 {q : Addr} {o : HO} (s : Same G H) : Same (upd G q o) (upd H q o) := fun a u e => by
  by_cases h : a = q
  · rw [h, upd_same] at e
    rw [h, upd_same]
    exact e
  · rw [upd_ne h] at e
    rw [upd_ne h]
    exact s a u e
theorem same_freeze {q : Addr} {o : HO} (s : Same G H) (hq : H q = some o) : Same (upd G q o) H := fun a u e => by
  by_cases h : a = q
  · rw [h, upd_same] at e
    rw [h, hq]
    exact e
  · rw [upd_ne h] at e
    exact s a u e
end

inductive Rc (K : PySem.W.Frag) where
  | here
  | l (c : Rc K) (J : Iv K)
  | r (J : Iv K) (c : Rc K)
def Rc.fill {K : PySem.W.Frag} : Rc K → Iv K → Iv K
  | .here, I => I
  | .l c J, I => (c.fill I).and J
  | .r J c, I => J.and (c.fill I)
structure Sub {K : PySem.W.Frag} (I I' : Iv K) : Prop where
  F : ∀ a, I'.F a ↔ I.F a
  φ : ∀ G H, I.φ G H → I'.φ G H
section
variable {K : PySem.W.Frag} {I I' J : Iv K} {G G' H H' : Hp}
theorem Hd.sub (s : Sub I I') (h : Hd I G H) : Hd I' G H := ⟨s.φ _ _ h.ph, fun a ha => h.fr a ((s.F a).mp ha)⟩
theorem Sub.refl : Sub I I := ⟨fun _ => Iff.rfl, fun _ _ h => h⟩
theorem Sub.andL (s : Sub I I') : Sub (I.and J) (I'.and J) := ⟨fun a => ⟨fun h => h.imp (s.F a).mp id, fun h => h.imp (s.F a).mpr id⟩, fun G H h => ⟨s.φ _ _ h.1, h.2.1, fun a ha => h.2.2 a ⟨(s.F a).mp ha.1, ha.2⟩⟩⟩
theorem Sub.andR (s : Sub I I') : Sub (J.and I) (J.and I') := ⟨fun a => ⟨fun h => h.imp id (s.F a).mp, fun h => h.imp id (s.F a).mpr⟩, fun G H h => ⟨h.1, s.φ _ _ h.2.1, fun a ha => h.2.2 a ⟨ha.1, (s.F a).mp ha.2⟩⟩⟩
theorem Sub.fill (s : Sub I I') : ∀ c : Rc K, Sub (c.fill I) (c.fill I')
  | .here => s
  | .l c J => (Sub.fill s c).andL
  | .r J c => (Sub.fill s c).andR
theorem Hd.inner : ∀ {c : Rc K}, Hd (c.fill I) G H → Hd I G H
  | .here, h => h
  | .l _ _, h => Hd.inner h.left
  | .r _ _, h => Hd.inner h.right
theorem fill_F (e : ∀ a, I'.F a ↔ I.F a) : ∀ (c : Rc K) (a : Addr), (c.fill I').F a ↔ (c.fill I).F a
  | .here, a => e a
  | .l c J, a => ⟨fun h => h.imp (fill_F e c a).mp id, fun h => h.imp (fill_F e c a).mpr id⟩
  | .r J c, a => ⟨fun h => h.imp id (fill_F e c a).mp, fun h => h.imp id (fill_F e c a).mpr⟩
theorem fill_in : ∀ (c : Rc K) (a : Addr), I.F a → (c.fill I).F a
  | .here, _, h => h
  | .l c _, a, h => .inl (fill_in c a h)
  | .r _ c, a, h => .inr (fill_in c a h)
theorem Hd.change (e : ∀ a, I'.F a ↔ I.F a) (k : ∀ a, ¬ I.F a → H' a = H a) (h' : Hd I' G H') : ∀ {c : Rc K}, Hd (c.fill I) G H → Hd (c.fill I') G H'
  | .here, _ => h'
  | .l c J, h => by
    have q := Hd.change e k h' h.left
    refine Hd.mk2 q ⟨J.loc G G H H' (Same.refl G) (fun a ha => k a fun z => h.apart a ⟨fill_in c a z, ha⟩) h.right.ph, h.right.fr⟩ fun a ha => h.apart a ⟨(fill_F e c a).mp ha.1, ha.2⟩
  | .r J c, h => by
    have q := Hd.change e k h' h.right
    refine Hd.mk2 ⟨J.loc G G H H' (Same.refl G) (fun a ha => k a fun z => h.apart a ⟨ha, fill_in c a z⟩) h.left.ph, h.left.fr⟩ q fun a ha => h.apart a ⟨ha.1, (fill_F e c a).mp ha.2⟩
theorem Hd.opens {α : Type} {f : α → Iv K} (e : ∀ x a, (f x).F a ↔ I.F a) (o : ∀ G H, I.φ G H → ∃ x, (f x).φ G H) : ∀ {c : Rc K}, Hd (c.fill I) G H → ∃ x, Hd (c.fill (f x)) G H
  | .here, h => by
    obtain ⟨x, hx⟩ := o _ _ h.ph
    exact ⟨x, hx, fun a ha => h.fr a ((e x a).mp ha)⟩
  | .l c J, h => by
    obtain ⟨x, hx⟩ := Hd.opens e o h.left
    exact ⟨x, Hd.mk2 hx h.right fun a ha => h.apart a ⟨(fill_F (e x) c a).mp ha.1, ha.2⟩⟩
  | .r J c, h => by
    obtain ⟨x, hx⟩ := Hd.opens e o h.right
    exact ⟨x, Hd.mk2 h.left hx fun a ha => h.apart a ⟨ha.1, (fill_F (e x) c a).mp ha.2⟩⟩
end
end DL
set_option Elab.async false
set_option linter.all false
set_option maxRecDepth 100000
set_option maxHeartbeats 4000000
namespace DL
open PySem PySem.Spec PyProof.Rows L2

structure wpE (X : Cx) (e : Expr) (σ : L2.St) (H : Hp) (Q : VK) : Prop where
  run : ∀ (pins : List (Addr × Obj)) (s : Shared), Inv X pins σ H s → wpAny (model X.prog X.w) X.A (eval e X.env) (EP X pins σ Q) X.xe s
structure wpT (X : Cx) (e : Expr) (σ : L2.St) (H : Hp) (Q : Bool → Hp → Prop) : Prop where
  run : ∀ (pins : List (Addr × Obj)) (s : Shared), Inv X pins σ H s → wpAny (model X.prog X.w) X.A (isTrue e X.env (eval e X.env)) (TP X pins σ Q) X.xe s
structure wpW (X : Cx) (e : Expr) (σ : L2.St) (H : Hp) (Q : Bool → Hp → Prop) : Prop where
  run : ∀ (whole : Sem Value) (pins : List (Addr × Obj)) (s : Shared), Inv X pins σ H s → wpAny (model X.prog X.w) X.A (isTrue e X.env whole) (TP X pins σ Q) X.xe s
structure wpA (X : Cx) (es : List Expr) (σ : L2.St) (H : Hp) (Q : List V → Hp → Prop) : Prop where
  run : ∀ (pos : Pos) (pins : List (Addr × Obj)) (s : Shared), Inv X pins σ H s → wpAny (model X.prog X.w) X.A (spliced (backTo pos (starEach es X.env))) (AP X pins σ Q) X.xe s
structure wpS (X : Cx) (st : Stmt) (D : Ends) (σ : L2.St) (H : Hp) : Prop where
  run : ∀ (pins : List (Addr × Obj)) (s : Shared), Inv X pins σ H s → wpAny (model X.prog X.w) X.A (exec st X.env) (SP X pins D) X.xe s
structure wpB (X : Cx) (sts : List Stmt) (D : Ends) (σ : L2.St) (H : Hp) : Prop where
  run : ∀ (pins : List (Addr × Obj)) (s : Shared), Inv X pins σ H s → wpAny (model X.prog X.w) X.A (execs sts X.env) (SP X pins D) X.xe s
section
variable {X : Cx} {e : Expr} {es : List Expr} {st : Stmt} {sts : List Stmt} {te : TE} {tt : TT} {ta : TA} {ts : TS} {σ : L2.St} {H : Hp}
theorem peC : PE X e (wpE X e) := ⟨fun pins s σ H Q I h => h.run pins s I⟩
theorem ptC : PT X e (wpT X e) := ⟨fun pins s σ H Q I h => h.run pins s I⟩
theorem pwC : PW X e (wpW X e) := ⟨fun whole pins s σ H Q I h => h.run whole pins s I⟩
theorem paC : PA X es (wpA X es) := ⟨fun pos pins s σ H Q I h => h.run pos pins s I⟩
theorem psC : PS X st (wpS X st) := ⟨fun pins s σ H D I h => h.run pins s I⟩
theorem pssC : PSs X sts (wpB X sts) := ⟨fun pins s σ H D I h => h.run pins s I⟩
theorem PE.wp (h : PE X e te) {Q : VK} (q : te σ H Q) : wpE X e σ H Q := ⟨fun pins s I => h.run pins s σ H Q I q⟩
theorem PT.wp (h : PT X e tt) {Q : Bool → Hp → Prop} (q : tt σ H Q) : wpT X e σ H Q := ⟨fun pins s I => h.run pins s σ H Q I q⟩
theorem PW.wp (h : PW X e tt) {Q : Bool → Hp → Prop} (q : tt σ H Q) : wpW X e σ H Q := ⟨fun w pins s I => h.run w pins s σ H Q I q⟩
theorem PA.wp (h : PA X es ta) {Q : List V → Hp → Prop} (q : ta σ H Q) : wpA X es σ H Q := ⟨fun pos pins s I => h.run pos pins s σ H Q I q⟩
theorem PS.wp (h : PS X st ts) {D : Ends} (q : ts D σ H) : wpS X st D σ H := ⟨fun pins s I => h.run pins s σ H D I q⟩
theorem PSs.wp (h : PSs X sts ts) {D : Ends} (q : ts D σ H) : wpB X sts D σ H := ⟨fun pins s I => h.run pins s σ H D I q⟩
end

section
variable {K : PySem.W.Frag}
def Kv (K : PySem.W.Frag) (Q : VK) (G : Hp) (P : D → Iv K → Prop) : Prop := ∀ (v : V) (d : D) (G' H' : Hp) (I' : Iv K), Same G G' → Same G' H' → Hd I' G' H' → Rep K G' d v → P d I' → Q v H'
def Kb (K : PySem.W.Frag) (Q : Bool → Hp → Prop) (G : Hp) (P : Bool → Iv K → Prop) : Prop := ∀ (b : Bool) (G' H' : Hp) (I' : Iv K), Same G G' → Same G' H' → Hd I' G' H' → P b I' → Q b H'
def Ka (K : PySem.W.Frag) (Q : List V → Hp → Prop) (G : Hp) (P : List D → Iv K → Prop) : Prop := ∀ (vs : List V) (ds : List D) (G' H' : Hp) (I' : Iv K), Same G G' → Same G' H' → Hd I' G' H' → Reps K G' ds vs → P ds I' → Q vs H'
theorem Kv.mono {Q : VK} {G G1 : Hp} {P : D → Iv K → Prop} (s : Same G G1) (h : Kv K Q G P) : Kv K Q G1 P := fun v d G' H' I' s1 => h v d G' H' I' (s.trans s1)
theorem Kb.mono {Q : Bool → Hp → Prop} {G G1 : Hp} {P : Bool → Iv K → Prop} (s : Same G G1) (h : Kb K Q G P) : Kb K Q G1 P := fun b G' H' I' s1 => h b G' H' I' (s.trans s1)
theorem Ka.mono {Q : List V → Hp → Prop} {G G1 : Hp} {P : List D → Iv K → Prop} (s : Same G G1) (h : Ka K Q G P) : Ka K Q G1 P := fun v d G' H' I' s1 => h v d G' H' I' (s.trans s1)
def Op2 (K : PySem.W.Frag) (r : R2) (x y : D) (I : Iv K) (P : D → Iv K → Prop) : Prop := ∀ (G H : Hp) (v w : V) (Q : VK), Same G H → Hd I G H → Rep K G x v → Rep K G y w → Kv K Q G P → r v w H Q
def Op1 (K : PySem.W.Frag) (r : V → Hp → VK → Prop) (x : D) (I : Iv K) (P : D → Iv K → Prop) : Prop := ∀ (G H : Hp) (v : V) (Q : VK), Same G H → Hd I G H → Rep K G x v → Kv K Q G P → r v H Q
def OpN (K : PySem.W.Frag) (r : List V → Hp → VK → Prop) (xs : List D) (I : Iv K) (P : D → Iv K → Prop) : Prop := ∀ (G H : Hp) (vs : List V) (Q : VK), Same G H → Hd I G H → Reps K G xs vs → Kv K Q G P → r vs H Q
end
abbrev Rx (K : PySem.W.Frag) := Addr → List (Str × D) → Iv K → Prop
def FRep (K : PySem.W.Frag) (G : Hp) : List (Str × D) → List (Str × V) → Prop
  | [], l => l = []
  | p :: ps, l => ∃ v r, l = (p.1, v) :: r ∧ Rep K G p.2 v ∧ FRep K G ps r
def Kx (K : PySem.W.Frag) (W : WX) (σ : L2.St) (G : Hp) (R : Rx K) : Prop := ∀ (C dd : Addr) (fs : List (Str × D)) (l : List (Str × V)) (G' H' : Hp) (I' : Iv K), Same G G' → Same G' H' → Hd I' G' H' → FRep K G' fs l → G' dd = some (.xd l) → R C fs I' → W (.ref C) (some dd) σ H'
theorem Kx.mono {K : PySem.W.Frag} {W : WX} {σ : L2.St} {G G1 : Hp} {R : Rx K} (s : Same G G1) (h : Kx K W σ G R) : Kx K W σ G1 R := fun C dd fs l G' H' I' s1 => h C dd fs l G' H' I' (s.trans s1)
def EvX (X : Cx) (W : WX) (R : Rx X.K) (e : Expr) (δ : DEnv) (I : Iv X.K) (P : D → Iv X.K → Prop) : Prop := ∀ (σ : L2.St) (G H : Hp) (Q : VK), EnvR X.K G δ σ → Same G H → Hd I G H → Kx X.K W σ G R → Kv X.K Q G P → wpE X e σ H Q
def EvT (X : Cx) (W : WX) (R : Rx X.K) (e : Expr) (δ : DEnv) (I : Iv X.K) (P : Bool → Iv X.K → Prop) : Prop := ∀ (σ : L2.St) (G H : Hp) (Q : Bool → Hp → Prop), EnvR X.K G δ σ → Same G H → Hd I G H → Kx X.K W σ G R → Kb X.K Q G P → wpT X e σ H Q
def EvW (X : Cx) (W : WX) (R : Rx X.K) (e : Expr) (δ : DEnv) (I : Iv X.K) (P : Bool → Iv X.K → Prop) : Prop := ∀ (σ : L2.St) (G H : Hp) (Q : Bool → Hp → Prop), EnvR X.K G δ σ → Same G H → Hd I G H → Kx X.K W σ G R → Kb X.K Q G P → wpW X e σ H Q
def EvA (X : Cx) (W : WX) (R : Rx X.K) (es : List Expr) (δ : DEnv) (I : Iv X.K) (P : List D → Iv X.K → Prop) : Prop := ∀ (σ : L2.St) (G H : Hp) (Q : List V → Hp → Prop), EnvR X.K G δ σ → Same G H → Hd I G H → Kx X.K W σ G R → Ka X.K Q G P → wpA X es σ H Q
def PV (X : Cx) (I : Iv X.K) (e : Expr) (δ : DEnv) (d : D) : Prop := ∀ (W : WX) (R : Rx X.K) (P : D → Iv X.K → Prop), P d I → EvX X W R e δ I P
def PVT (X : Cx) (I : Iv X.K) (e : Expr) (δ : DEnv) (b : Bool) : Prop := ∀ (W : WX) (R : Rx X.K) (P : Bool → Iv X.K → Prop), P b I → EvT X W R e δ I P
def PVW (X : Cx) (I : Iv X.K) (e : Expr) (δ : DEnv) (b : Bool) : Prop := ∀ (W : WX) (R : Rx X.K) (P : Bool → Iv X.K → Prop), P b I → EvW X W R e δ I P
def PVA (X : Cx) (I : Iv X.K) (es : List Expr) (δ : DEnv) (ds : List D) : Prop := ∀ (W : WX) (R : Rx X.K) (P : List D → Iv X.K → Prop), P ds I → EvA X W R es δ I P
def P2 (K : PySem.W.Frag) (I : Iv K) (r : R2) (x y z : D) : Prop := ∀ (P : D → Iv K → Prop), P z I → Op2 K r x y I P
def P1 (K : PySem.W.Frag) (I : Iv K) (r : V → Hp → VK → Prop) (x z : D) : Prop := ∀ (P : D → Iv K → Prop), P z I → Op1 K r x I P
def PN (K : PySem.W.Frag) (I : Iv K) (r : List V → Hp → VK → Prop) (xs : List D) (z : D) : Prop := ∀ (P : D → Iv K → Prop), P z I → OpN K r xs I P

section
variable {X : Cx} {a b c e : Expr} {es rest : List Expr} {δ : DEnv} {I : Iv X.K} {W : WX} {R : Rx X.K} {P P' : D → Iv X.K → Prop} {PB PB' : Bool → Iv X.K → Prop} {PA' : List D → Iv X.K → Prop} {pos p : Pos} {d x y z : D} {x' : Str}
theorem EvX.imp (h : EvX X W R e δ I P) (k : ∀ d I', P d I' → P' d I') : EvX X W R e δ I P' := fun σ G H Q hE s hI qx q => h σ G H Q hE s hI qx fun v d G' H' I' s1 s2 h1 r p => q v d G' H' I' s1 s2 h1 r (k d I' p)
theorem EvT.imp (h : EvT X W R e δ I PB) (k : ∀ d I', PB d I' → PB' d I') : EvT X W R e δ I PB' := fun σ G H Q hE s hI qx q => h σ G H Q hE s hI qx fun d G' H' I' s1 s2 h1 p => q d G' H' I' s1 s2 h1 (k d I' p)
theorem PV.is (h : PV X I e δ d) (q : d = z) : PV X I e δ z := q ▸ h
theorem PVT.is {b c : Bool} (h : PVT X I e δ b) (q : b = c) : PVT X I e δ c := q ▸ h
theorem P2.is {K : PySem.W.Frag} {I : Iv K} {r : R2} {x y z z' : D} (h : P2 K I r x y z) (q : z = z') : P2 K I r x y z' := q ▸ h
theorem pv_t {v : V} (h : PE X e (tC v)) (hr : ∀ G, Rep X.K G d v) : PV X I e δ d := fun W R P p σ G H Q _ s hI _ q => PE.wp h (q v d G H I (Same.refl G) s hI (hr G) p)
theorem pv_int {i : Int} {j} : PV X I (.Constant (.int i) j pos) δ (.int i) := pv_t pe_int fun _ => rfl
theorem pv_str {w : Str} {j} : PV X I (.Constant (.str w) j pos) δ (.str w) := pv_t pe_str fun _ => rfl
theorem pv_bl {k : Bool} {j} : PV X I (.Constant (.bool k) j pos) δ (.bl k) := pv_t pe_bl fun _ => rfl
theorem pv_non {j} : PV X I (.Constant .none j pos) δ .non := pv_t pe_non fun _ => rfl
theorem pv_v (i : Nat) (hd : δ[i]? = some (some d) := by rfl) (hN : X.N[i]? = some x' := by rfl) (hv : Vis X.env.scope x' := by first | exact Or.inl rfl | exact Or.inr (Or.inl rfl) | exact Or.inr (Or.inr rfl)) (hdb : (x' == ("__debug__" : Str)) = false := by decide)
    (hcd : (x' == ("__classdict__" : Str)) = false := by decide) : PV X I (.Name x' pos) δ d := fun W R P p σ G H Q hE s hI qx q => by
  obtain ⟨v, h1, h2⟩ := hE.2 i d hd
  exact PE.wp (pe_var hN hv hdb hcd) ⟨v, h1, q v d G H I (Same.refl G) s hI h2 p⟩
theorem pv_g {v : V} {u : Value} (hm : X.mg x' = some u) (r : RelV v u) (hr : ∀ G, Rep X.K G d v) (hg : Gl X x' := by rfl) (hdb : (x' == ("__debug__" : Str)) = false := by decide) : PV X I (.Name x' pos) δ d := pv_t (pe_glob hg hm r hdb) hr
theorem pv_gty {n : String} (hm : X.mg x' = none) (hv : bootBuiltins x' = some (.type n) := by decide +kernel) (hg : Gl X x' := by rfl) (hn : x' ≠ "__name__" := by decide) (hdb : (x' == ("__debug__" : Str)) = false := by decide) : PV X I (.Name x' pos) δ (.ty n) :=
  pv_t (v := .ty n) (pe_bltn hg hm hv rfl hn hdb) fun _ => rfl
theorem ev_op {op : Operator} {r : R2} (ho : OpR X (binaryOp op) r) (h : EvX X W R a δ I fun x I1 => EvX X W R b δ I1 fun y I2 => Op2 X.K r x y I2 P) : EvX X W R (.BinOp a op b pos) δ I P := fun σ G H Q hE s hI qx q =>
  PE.wp (pe_op ho peC peC) (h σ G H _ hE s hI qx fun v x G1 H1 I1 s1 t1 h1 r1 k1 => k1 σ G1 H1 _ (hE.mono s1) t1 h1 (qx.mono s1) fun w y G2 H2 I2 s2 t2 h2 r2 k2 => k2 G2 H2 v w Q t2 h2 (r1.mono s2) r2 (q.mono (s1.trans s2)))
theorem ev_cmp {op : CmpOp} {r : R2} (ho : OpR X (compareOp op) r) (h : EvX X W R a δ I fun x I1 => EvX X W R b δ I1 fun y I2 => Op2 X.K r x y I2 P) (hm : behindInMarks op b = false := by first | exact nomark _ | rfl) : EvX X W R (.Compare a [op] [b] pos) δ I P := fun σ G H Q hE s hI qx q =>
  PE.wp (pe_cmpR ho peC peC hm) (h σ G H _ hE s hI qx fun v x G1 H1 I1 s1 t1 h1 r1 k1 => k1 σ G1 H1 _ (hE.mono s1) t1 h1 (qx.mono s1) fun w y G2 H2 I2 s2 t2 h2 r2 k2 => k2 G2 H2 v w Q t2 h2 (r1.mono s2) r2 (q.mono (s1.trans s2)))
theorem et_cmp {op : CmpOp} {r : R2} (ho : OpR X (compareOp op) r) (h : EvX X W R a δ I fun x I1 => EvX X W R b δ I1 fun y I2 => Op2 X.K r x y I2 fun z I3 => ∃ k, z = .bl k ∧ PB k I3) (hm : behindInMarks op b = false := by first | exact nomark _ | rfl) : EvT X W R (.Compare a [op] [b] pos) δ I PB := fun σ G H Q hE s hI qx q =>
  PT.wp (pt_cmpR ho peC peC hm) (h σ G H _ hE s hI qx fun v x G1 H1 I1 s1 t1 h1 r1 k1 => k1 σ G1 H1 _ (hE.mono s1) t1 h1 (qx.mono s1) fun w y G2 H2 I2 s2 t2 h2 r2 k2 => k2 G2 H2 v w _ t2 h2 (r1.mono s2) r2 fun z d G3 H3 I3 s3 t3 h3 r3 ⟨k, e, p⟩ => ⟨k, by subst e; exact r3, q k G3 H3 I3 ((s1.trans s2).trans s3) t3 h3 p⟩)
theorem pv_op {op : Operator} {r : R2} (ho : OpR X (binaryOp op) r) (ha : PV X I a δ x) (hb : PV X I b δ y) (h : P2 X.K I r x y z) : PV X I (.BinOp a op b pos) δ z := fun W R P p => ev_op ho (ha W R _ (hb W R _ (h P p)))
theorem pv_cmp {op : CmpOp} {r : R2} (ho : OpR X (compareOp op) r) (ha : PV X I a δ x) (hb : PV X I b δ y) (h : P2 X.K I r x y z) (hm : behindInMarks op b = false := by first | exact nomark _ | rfl) : PV X I (.Compare a [op] [b] pos) δ z := fun W R P p => ev_cmp ho (ha W R _ (hb W R _ (h P p))) hm
theorem pt_cmp {op : CmpOp} {r : R2} {k : Bool} (ho : OpR X (compareOp op) r) (ha : PV X I a δ x) (hb : PV X I b δ y) (h : P2 X.K I r x y (.bl k)) (hm : behindInMarks op b = false := by first | exact nomark _ | rfl) : PVT X I (.Compare a [op] [b] pos) δ k := fun W R P p => et_cmp ho (ha W R _ (hb W R _ (h _ ⟨k, rfl, p⟩))) hm
theorem ev_ix {r : R2} (ho : IxR X r) (h : EvX X W R a δ I fun x I1 => EvX X W R b δ I1 fun y I2 => Op2 X.K r x y I2 P) (hs : PlainIx b := by exact fun _ _ => rfl) : EvX X W R (.Subscript a b pos) δ I P := fun σ G H Q hE s hI qx q =>
  PE.wp (pe_ix ho peC peC hs) (h σ G H _ hE s hI qx fun v x G1 H1 I1 s1 t1 h1 r1 k1 => k1 σ G1 H1 _ (hE.mono s1) t1 h1 (qx.mono s1) fun w y G2 H2 I2 s2 t2 h2 r2 k2 => k2 G2 H2 v w Q t2 h2 (r1.mono s2) r2 (q.mono (s1.trans s2)))
theorem pv_ix {r : R2} (ho : IxR X r) (ha : PV X I a δ x) (hb : PV X I b δ y) (h : P2 X.K I r x y z) (hs : PlainIx b := by exact fun _ _ => rfl) : PV X I (.Subscript a b pos) δ z := fun W R P p => ev_ix ho (ha W R _ (hb W R _ (h P p))) hs
theorem ev_un {op : UnaryOp} {r : V → Hp → VK → Prop} (ho : UnR X (unaryOp op) r) (h : EvX X W R a δ I fun x I1 => Op1 X.K r x I1 P) : EvX X W R (.UnaryOp op a pos) δ I P := fun σ G H Q hE s hI qx q =>
  PE.wp (pe_un ho peC) (h σ G H _ hE s hI qx fun v x G1 H1 I1 s1 t1 h1 r1 k1 => k1 G1 H1 v Q t1 h1 r1 (q.mono s1))
theorem pv_un {op : UnaryOp} {r : V → Hp → VK → Prop} (ho : UnR X (unaryOp op) r) (ha : PV X I a δ x) (h : P1 X.K I r x z) : PV X I (.UnaryOp op a pos) δ z := fun W R P p => ev_un ho (ha W R _ (h P p))
theorem et_val (h : EvX X W R e δ I fun z I1 => ∃ k, z = .bl k ∧ PB k I1) (he : ∀ whole, isTrue e X.env whole = (do let v ← whole; standAt e.pos; holding [v] (truthy v)) := by intro _; rfl) : EvT X W R e δ I PB := fun σ G H Q hE s hI qx q =>
  PT.wp (pt_val peC he) (h σ G H _ hE s hI qx fun v d G1 H1 I1 s1 t1 h1 r1 ⟨k, ek, p⟩ => ⟨k, by subst ek; exact r1, q k G1 H1 I1 s1 t1 h1 p⟩)
theorem pt_v {k : Bool} (h : PV X I e δ (.bl k)) (he : ∀ whole, isTrue e X.env whole = (do let v ← whole; standAt e.pos; holding [v] (truthy v)) := by intro _; rfl) : PVT X I e δ k := fun W R P p => et_val (h W R _ ⟨k, rfl, p⟩) he
theorem et_not (h : EvT X W R a δ I fun k I1 => PB (!k) I1) : EvT X W R (.UnaryOp .Not a pos) δ I PB := fun σ G H Q hE s hI qx q =>
  PT.wp (L2.pt_not ptC) (h σ G H _ hE s hI qx fun k G1 H1 I1 s1 t1 h1 p => q (!k) G1 H1 I1 s1 t1 h1 p)
theorem ptn {k : Bool} (h : PVT X I a δ k) : PVT X I (.UnaryOp .Not a pos) δ (!k) := fun W R P p => et_not (h W R _ p)
theorem ew_and (h : EvT X W R a δ I fun k I1 => if k = true then EvW X W R (.BoolOp .And (b :: rest) pos) δ I1 PB else PB false I1) : EvW X W R (.BoolOp .And (a :: b :: rest) pos) δ I PB := fun σ G H Q hE s hI qx q =>
  PW.wp (pw_and ptC pwC) (h σ G H _ hE s hI qx fun k G1 H1 I1 s1 t1 h1 p => by
    cases k with
    | true => exact (show EvW X W R (.BoolOp .And (b :: rest) pos) δ I1 PB from p) σ G1 H1 Q (hE.mono s1) t1 h1 (qx.mono s1) (q.mono s1)
    | false => exact q false G1 H1 I1 s1 t1 h1 p)
theorem ew_or (h : EvT X W R a δ I fun k I1 => if k = true then PB true I1 else EvW X W R (.BoolOp .Or (b :: rest) pos) δ I1 PB) : EvW X W R (.BoolOp .Or (a :: b :: rest) pos) δ I PB := fun σ G H Q hE s hI qx q =>
  PW.wp (pw_or ptC pwC) (h σ G H _ hE s hI qx fun k G1 H1 I1 s1 t1 h1 p => by
    cases k with
    | false => exact (show EvW X W R (.BoolOp .Or (b :: rest) pos) δ I1 PB from p) σ G1 H1 Q (hE.mono s1) t1 h1 (qx.mono s1) (q.mono s1)
    | true => exact q true G1 H1 I1 s1 t1 h1 p)
theorem ew_and1 (h : EvT X W R a δ I PB) : EvW X W R (.BoolOp .And [a] pos) δ I PB := fun σ G H Q hE s hI qx q => PW.wp (pw_and1 ptC) (h σ G H _ hE s hI qx q)
theorem ew_or1 (h : EvT X W R a δ I PB) : EvW X W R (.BoolOp .Or [a] pos) δ I PB := fun σ G H Q hE s hI qx q => PW.wp (pw_or1 ptC) (h σ G H _ hE s hI qx q)
theorem et_w (h : EvW X W R e δ I PB) : EvT X W R e δ I PB := fun σ G H Q hE s hI qx q => ⟨fun pins s1 J => (h σ G H Q hE s hI qx q).run _ pins s1 J⟩
theorem ww_and {k l : Bool} (h1 : PVT X I a δ k) (h2 : k = true → PVW X I (.BoolOp .And (b :: rest) pos) δ l) : PVW X I (.BoolOp .And (a :: b :: rest) pos) δ (k && l) := fun W R P p => ew_and (h1 W R _ (by
  cases k with
  | true => exact h2 rfl W R P p
  | false => exact p))
theorem ww_or {k l : Bool} (h1 : PVT X I a δ k) (h2 : k = false → PVW X I (.BoolOp .Or (b :: rest) pos) δ l) : PVW X I (.BoolOp .Or (a :: b :: rest) pos) δ (k || l) := fun W R P p => ew_or (h1 W R _ (by
  cases k with
  | false => exact h2 rfl W R P p
  | true => exact p))
theorem ww_and1 {k : Bool} (h : PVT X I a δ k) : PVW X I (.BoolOp .And [a] pos) δ k := fun W R P p => ew_and1 (h W R P p)
theorem ww_or1 {k : Bool} (h : PVT X I a δ k) : PVW X I (.BoolOp .Or [a] pos) δ k := fun W R P p => ew_or1 (h W R P p)
theorem ptw {k : Bool} (h : PVW X I e δ k) : PVT X I e δ k := fun W R P p => et_w (h W R P p)
theorem pv_and {k : Bool} (h1 : PV X I a δ (.bl k)) (h2 : k = true → PV X I (.BoolOp .And (b :: rest) pos) δ z) (h3 : k = false → z = .bl false) : PV X I (.BoolOp .And (a :: b :: rest) pos) δ z := fun W R P p σ G H Q hE s hI qx q =>
  PE.wp (pe_and peC peC) (h1 W R (fun z I1 => z = .bl k ∧ I1 = I) ⟨rfl, rfl⟩ σ G H _ hE s hI qx fun v d G1 H1 I1 s1 t1 e1 r1 ⟨ed, ei⟩ => by
    subst ed ei
    refine ⟨k, r1, ?_⟩
    cases k with
    | true => exact h2 rfl W R P p σ G1 H1 Q (hE.mono s1) t1 e1 (qx.mono s1) (q.mono s1)
    | false =>
      have ez := h3 rfl
      subst ez
      exact q (.bl false) (.bl false) G1 H1 _ s1 t1 e1 rfl p)
theorem pv_one {op} (h : PV X I a δ z) : PV X I (.BoolOp op [a] pos) δ z := fun W R P p σ G H Q hE s hI qx q => PE.wp (pe_one peC) (h W R P p σ G H Q hE s hI qx q)
theorem pv_andB {k l : Bool} (h1 : PV X I a δ (.bl k)) (h2 : k = true → PV X I (.BoolOp .And (b :: rest) pos) δ (.bl l)) : PV X I (.BoolOp .And (a :: b :: rest) pos) δ (.bl (k && l)) := by
  cases k with
  | true => exact pv_and h1 h2 (fun z => nomatch z)
  | false => exact pv_and h1 (fun z => nomatch z) (fun _ => rfl)
theorem pv_not {k : Bool} (h : PV X I a δ (.bl k)) : PV X I (.UnaryOp .Not a pos) δ (.bl (!k)) := fun W R P p σ G H Q hE s hI qx q =>
  PE.wp (pe_not peC) (h W R (fun z I1 => z = .bl k ∧ I1 = I) ⟨rfl, rfl⟩ σ G H _ hE s hI qx fun v d G1 H1 I1 s1 t1 e1 r1 ⟨ed, ei⟩ => by
    subst ed ei
    exact ⟨k, r1, q _ (.bl (!k)) G1 H1 _ s1 t1 e1 rfl p⟩)
theorem pv_if {k : Bool} (h : PVT X I c δ k) (h1 : k = true → PV X I a δ z) (h2 : k = false → PV X I b δ z) : PV X I (.IfExp c a b pos) δ z := fun W R P p σ G H Q hE s hI qx q =>
  PE.wp (pe_ifExp ptC peC peC) (h W R (fun l I1 => l = k ∧ I1 = I) ⟨rfl, rfl⟩ σ G H _ hE s hI qx fun l G1 H1 I1 s1 t1 e1 ⟨el, ei⟩ => by
    subst el ei
    cases l with
    | true => exact h1 rfl W R P p σ G1 H1 Q (hE.mono s1) t1 e1 (qx.mono s1) (q.mono s1)
    | false => exact h2 rfl W R P p σ G1 H1 Q (hE.mono s1) t1 e1 (qx.mono s1) (q.mono s1))
theorem ea_nil (p : PA' [] I) : EvA X W R [] δ I PA' := fun σ G H Q hE s hI qx q => PA.wp pa_nil (q [] [] G H I (Same.refl G) s hI rfl p)
theorem ea_cons (h : EvX X W R e δ I fun d I1 => EvA X W R es δ I1 fun ds I2 => PA' (d :: ds) I2) (hs : starEach (e :: es) X.env = (false, eval e X.env) :: starEach es X.env := by rfl) : EvA X W R (e :: es) δ I PA' := fun σ G H Q hE s hI qx q =>
  PA.wp (pa_cons peC paC hs) (h σ G H _ hE s hI qx fun v d G1 H1 I1 s1 t1 h1 r1 k => k σ G1 H1 _ (hE.mono s1) t1 h1 (qx.mono s1) fun vs ds G2 H2 I2 s2 t2 h2 r2 k2 => q (v :: vs) (d :: ds) G2 H2 I2 (s1.trans s2) t2 h2 ⟨v, vs, rfl, r1.mono s2, r2⟩ k2)
theorem va_nil : PVA X I [] δ [] := fun W R P p => ea_nil p
theorem va_cons {ds : List D} (h : PV X I e δ d) (t : PVA X I es δ ds) (hs : starEach (e :: es) X.env = (false, eval e X.env) :: starEach es X.env := by rfl) : PVA X I (e :: es) δ (d :: ds) := fun W R P p => ea_cons (h W R _ (t W R _ p)) hs
theorem ev_tup {x1} (h : EvA X W R es δ I fun ds I1 => ds.length ≤ 1000 ∧ P (.tup ds) I1) : EvX X W R (.Tuple es x1 pos) δ I P := fun σ G H Q hE s hI qx q =>
  PE.wp (pe_tup paC) (h σ G H _ hE s hI qx fun vs ds G1 H1 I1 s1 t1 h1 r1 ⟨hl, k⟩ => ⟨by rw [r1.length, sizeLine_eq]; omega, fun p hp => by
    have hg : G1 p = none := t1.free hp
    exact q (.ref p) (.tup ds) (upd G1 p (.tup vs)) _ I1 (s1.trans (Evl.Ex.new hg)) (same_upd2 t1) (h1.keep hp t1) ⟨p, vs, rfl, SqT.of upd_same, r1.mono (Evl.Ex.new hg)⟩ k⟩)
theorem ev_lst (h : EvA X W R es δ I fun ds I1 => ds.length ≤ 1000 ∧ P (.lst ds) I1) : EvX X W R (.List es pos) δ I P := fun σ G H Q hE s hI qx q =>
  PE.wp (pe_lst paC) (h σ G H _ hE s hI qx fun vs ds G1 H1 I1 s1 t1 h1 r1 ⟨hl, k⟩ => ⟨by rw [r1.length, sizeLine_eq]; omega, fun p hp => by
    have hg : G1 p = none := t1.free hp
    exact q (.ref p) (.lst ds) (upd G1 p (.lst vs)) _ I1 (s1.trans (Evl.Ex.new hg)) (same_upd2 t1) (h1.keep hp t1) ⟨p, vs, rfl, upd_same, r1.mono (Evl.Ex.new hg)⟩ k⟩)
theorem pv_tup {x1} {ds : List D} (h : PVA X I es δ ds) (hl : ds.length ≤ 1000 := by first | decide | simp) : PV X I (.Tuple es x1 pos) δ (.tup ds) := fun W R P p => ev_tup (h W R _ ⟨hl, p⟩)
theorem pv_lst {ds : List D} (h : PVA X I es δ ds) (hl : ds.length ≤ 1000 := by first | decide | simp) : PV X I (.List es pos) δ (.lst ds) := fun W R P p => ev_lst (h W R _ ⟨hl, p⟩)
theorem ev_lstM {ds : List D} (h : PVA X I es δ ds) (hl : ds.length ≤ 1000) (hp : ∀ p, (∀ a, ¬ (I.F a ∧ a = p)) → P (.adr p) (I.and (iLst X.K p ds))) : EvX X W R (.List es pos) δ I P := fun σ G H Q hE s hI qx q =>
  PE.wp (pe_lst paC) (h W R (fun es I1 => es = ds ∧ I1 = I) ⟨rfl, rfl⟩ σ G H _ hE s hI qx fun vs es G1 H1 I1 s1 t1 h1 r1 ⟨ee, ei⟩ => ⟨by rw [r1.length, ee, sizeLine_eq]; omega, fun p hq => by
    subst ee ei
    have hg : G1 p = none := t1.free hq
    have na : ∀ a, ¬ (I1.F a ∧ a = p) := fun a ha => h1.dom ha.1 (by rw [ha.2]; exact hq)
    exact q (.ref p) (.adr p) G1 _ (I1.and (iLst X.K p es)) s1 (same_upd t1 hg) (Hd.mk2 (h1.newp hq) ⟨⟨_, upd_same, vs, rfl, r1⟩, fun a ha => by rw [show a = p from ha]; exact hg⟩ na) rfl (hp p na)⟩)
theorem ev_cb {r : List V → Hp → VK → Prop} {id : String} (hc : CallR X (.builtin id) r) (hm : X.mg x' = none) (h : EvA X W R (e :: es) δ I fun ds I1 => OpN X.K r ds I1 P) (hv : bootBuiltins x' = some (.builtin id) := by decide +kernel) (hg : Gl X x' := by rfl) (hn : x' ≠ "__name__" := by decide) (hdb : (x' == ("__debug__" : Str)) = false := by decide)
    (he : starEach (e :: es) X.env = (false, eval e X.env) :: starEach es X.env := by rfl) (hpl : (backTo pos (starEach es X.env)).any (·.1) = false := by rfl) : EvX X W R (.Call (.Name x' p) (e :: es) [] pos) δ I P := fun σ G H Q hE s hI qx q =>
  PE.wp (pe_callB hc hg hm hv paC hn hdb he hpl) (h σ G H _ hE s hI qx fun vs ds G1 H1 I1 s1 t1 h1 r1 k => k G1 H1 vs Q t1 h1 r1 (q.mono s1))
theorem ev_ct {r : List V → Hp → VK → Prop} {T : String} (hc : CallR X (.type T) r) (hm : X.mg x' = none) (h : EvA X W R (e :: es) δ I fun ds I1 => OpN X.K r ds I1 P) (hv : bootBuiltins x' = some (.type T) := by decide +kernel) (hg : Gl X x' := by rfl) (hn : x' ≠ "__name__" := by decide) (hdb : (x' == ("__debug__" : Str)) = false := by decide)
    (he : starEach (e :: es) X.env = (false, eval e X.env) :: starEach es X.env := by rfl) (hpl : (backTo pos (starEach es X.env)).any (·.1) = false := by rfl) : EvX X W R (.Call (.Name x' p) (e :: es) [] pos) δ I P := fun σ G H Q hE s hI qx q =>
  PE.wp (pe_callTy hc hg hm hv paC hn hdb he hpl) (h σ G H _ hE s hI qx fun vs ds G1 H1 I1 s1 t1 h1 r1 k => k G1 H1 vs Q t1 h1 r1 (q.mono s1))
theorem pv_cb {r : List V → Hp → VK → Prop} {id : String} {ds : List D} (hc : CallR X (.builtin id) r) (hm : X.mg x' = none) (h : PVA X I (e :: es) δ ds) (k : PN X.K I r ds z) (hv : bootBuiltins x' = some (.builtin id) := by decide +kernel) (hg : Gl X x' := by rfl) (hn : x' ≠ "__name__" := by decide) (hdb : (x' == ("__debug__" : Str)) = false := by decide)
    (he : starEach (e :: es) X.env = (false, eval e X.env) :: starEach es X.env := by rfl) (hpl : (backTo pos (starEach es X.env)).any (·.1) = false := by rfl) : PV X I (.Call (.Name x' p) (e :: es) [] pos) δ z := fun W R P p => ev_cb hc hm (h W R _ (k P p)) hv hg hn hdb he hpl
theorem pv_ct {r : List V → Hp → VK → Prop} {T : String} {ds : List D} (hc : CallR X (.type T) r) (hm : X.mg x' = none) (h : PVA X I (e :: es) δ ds) (k : PN X.K I r ds z) (hv : bootBuiltins x' = some (.type T) := by decide +kernel) (hg : Gl X x' := by rfl) (hn : x' ≠ "__name__" := by decide) (hdb : (x' == ("__debug__" : Str)) = false := by decide)
    (he : starEach (e :: es) X.env = (false, eval e X.env) :: starEach es X.env := by rfl) (hpl : (backTo pos (starEach es X.env)).any (·.1) = false := by rfl) : PV X I (.Call (.Name x' p) (e :: es) [] pos) δ z := fun W R P p => ev_ct hc hm (h W R _ (k P p)) hv hg hn hdb he hpl
end
end DL
set_option Elab.async false
set_option linter.all false
set_option maxRecDepth 100000
set_option maxHeartbeats 4000000
namespace DL
open PySem PySem.Spec PyProof.Rows L2

structure Ko (K : PySem.W.Frag) where
  nx : DEnv → Iv K → Prop
  rt : D → Iv K → Prop
  bk : DEnv → Iv K → Prop := fun _ _ => False
  ct : DEnv → Iv K → Prop := fun _ _ => False
  ex : Addr → List (Str × D) → DEnv → Iv K → Prop := fun _ _ _ _ => False
def Ks (K : PySem.W.Frag) (N : L2.St → Hp → Prop) (G : Hp) (n : DEnv → Iv K → Prop) : Prop := ∀ (δ : DEnv) (σ : L2.St) (G' H' : Hp) (I' : Iv K), Same G G' → Same G' H' → Hd I' G' H' → EnvR K G' δ σ → n δ I' → N σ H'
def Ke (K : PySem.W.Frag) (W : WX) (G : Hp) (x : Addr → List (Str × D) → DEnv → Iv K → Prop) : Prop := ∀ (C dd : Addr) (fs : List (Str × D)) (l : List (Str × V)) (δ : DEnv) (σ : L2.St) (G' H' : Hp) (I' : Iv K), Same G G' → Same G' H' → Hd I' G' H' → EnvR K G' δ σ → FRep K G' fs l → G' dd = some (.xd l) → x C fs δ I' → W (.ref C) (some dd) σ H'
structure KoLe (K : PySem.W.Frag) (W : WX) (E : Ends) (G : Hp) (κ : Ko K) : Prop where
  nx : Ks K E.nx G κ.nx
  rt : Kv K E.rt G κ.rt
  bk : Ks K E.bk G κ.bk
  ct : Ks K E.ct G κ.ct
  ex : Ke K W G κ.ex
section
variable {K : PySem.W.Frag} {W : WX} {E : Ends} {G G1 : Hp} {κ : Ko K}
theorem Ks.mono {N : L2.St → Hp → Prop} {n : DEnv → Iv K → Prop} (s : Same G G1) (h : Ks K N G n) : Ks K N G1 n := fun δ σ G' H' I' s1 => h δ σ G' H' I' (s.trans s1)
theorem Ke.mono {x : Addr → List (Str × D) → DEnv → Iv K → Prop} (s : Same G G1) (h : Ke K W G x) : Ke K W G1 x := fun C dd fs l δ σ G' H' I' s1 => h C dd fs l δ σ G' H' I' (s.trans s1)
theorem KoLe.mono (s : Same G G1) (h : KoLe K W E G κ) : KoLe K W E G1 κ := ⟨h.nx.mono s, h.rt.mono s, h.bk.mono s, h.ct.mono s, h.ex.mono s⟩
theorem KoLe.kx {δ : DEnv} {σ : L2.St} (h : KoLe K W E G κ) (hE : EnvR K G δ σ) : Kx K W σ G (fun C fs I' => κ.ex C fs δ I') := fun C dd fs l G' H' I' s1 s2 h1 r hd p => h.ex C dd fs l δ σ G' H' I' s1 s2 h1 (hE.mono s1) r hd p
end
def SX (X : Cx) (W : WX) (sts : List Stmt) (δ : DEnv) (I : Iv X.K) (κ : Ko X.K) : Prop := ∀ (σ : L2.St) (G H : Hp) (E : Ends), EnvR X.K G δ σ → Same G H → Hd I G H → KoLe X.K W E G κ → wpB X sts E σ H
def S1 (X : Cx) (W : WX) (st : Stmt) (δ : DEnv) (I : Iv X.K) (κ : Ko X.K) : Prop := ∀ (σ : L2.St) (G H : Hp) (E : Ends), EnvR X.K G δ σ → Same G H → Hd I G H → KoLe X.K W E G κ → wpS X st E σ H
abbrev Ko.r {K : PySem.W.Frag} (κ : Ko K) (δ : DEnv) : Rx K := fun C fs I' => κ.ex C fs δ I'
structure wpG (X : Cx) (tg : Expr) (v : V) (σ : L2.St) (H : Hp) (Q : L2.St → Hp → Prop) : Prop where
  run : ∀ (pins : List (Addr × Obj)) (s : Shared) (u : Value), Inv X pins σ H s → RelV v u → wpAny (model X.prog X.w) X.A (assign tg X.env u) (fun _ s' => ∃ σ' H', Inv X pins σ' H' s' ∧ Q σ' H') X.xe s
def BindD (X : Cx) (tg : Expr) (d : D) (δ δ' : DEnv) (vs : List Nat) : Prop := ∀ (v : V) (σ : L2.St) (G H : Hp) (Q : L2.St → Hp → Prop), EnvR X.K G δ σ → Same G H → Rep X.K G d v → (∀ σ', EnvR X.K G δ' σ' → wipe σ' vs = wipe σ vs → Q σ' H) → wpG X tg v σ H Q
structure wpI (X : Cx) (tg iter : Expr) (σ : L2.St) (H : Hp) (RR : It → Hp → Prop) : Prop where
  run : ∀ (pins : List (Addr × Obj)) (s : Shared), Inv X pins σ H s → wpAny (model X.prog X.w) X.A (eval iter X.env) (fun v s1 => wpAny (model X.prog X.w) X.A (pyIter v) (PIE X pins σ tg RR) X.xe s1) X.xe s
structure WalkD (K : PySem.W.Frag) (J : It) (ds : List D) (G : Hp) : Prop where
  go : ∀ i G' H', Same G G' → Same G' H' → i < ds.length → J.go i H'
  stop : ∀ G' H', Same G G' → Same G' H' → J.stop ds.length H'
  yld : ∀ i G' H' (I : Iv K) x H'', Same G G' → Same G' H' → Hd I G' H' → i < ds.length → J.yld i H' x H'' → ∃ G'', Same G' G'' ∧ Same G'' H'' ∧ Hd I G'' H'' ∧ (∀ a o, H' a = some o → H'' a = some o) ∧ ∃ d, ds[i]? = some d ∧ Rep K G'' d x
theorem WalkD.mono {K : PySem.W.Frag} {J : It} {ds : List D} {G G1 : Hp} (h : WalkD K J ds G) (s : Same G G1) : WalkD K J ds G1 :=
  ⟨fun i G' H' s1 => h.go i G' H' (s.trans s1), fun G' H' s1 => h.stop G' H' (s.trans s1), fun i G' H' I x H'' s1 => h.yld i G' H' I x H'' (s.trans s1)⟩
def EvI (X : Cx) (W : WX) (R : Rx X.K) (tg iter : Expr) (δ : DEnv) (I : Iv X.K) (P : List D → Iv X.K → Prop) : Prop := ∀ (σ : L2.St) (G H : Hp) (RR : It → Hp → Prop), EnvR X.K G δ σ → Same G H → Hd I G H → Kx X.K W σ G R →
  (∀ (J : It) (ds : List D) (G' H' : Hp) (I' : Iv X.K), Same G G' → Same G' H' → Hd I' G' H' → WalkD X.K J ds G' → P ds I' → RR J H') → wpI X tg iter σ H RR
def PVI (X : Cx) (I : Iv X.K) (tg iter : Expr) (δ : DEnv) (ds : List D) : Prop := ∀ (W : WX) (R : Rx X.K) (P : List D → Iv X.K → Prop), P ds I → EvI X W R tg iter δ I P
section
variable {X : Cx} {tg iter : Expr} {wi : TI} {g : TG}
theorem piC : PI X tg iter (wpI X tg iter) := ⟨fun pins s σ H R I h => h.run pins s I⟩
theorem PI.wp (h : PI X tg iter wi) {σ : L2.St} {H : Hp} {RR : It → Hp → Prop} (q : wi σ H RR) : wpI X tg iter σ H RR := ⟨fun pins s I => h.run pins s σ H RR I q⟩
theorem pgC : PG X tg (wpG X tg) := ⟨fun pins s σ H v u Q I r h => h.run pins s u I r⟩
theorem PG.wp (h : PG X tg g) {v : V} {σ : L2.St} {H : Hp} {Q : L2.St → Hp → Prop} (q : g v σ H Q) : wpG X tg v σ H Q := ⟨fun pins s u I r => h.run pins s σ H v u Q I r q⟩
end
def wipeD (δ : DEnv) : List Nat → DEnv
  | [] => δ
  | v :: vs => (wipeD δ vs).set v none
theorem EnvR.wipe {K : PySem.W.Frag} {G : Hp} {δ : DEnv} {σ : L2.St} (h : EnvR K G δ σ) : ∀ vs, EnvR K G (wipeD δ vs) (L2.wipe σ vs)
  | [] => h
  | _ :: vs => (EnvR.wipe h vs).drop none
theorem wipe_get (σ : L2.St) (j : Nat) : ∀ vs : List Nat, (L2.wipe σ vs)[j]? = if j ∈ vs then (if j < σ.length then some none else none) else σ[j]?
  | [] => by simp [L2.wipe]
  | v :: vs => by
    unfold L2.wipe
    by_cases h : v = j
    · subst h
      rw [List.getElem?_set, wipe_length]
      simp
    · rw [List.getElem?_set_ne h, wipe_get σ j vs]
      have e : (j ∈ v :: vs) ↔ (j ∈ vs) := by
        simp only [List.mem_cons]
        exact ⟨fun z => z.elim (fun z => absurd z.symm h) id, .inr⟩
      by_cases q : j ∈ vs
      · rw [if_pos q, if_pos (e.mpr q)]
      · rw [if_neg q, if_neg (fun z => q (e.mp z))]
theorem wipe_set (σ : L2.St) {i : Nat} {x : Option V} {vs : List Nat} (h : i ∈ vs) : L2.wipe (σ.set i x) vs = L2.wipe σ vs := by
  apply List.ext_getElem?
  intro j
  rw [wipe_get, wipe_get]
  by_cases q : j ∈ vs
  · simp [q]
  · rw [if_neg q, if_neg q, List.getElem?_set_ne]
    intro e
    exact q (e ▸ h)
theorem wipe_wipe (σ : L2.St) (vs : List Nat) : L2.wipe (L2.wipe σ vs) vs = L2.wipe σ vs := by
  apply List.ext_getElem?
  intro j
  rw [wipe_get]
  by_cases q : j ∈ vs
  · rw [if_pos q, wipe_get, if_pos q, wipe_length]
  · rw [if_neg q]

section
variable {X : Cx} {W : WX} {a b c e : Expr} {es : List Expr} {st : Stmt} {sts rest : List Stmt} {δ : DEnv} {I : Iv X.K} {κ : Ko X.K} {pos p : Pos} {d x y z : D} {x' : Str} {i : Nat}
theorem s_nil (h : κ.nx δ I) : SX X W [] δ I κ := fun σ G H E hE s hI k => PSs.wp pss_nil (k.nx δ σ G H I (Same.refl G) s hI hE h)
theorem s_cons (h : S1 X W st δ I { κ with nx := fun δ' I' => SX X W rest δ' I' κ }) : SX X W (st :: rest) δ I κ := fun σ G H E hE s hI k =>
  PSs.wp (pss_cons psC pssC) (h σ G H _ hE s hI ⟨fun δ' σ' G' H' I' s1 t1 h1 r p => p σ' G' H' E r t1 h1 (k.mono s1), k.rt, k.bk, k.ct, k.ex⟩)
theorem s_one (h : S1 X W st δ I κ) : SX X W [st] δ I κ := fun σ G H E hE s hI k => PSs.wp (pss_one psC) (h σ G H E hE s hI k)
theorem S1.imp {κ' : Ko X.K} (h : S1 X W st δ I κ') (n : ∀ δ I, κ'.nx δ I → κ.nx δ I) (r : ∀ d I, κ'.rt d I → κ.rt d I) (b : ∀ δ I, κ'.bk δ I → κ.bk δ I) (c : ∀ δ I, κ'.ct δ I → κ.ct δ I) (x : ∀ C fs δ I, κ'.ex C fs δ I → κ.ex C fs δ I) : S1 X W st δ I κ := fun σ G H E hE s hI k =>
  h σ G H E hE s hI ⟨fun δ' σ' G' H' I' s1 t1 h1 r p => k.nx δ' σ' G' H' I' s1 t1 h1 r (n _ _ p), fun v d G' H' I' s1 t1 h1 r1 p => k.rt v d G' H' I' s1 t1 h1 r1 (r _ _ p), fun δ' σ' G' H' I' s1 t1 h1 r p => k.bk δ' σ' G' H' I' s1 t1 h1 r (b _ _ p), fun δ' σ' G' H' I' s1 t1 h1 r p => k.ct δ' σ' G' H' I' s1 t1 h1 r (c _ _ p),
    fun C dd fs l δ' σ' G' H' I' s1 t1 h1 r q hd p => k.ex C dd fs l δ' σ' G' H' I' s1 t1 h1 r q hd (x _ _ _ _ p)⟩
theorem SX.imp {κ' : Ko X.K} (h : SX X W sts δ I κ') (n : ∀ δ I, κ'.nx δ I → κ.nx δ I) (r : ∀ d I, κ'.rt d I → κ.rt d I) (b : ∀ δ I, κ'.bk δ I → κ.bk δ I) (c : ∀ δ I, κ'.ct δ I → κ.ct δ I) (x : ∀ C fs δ I, κ'.ex C fs δ I → κ.ex C fs δ I) : SX X W sts δ I κ := fun σ G H E hE s hI k =>
  h σ G H E hE s hI ⟨fun δ' σ' G' H' I' s1 t1 h1 r p => k.nx δ' σ' G' H' I' s1 t1 h1 r (n _ _ p), fun v d G' H' I' s1 t1 h1 r1 p => k.rt v d G' H' I' s1 t1 h1 r1 (r _ _ p), fun δ' σ' G' H' I' s1 t1 h1 r p => k.bk δ' σ' G' H' I' s1 t1 h1 r (b _ _ p), fun δ' σ' G' H' I' s1 t1 h1 r p => k.ct δ' σ' G' H' I' s1 t1 h1 r (c _ _ p),
    fun C dd fs l δ' σ' G' H' I' s1 t1 h1 r q hd p => k.ex C dd fs l δ' σ' G' H' I' s1 t1 h1 r q hd (x _ _ _ _ p)⟩
theorem s_set (i : Nat) (h : EvX X W (κ.r δ) e δ I fun d I1 => κ.nx (δ.set i (some d)) I1) {pos' : Pos} (hN : X.N.Nodup := by assumption) (hi : X.N[i]? = some x' := by rfl) (hx : Loc X.env.scope x' := by first | exact Or.inl rfl | exact Or.inr rfl) (hs : swapsWith e (some (.Name x' pos')) pos.line X.env = pure false := by rfl)
    (hf : X.fn x' = true ∨ X.env.scope.names.lookup x' = some .local := by first | exact .inl rfl | exact .inr rfl) : S1 X W (.Assign [.Name x' pos'] e pos) δ I κ := fun σ G H E hE s hI k =>
  PS.wp (ps_set hN hi hx peC hs hf) (h σ G H _ hE s hI (k.kx hE) fun v d G1 H1 I1 s1 t1 h1 r1 p => k.nx _ _ G1 H1 I1 s1 t1 h1 ((hE.mono s1).set r1) p)
theorem s_setP (i : Nat) (h : PV X I e δ d) (q : κ.nx (δ.set i (some d)) I) {pos' : Pos} (hN : X.N.Nodup := by assumption) (hi : X.N[i]? = some x' := by rfl) (hx : Loc X.env.scope x' := by first | exact Or.inl rfl | exact Or.inr rfl) (hs : swapsWith e (some (.Name x' pos')) pos.line X.env = pure false := by rfl)
    (hf : X.fn x' = true ∨ X.env.scope.names.lookup x' = some .local := by first | exact .inl rfl | exact .inr rfl) : S1 X W (.Assign [.Name x' pos'] e pos) δ I κ := s_set i (h W _ _ q) hN hi hx hs hf
theorem s_ret (h : EvX X W (κ.r δ) e δ I κ.rt) : S1 X W (.Return (some e) pos) δ I κ := fun σ G H E hE s hI k => PS.wp (ps_ret peC) (h σ G H _ hE s hI (k.kx hE) k.rt)
theorem s_retP (h : PV X I e δ d) (q : κ.rt d I) : S1 X W (.Return (some e) pos) δ I κ := s_ret (h W _ _ q)
theorem s_if (h : EvT X W (κ.r δ) c δ I fun b I1 => if b = true then SX X W sts δ I1 κ else SX X W rest δ I1 κ) : S1 X W (.If c sts rest pos) δ I κ := fun σ G H E hE s hI k =>
  PS.wp (ps_if ptC pssC pssC) (h σ G H _ hE s hI (k.kx hE) fun b G1 H1 I1 s1 t1 h1 p => by
    cases b with
    | true => exact (show SX X W sts δ I1 κ from p) σ G1 H1 E (hE.mono s1) t1 h1 (k.mono s1)
    | false => exact (show SX X W rest δ I1 κ from p) σ G1 H1 E (hE.mono s1) t1 h1 (k.mono s1))
theorem s_ifP {b : Bool} (h : PVT X I c δ b) (h1 : b = true → SX X W sts δ I κ) (h2 : b = false → SX X W rest δ I κ) : S1 X W (.If c sts rest pos) δ I κ := s_if (h W _ _ (by
  cases b with
  | true => exact h1 rfl
  | false => exact h2 rfl))
theorem s_expr (h : EvX X W (κ.r δ) e δ I fun _ I1 => κ.nx δ I1) (hs : swapsWith e none pos.line X.env = pure false := by rfl) : S1 X W (.Expr e pos) δ I κ := fun σ G H E hE s hI k =>
  PS.wp (ps_expr peC hs) (h σ G H _ hE s hI (k.kx hE) fun v d G1 H1 I1 s1 t1 h1 r1 p => k.nx _ _ G1 H1 I1 s1 t1 h1 (hE.mono s1) p)
theorem bind_name (i : Nat) {vs : List Nat} {pos' : Pos} (hv : i ∈ vs := by decide) (hN : X.N.Nodup := by assumption) (hi : X.N[i]? = some x' := by rfl) (hx : Loc X.env.scope x' := by first | exact Or.inl rfl | exact Or.inr rfl) (hf : X.fn x' = true ∨ X.env.scope.names.lookup x' = some .local := by first | exact .inl rfl | exact .inr rfl) :
    BindD X (.Name x' pos') d δ (δ.set i (some d)) vs := fun v σ G H Q hE s r q => PG.wp (pg_name hN hi hx hf) (q _ (hE.set r) (wipe_set σ hv))
theorem s_for {iter tg : Expr} {body : List Stmt} (po : PassesOwn (model X.prog X.w) X.A X.env X.xe) (h : EvI X W (κ.r δ) tg iter δ I fun ds I1 => ∃ Nv : Nat → DEnv → Iv X.K → Prop, Nv 0 δ I1 ∧
      (∀ i d δ' I', ds[i]? = some d → Nv i δ' I' → ∃ δ'' vs, BindD X tg d δ' δ'' vs ∧ SX X W body δ'' I' { κ with nx := Nv (i + 1), ct := Nv (i + 1), bk := κ.nx }) ∧ ∀ δ' I', Nv ds.length δ' I' → κ.nx δ' I')
    (hc : X.calm = true := by rfl) (hs : ∀ x, foldedSetIterable iter X.env x = pure x := by intro _; rfl) : S1 X W (.For tg iter body [] pos) δ I κ := fun σ G H E hE s hI k =>
  PS.wp (ps_for po hc piC pgC pssC hs) (h σ G H _ hE s hI (k.kx hE) fun J ds G1 H1 I1 s1 t1 h1 wk ⟨Nv, i0, step, fin⟩ => by
    refine ⟨fun i m σ' H' => m = ds.length - i ∧ i ≤ ds.length ∧ ∃ δ' G' I', Same G1 G' ∧ Same G' H' ∧ Hd I' G' H' ∧ EnvR X.K G' δ' σ' ∧ Nv i δ' I', ⟨_, rfl, Nat.zero_le _, δ, G1, I1, Same.refl G1, t1, h1, hE.mono s1, i0⟩, ?_⟩
    rintro i m σ' H' ⟨rfl, hi, δ', G', I', s2, t2, h2, e2, iv⟩
    by_cases hlt : i < ds.length
    · refine .inr ⟨wk.go i G' H' s2 t2 hlt, fun σ3 H3 => ∃ δ3 G3 I3, Same G1 G3 ∧ Same G3 H3 ∧ Hd I3 G3 H3 ∧ EnvR X.K G3 δ3 σ3 ∧ Nv (i + 1) δ3 I3, fun σ3 H3 ⟨δ3, G3, I3, q1, q2, q3, q4, q5⟩ => ⟨ds.length - (i + 1), by omega, rfl, hlt, δ3, G3, I3, q1, q2, q3, q4, q5⟩, fun x H3 hy => ?_⟩
      obtain ⟨G3, s3, t3, h3, _, d, hd, rd⟩ := wk.yld i G' H' I' x H3 s2 t2 h2 hlt hy
      obtain ⟨δ'', vs, bd, bs⟩ := step i d δ' I' hd iv
      refine bd x σ' G3 H3 _ (e2.mono s3) t3 rd fun σ4 e4 _ => ?_
      have s13 : Same G1 G3 := s2.trans s3
      exact bs σ4 G3 H3 _ e4 t3 h3 ⟨fun δ5 σ5 G5 H5 I5 s5 t5 h5 r5 p5 => ⟨δ5, G5, I5, s13.trans s5, t5, h5, r5, p5⟩, k.rt.mono (s1.trans s13), k.nx.mono (s1.trans s13), fun δ5 σ5 G5 H5 I5 s5 t5 h5 r5 p5 => ⟨δ5, G5, I5, s13.trans s5, t5, h5, r5, p5⟩, k.ex.mono (s1.trans s13)⟩
    · have ei : i = ds.length := by omega
      subst ei
      exact .inl ⟨wk.stop G' H' s2 t2, k.nx δ' σ' G' H' I' (s1.trans s2) t2 h2 e2 (fin δ' I' iv)⟩)
theorem s_while {body : List Stmt} (po : PassesOwn (model X.prog X.w) X.A X.env X.xe) (Nv : Nat → DEnv → Iv X.K → Prop) (m : Nat) (i0 : Nv m δ I)
    (step : ∀ m δ' I', Nv m δ' I' → EvT X W (κ.r δ') c δ' I' fun b I1 => if b = true then SX X W body δ' I1 { κ with nx := fun δ'' I'' => ∃ m', m' < m ∧ Nv m' δ'' I'', ct := fun δ'' I'' => ∃ m', m' < m ∧ Nv m' δ'' I'', bk := κ.nx } else κ.nx δ' I1) : S1 X W (.While c body [] pos) δ I κ := fun σ G H E hE s hI k =>
  PS.wp (ps_while po ptC pssC) (by
    refine ⟨fun m σ' H' => ∃ δ' G' I', Same G G' ∧ Same G' H' ∧ Hd I' G' H' ∧ EnvR X.K G' δ' σ' ∧ Nv m δ' I', ⟨m, δ, G, I, Same.refl G, s, hI, hE, i0⟩, ?_⟩
    rintro m σ' H' ⟨δ', G', I', s2, t2, h2, e2, iv⟩
    refine step m δ' I' iv σ' G' H' _ e2 t2 h2 ((k.mono s2).kx e2) fun b G3 H3 I3 s3 t3 h3 p => ?_
    cases b with
    | true =>
      have s13 := s2.trans s3
      refine ⟨fun σ5 H5 => ∃ m', m' < m ∧ ∃ δ5 G5 I5, Same G G5 ∧ Same G5 H5 ∧ Hd I5 G5 H5 ∧ EnvR X.K G5 δ5 σ5 ∧ Nv m' δ5 I5, fun σ5 H5 q => q, ?_⟩
      exact (show SX X W body δ' I3 _ from p) σ' G3 H3 _ (e2.mono s3) t3 h3 ⟨fun δ5 σ5 G5 H5 I5 s5 t5 h5 r5 ⟨m', hm, p5⟩ => ⟨m', hm, δ5, G5, I5, s13.trans s5, t5, h5, r5, p5⟩, k.rt.mono s13, k.nx.mono s13, fun δ5 σ5 G5 H5 I5 s5 t5 h5 r5 ⟨m', hm, p5⟩ => ⟨m', hm, δ5, G5, I5, s13.trans s5, t5, h5, r5, p5⟩, k.ex.mono s13⟩
    | false => exact k.nx δ' σ' G3 H3 I3 (s2.trans s3) t3 h3 (e2.mono s3) p)
end
end DL
set_option Elab.async false
set_option linter.all false
set_option maxRecDepth 100000
set_option maxHeartbeats 4000000
namespace DL
open PySem PySem.Spec PyProof.Rows L2

abbrev Spec (K : PySem.W.Frag) := Iv K → List D → (D → Iv K → Prop) → Rx K → Prop
def spD (K : PySem.W.Frag) (S : Spec K) : Sp := fun vs H Q E => ∃ (I : Iv K) (G : Hp) (ds : List D) (P : D → Iv K → Prop) (R : Rx K), Same G H ∧ Hd I G H ∧ Reps K G ds vs ∧ S I ds P R ∧ Kv K Q G P ∧
  ∀ (C dd : Addr) (fs : List (Str × D)) (l : List (Str × V)) (G' H' : Hp) (I' : Iv K), Same G G' → Same G' H' → Hd I' G' H' → FRep K G' fs l → G' dd = some (.xd l) → R C fs I' → E (.ref C) (some dd) H'
section
variable {P : Program} {w : World} {K : PySem.W.Frag} {mg : Str → Option Value} {base : Heap} {x qual : Str} {params : Arguments} {body : List Stmt} {scope : Scope} {dvs : List V} {kws : List (Str × V)} {f : Addr} {fd : FuncData}
theorem fn_d {N ps : List Str} {k : Nat} {S : Spec K} (F : FunD K x qual params body scope dvs kws f fd) (sc : FnScope N ps scope) (len : ∀ I ds P R, S I ds P R → ds.length = ps.length)
    (h : ∀ (cdv : Value) (A : Around) (outer : List Env) (s : Shared) (H : Hp) (E : XK), Room k (A.deeper (envOfC qual scope s.heap.objs.size f cdv)) →
      Takes (cxOf (L2.CX P w) P w K mg base N qual scope f cdv A outer s H E) (fun cls d _ H => E cls d H) →
      PassesOwn (model P w) (A.deeper (envOfC qual scope s.heap.objs.size f cdv)) (envOfC qual scope s.heap.objs.size f cdv) (cxOf (L2.CX P w) P w K mg base N qual scope f cdv A outer s H E).xe →
      ∀ (I : Iv K) (ds : List D) (Q : D → Iv K → Prop) (R : Rx K), S I ds Q R →
      SX (cxOf (L2.CX P w) P w K mg base N qual scope f cdv A outer s H E) (fun cls d _ H => E cls d H) body (dstart N ds) I { nx := fun _ I' => Q .non I', rt := Q, ex := fun C fs _ I' => R C fs I' }) :
    FnOk P w K mg base (L2.CX P w) (k + 1) f fd ps (spD K S) := by
  refine F.ok sc (fun vs H Q E h => ?_) (fun cdv A outer s H vs Q E hr hq => ?_)
  · obtain ⟨I, G, ds, P', R, _, _, r, hS, _, _⟩ := h
    rw [r.length]
    exact len _ _ _ _ hS
  · obtain ⟨I, G, ds, P', R, sm, hI, r, hS, kv, ke⟩ := hq
    refine ⟨_, pssC, h cdv A outer s H E hr (takes_of rfl rfl rfl rfl) (passes_of rfl) I ds P' R hS _ G H _ (EnvR.start r) sm hI ?_⟩
    exact ⟨fun δ σ G' H' I' s1 s2 h1 _ p => kv .non .non G' H' I' s1 s2 h1 rfl p, kv, fun _ _ _ _ _ _ _ _ _ p => p.elim, fun _ _ _ _ _ _ _ _ _ p => p.elim,
      fun C dd fs l δ σ G' H' I' s1 s2 h1 _ r2 hd p => ke C dd fs l G' H' I' s1 s2 h1 r2 hd p⟩
end
section
variable {X : Cx} {W : WX} {R : Rx X.K} {e : Expr} {es : List Expr} {δ : DEnv} {I : Iv X.K} {P : D → Iv X.K → Prop} {pos p : Pos} {x : Str} {f : Addr} {fd : FuncData} {ps : List Str} {k : Nat} {S : Spec X.K} {dvs : List V} {dds : List D} {us : List Value} {d : D}
theorem ev_callD (tk : Takes X W) (F : FnOk X.prog X.w X.K X.mg X.base (L2.CX X.prog X.w) k f fd ps (spD X.K S)) (hr : Room k X.A) (hm : X.mg x = some (.ref f)) (hk : PySem.W.keepIn X.K (.ref f) = true) (hb : Binds X.K fd ps us) (hd : Vals dvs us) (hdd : ∀ G, Reps X.K G dds dvs)
    (h : EvA X W R (e :: es) δ I fun ds I1 => S I1 (ds ++ dds) P R) (hg : Gl X x := by rfl) (hdb : (x == ("__debug__" : Str)) = false := by decide)
    (he : starEach (e :: es) X.env = (false, eval e X.env) :: starEach es X.env := by rfl) (hpl : (backTo pos (starEach es X.env)).any (·.1) = false := by rfl) : EvX X W R (.Call (.Name x p) (e :: es) [] pos) δ I P := fun σ G H Q hE s hI qx q =>
  PE.wp (pe_callSD F hr hg hm hk hb hd (fun σ => passAt tk σ) paC hdb he hpl) (h σ G H _ hE s hI qx fun vs ds G1 H1 I1 s1 t1 h1 r1 k1 =>
    ⟨I1, G1, ds ++ dds, P, R, t1, h1, r1.append (hdd G1), k1, q.mono s1, fun C dd fs l G' H' I' s2 t2 h2 r2 hx p => qx C dd fs l G' H' I' (s1.trans s2) t2 h2 r2 hx p⟩)
end
theorem takesF {X : Cx} : Takes X (fun _ _ _ _ => False) := takes0
section
variable {X : Cx} {I : Iv X.K} {e : Expr} {es : List Expr} {δ : DEnv} {pos p : Pos} {x : Str} {f : Addr} {fd : FuncData} {ps : List Str} {k : Nat} {S : Spec X.K} {dvs : List V} {ds dds : List D} {us : List Value} {d : D}
theorem EvX.weak {W : WX} {R : Rx X.K} {P : D → Iv X.K → Prop} (h : EvX X (fun _ _ _ _ => False) (fun _ _ _ => False) e δ I P) : EvX X W R e δ I P := fun σ G H Q hE s hI qx q => h σ G H Q hE s hI (fun _ _ _ _ _ _ _ _ _ _ _ _ z => z.elim) q
theorem pv_callD (F : FnOk X.prog X.w X.K X.mg X.base (L2.CX X.prog X.w) k f fd ps (spD X.K S)) (hr : Room k X.A) (hm : X.mg x = some (.ref f)) (hk : PySem.W.keepIn X.K (.ref f) = true) (hb : Binds X.K fd ps us) (hd : Vals dvs us) (hdd : ∀ G, Reps X.K G dds dvs)
    (ha : PVA X I (e :: es) δ ds) (hS : ∀ (P : D → Iv X.K → Prop), P d I → S I (ds ++ dds) P (fun _ _ _ => False)) (hg : Gl X x := by rfl) (hdb : (x == ("__debug__" : Str)) = false := by decide)
    (he : starEach (e :: es) X.env = (false, eval e X.env) :: starEach es X.env := by rfl) (hpl : (backTo pos (starEach es X.env)).any (·.1) = false := by rfl) : PV X I (.Call (.Name x p) (e :: es) [] pos) δ d := fun W R P q =>
  EvX.weak (ev_callD takesF F hr hm hk hb hd hdd (ha _ _ _ (hS P q)) hg hdb he hpl)
end

section
variable {K : PySem.W.Frag} {I : Iv K} {x y z d : D} {i j : Int}
theorem p2_I0 {g : Int → Int → V} {z : D} (h : ∀ G, Rep K G z (g i j)) : P2 K I (rI0 g) (.int i) (.int j) z := fun P p G H v w Q s hI r1 r2 q => ⟨i, j, r1, r2, q _ z G H I (Same.refl G) s hI (h G) p⟩
theorem p2_I {C : Int → Int → Prop} {g : Int → Int → V} {z : D} (h : ∀ G, Rep K G z (g i j)) (c : C i j) : P2 K I (rI C g) (.int i) (.int j) z := fun P p G H v w Q s hI r1 r2 q => ⟨i, j, r1, r2, c, q _ z G H I (Same.refl G) s hI (h G) p⟩
theorem p2_add : P2 K I (rI0 fun i j => .int (i + j)) (.int i) (.int j) (.int (i + j)) := p2_I0 fun _ => rfl
theorem p2_sub : P2 K I (rI0 fun i j => .int (i - j)) (.int i) (.int j) (.int (i - j)) := p2_I0 fun _ => rfl
theorem p2_mul (h : CMul i j) : P2 K I (rI CMul fun i j => .int (i * j)) (.int i) (.int j) (.int (i * j)) := p2_I (fun _ => rfl) h
theorem p2_fdiv (h : CDivN i j) : P2 K I (rI CDivN fun i j => .int (i.fdiv j)) (.int i) (.int j) (.int (i.fdiv j)) := p2_I (fun _ => rfl) h
theorem p2_mod (h : j ≠ 0) : P2 K I (rI (fun _ j => j ≠ 0) fun i j => .int (i.fmod j)) (.int i) (.int j) (.int (i.fmod j)) := p2_I (fun _ => rfl) h
theorem p2_pow (h : CPow i j) : P2 K I (rI CPow fun i j => .int (i ^ j.toNat)) (.int i) (.int j) (.int (i ^ j.toNat)) := p2_I (fun _ => rfl) h
theorem p2_lt : P2 K I (rI0 fun i j => .bl (decide (i < j))) (.int i) (.int j) (.bl (decide (i < j))) := p2_I0 fun _ => rfl
theorem p2_le : P2 K I (rI0 fun i j => .bl (decide (i ≤ j))) (.int i) (.int j) (.bl (decide (i ≤ j))) := p2_I0 fun _ => rfl
theorem p2_gt : P2 K I (rI0 fun i j => .bl (decide (j < i))) (.int i) (.int j) (.bl (decide (j < i))) := p2_I0 fun _ => rfl
theorem p2_ge : P2 K I (rI0 fun i j => .bl (decide (j ≤ i))) (.int i) (.int j) (.bl (decide (j ≤ i))) := p2_I0 fun _ => rfl
def flatD : D → Option V
  | .non => some .non
  | .bl b => some (.bl b)
  | .int i => some (.int i)
  | .str s => some (.str s)
  | .ty n => some (.ty n)
  | _ => none
theorem Rep.flat {G : Hp} {v u : V} : ∀ {d : D}, Rep K G d v → flatD d = some u → v = u
  | .non, r, h => by cases h; exact r
  | .bl _, r, h => by cases h; exact r
  | .int _, r, h => by cases h; exact r
  | .str _, r, h => by cases h; exact r
  | .ty _, r, h => by cases h; exact r
  | .adr _, _, h => by cases h
  | .tup _, _, h => by cases h
  | .lst _, _, h => by cases h
  | .lsf _, _, h => by cases h
  | .tub _, _, h => by cases h
  | .slo _ _, _, h => by cases h
  | .exc _ _ _ _ _, _, h => by cases h
  | .dic _ _, _, h => by cases h
theorem p2_eq {v u : V} {b : Bool} (hx : flatD x = some v) (hy : flatD y = some u) (hs : scal v u = true) (hb : decide (v = u) = b) : P2 K I rEq x y (.bl b) := fun P p G H v' w Q s hI r1 r2 q => by
  rw [r1.flat hx, r2.flat hy]
  exact ⟨hs, by rw [hb]; exact q _ (.bl b) G H I (Same.refl G) s hI rfl p⟩
theorem p2_ne {v u : V} {b : Bool} (hx : flatD x = some v) (hy : flatD y = some u) (hs : scal v u = true) (hb : (!decide (v = u)) = b) : P2 K I rNe x y (.bl b) := fun P p G H v' w Q s hI r1 r2 q => by
  rw [r1.flat hx, r2.flat hy]
  exact ⟨hs, by rw [hb]; exact q _ (.bl b) G H I (Same.refl G) s hI rfl p⟩
theorem eqV_str (s t : Str) : P2 K I rEq (.str s) (.str t) (.bl (decide (s = t))) := p2_eq rfl rfl rfl (by simp)
theorem neV_str (s t : Str) : P2 K I rNe (.str s) (.str t) (.bl (!decide (s = t))) := p2_ne rfl rfl rfl (by simp)
theorem atI_rep {G : Hp} {ds : List D} {vs : List V} (r : Reps K G ds vs) (h : atI ds i = some d) : ∃ v, atI vs i = some v ∧ Rep K G d v := by
  unfold atI at h ⊢
  rw [r.length]
  cases e : ixN ds.length i with
  | none => rw [e] at h; cases h
  | some j =>
    rw [e] at h
    exact r.get (show ds[j]? = some d from h)
theorem p2_ixL {ds : List D} (h : atI ds i = some d) : P2 K I (rIxL K) (.lst ds) (.int i) d := fun P p G H v w Q s hI ⟨a, vs, e1, e2, e3⟩ r2 q => by
  obtain ⟨u, h1, h2⟩ := atI_rep e3 h
  exact ⟨a, vs, i, u, e1, r2, SqL.of (s _ _ e2), h1, q u d G H I (Same.refl G) s hI h2 p⟩
theorem p2_ixT {ds : List D} (h : atI ds i = some d) : P2 K I (rIxT K) (.tup ds) (.int i) d := fun P p G H v w Q s hI ⟨a, vs, e1, e2, e3⟩ r2 q => by
  obtain ⟨u, h1, h2⟩ := atI_rep e3 h
  exact ⟨a, vs, i, u, e1, r2, sqT_mono s e2, h1, q u d G H I (Same.refl G) s hI h2 p⟩
theorem p2_ixS {z : Str} {c : Nat} (hl : z.length ≤ sizeLine) (h : atI z.cps.toList i = some c) : P2 K I rIxS (.str z) (.int i) (.str ⟨#[c]⟩) := fun P p G H v w Q s hI r1 r2 q =>
  ⟨z, i, c, r1, r2, hl, h, q _ (.str ⟨#[c]⟩) G H I (Same.refl G) s hI rfl p⟩
def flatDs : List D → Option (List V)
  | [] => some []
  | d :: ds => match flatD d, flatDs ds with
    | some v, some vs => some (v :: vs)
    | _, _ => none
theorem Reps.flat {G : Hp} : ∀ {ds : List D} {vs us : List V}, Reps K G ds vs → flatDs ds = some us → vs = us
  | [], vs, us, r, h => by
    have e : ([] : List V) = us := Option.some.inj h
    rw [← e]
    exact r
  | d :: ds, vs, us, ⟨v, r, e1, e2, e3⟩, h => by
    unfold flatDs at h
    cases h1 : flatD d with
    | none => rw [h1] at h; cases h
    | some u =>
      cases h2 : flatDs ds with
      | none => rw [h1, h2] at h; cases h
      | some us' =>
        rw [h1, h2] at h
        have e := Option.some.inj h
        rw [← e, e1, e2.flat h1, Reps.flat e3 h2]
theorem p2_in {ds : List D} {v : V} {us : List V} {neg b : Bool} (hx : flatD x = some v) (hy : flatDs ds = some us) (h1 : flatV v = true) (h2 : us.all flatV = true) (hb : (if neg then !inV v us else inV v us) = b) (hc : y = .lst ds ∨ y = .tup ds) : P2 K I (rIn K neg) x y (.bl b) := fun P p G H v' w Q s hI r1 r2 q => by
  have e1 := r1.flat hx
  subst e1
  have r3 : ∃ a, w = .ref a ∧ (SqL K G a us ∨ SqT K G a us) := by
    rcases hc with e | e
    · subst e
      obtain ⟨a, vs, e1, e2, e3⟩ := r2
      rw [e3.flat hy] at e2
      exact ⟨a, e1, .inl (SqL.of e2)⟩
    · subst e
      obtain ⟨a, vs, e1, e2, e3⟩ := r2
      rw [e3.flat hy] at e2
      exact ⟨a, e1, .inr e2⟩
  obtain ⟨a, ea, sq⟩ := r3
  exact ⟨a, us, ea, sq.elim (fun z => .inl (sqL_mono s z)) (fun z => .inr (sqT_mono s z)), h1, h2, by rw [hb]; exact q _ (.bl b) G H I (Same.refl G) s hI rfl p⟩
theorem pn_int : PN K I (fun xs H Q => (∃ i, xs = [.int i] ∧ Q (.int i) H) ∨ ∃ k, xs = [.bl k] ∧ Q (.int (if k then 1 else 0)) H) [.int i] (.int i) := fun P p G H vs Q s hI ⟨v, r, e1, e2, e3⟩ q =>
  .inl ⟨i, by rw [e1, show v = .int i from e2, show r = [] from e3], q _ (.int i) G H I (Same.refl G) s hI rfl p⟩
theorem pn_max2 : PN K I (fun xs H Q => ∃ i j, xs = [.int i, .int j] ∧ Q (.int (if j > i then j else i)) H) [.int i, .int j] (.int (if j > i then j else i)) := fun P p G H vs Q s hI ⟨v, r, e1, e2, v2, r2, e3, e4, e5⟩ q =>
  ⟨i, j, by rw [e1, e3, show v = .int i from e2, show v2 = .int j from e4, show r2 = [] from e5], q _ (.int (if j > i then j else i)) G H I (Same.refl G) s hI rfl p⟩
theorem pn_lenL {ds : List D} : PN K I (fun xs H Q => ∃ p ys, xs = [.ref p] ∧ (SqL K H p ys ∨ SqT K H p ys) ∧ Q (.int ys.length) H) [.lst ds] (.int ds.length) := fun P p G H vs Q s hI ⟨v, r, e1, ⟨a, ws, e2, e3, e4⟩, e5⟩ q =>
  ⟨a, ws, by rw [e1, e2, show r = [] from e5], .inl (SqL.of (s _ _ e3)), by rw [e4.length]; exact q _ (.int ds.length) G H I (Same.refl G) s hI rfl p⟩
theorem pn_lenT {ds : List D} : PN K I (fun xs H Q => ∃ p ys, xs = [.ref p] ∧ (SqL K H p ys ∨ SqT K H p ys) ∧ Q (.int ys.length) H) [.tup ds] (.int ds.length) := fun P p G H vs Q s hI ⟨v, r, e1, ⟨a, ws, e2, e3, e4⟩, e5⟩ q =>
  ⟨a, ws, by rw [e1, e2, show r = [] from e5], .inr (sqT_mono s e3), by rw [e4.length]; exact q _ (.int ds.length) G H I (Same.refl G) s hI rfl p⟩
theorem pn_all {bs : List Bool} : PN K I (rAll K) [.lst (bs.map D.bl)] (.bl (bs.all id)) := fun P p G H vs Q s hI ⟨v, r, e1, ⟨a, ws, e2, e3, e4⟩, e5⟩ q => by
  have e6 : ∀ {bs : List Bool} {ws : List V}, Reps K G (bs.map D.bl) ws → ws = bs.map V.bl := by
    intro bs
    induction bs with
    | nil => intro ws h; exact h
    | cons b bs ih =>
      intro ws ⟨v, r, h1, h2, h3⟩
      rw [h1, show v = .bl b from h2, ih h3]
      rfl
  refine ⟨a, bs, by rw [e1, e2, show r = [] from e5], ?_, q _ (.bl (bs.all id)) G H I (Same.refl G) s hI rfl p⟩
  rw [e6 e4] at e3
  exact SqL.of (s _ _ e3)
def tyD : D → Option String
  | .non => some "NoneType"
  | .bl _ => some "bool"
  | .int _ => some "int"
  | .str _ => some "str"
  | .tup _ => some "tuple"
  | .lst _ => some "list"
  | .lsf _ => some "list"
  | .dic _ _ => some "dict"
  | _ => none
theorem tyX_of {G H : Hp} {v : V} {t : String} (s : Same G H) : ∀ {d : D}, Rep K G d v → tyD d = some t → TyX K H v (.type t)
  | .non, r, h => by cases h; rw [show v = .non from r]; exact .base .non
  | .bl _, r, h => by cases h; rw [show v = .bl _ from r]; exact .base (.bl _)
  | .int _, r, h => by cases h; rw [show v = .int _ from r]; exact .base (.int _)
  | .str _, r, h => by cases h; rw [show v = .str _ from r]; exact .base (.str _)
  | .ty _, _, h => by cases h
  | .adr _, _, h => by cases h
  | .slo _ _, _, h => by cases h
  | .tub _, _, h => by cases h
  | .exc _ _ _ _ _, _, h => by cases h
  | .dic _ _, ⟨a, od, vs, e1, e2, _, _⟩, h => by
    cases h
    rw [e1]
    exact .fDict (s _ _ e2)
  | .tup _, ⟨a, vs, e1, e2, _⟩, h => by
    cases h
    rw [e1]
    rcases e2 with (e2 | ⟨o, e2⟩) | ⟨o, its, n, e2, e3, _⟩
    · exact .base (.tup (s _ _ e2))
    · exact .fTuple (s _ _ e2)
    · exact .kTuple e2 e3
  | .lst _, ⟨a, vs, e1, e2, _⟩, h => by
    cases h
    rw [e1]
    exact .base (.lst (s _ _ e2))
  | .lsf _, ⟨a, vs, e1, e2, _⟩, h => by
    cases h
    rw [e1]
    rcases e2 with (e2 | ⟨o, e2⟩) | ⟨o, its, n, e2, e3, _⟩
    · exact .base (.lst (s _ _ e2))
    · exact .base (.frz (s _ _ e2))
    · exact .kList e2 e3
theorem pn_isi {t u : String} {b : Bool} (h : tyD d = some t) (hb : kitB t u = some b := by decide +kernel) : PN K I (rIsi K) [d, .ty u] (.bl b) := fun P p G H vs Q s hI ⟨v, r, e1, e2, v2, r2, e3, e4, e5⟩ q =>
  ⟨v, .ty u, .type t, .type u, b, by rw [e1, e3, show v2 = .ty u from e4, show r2 = [] from e5], .ty u, tyX_of s e2 h, kit_ty hb, q _ (.bl b) G H I (Same.refl G) s hI rfl p⟩
end
end DL
set_option Elab.async false
set_option linter.all false
set_option maxRecDepth 100000
set_option maxHeartbeats 4000000
namespace DL
open PySem PySem.Spec PyProof.Rows L2

def rAddS' : R2 := fun x y H Q => ∃ i j, x = .str i ∧ y = .str j ∧ i.length + j.length ≤ sizeLine ∧ Q (.str (i ++ j)) H
theorem op_addT {X : Cx} : OpR X (binaryOp .Add) rAddS' := op_add_str
def rSignIn : R2 := fun x y H Q => ∃ (c : Nat) (z : Str), x = .str ⟨#[c]⟩ ∧ y = .str z ∧ Q (.bl (decide (c ∈ z.cps.toList))) H
theorem op_signIn {X : Cx} : OpR X (compareOp .In) rSignIn := op_in_sign
section
variable {K : PySem.W.Frag} {I : Iv K} {x y z d : D} {i j : Int}
theorem p2_addT {s t : Str} (h : s.length + t.length ≤ 100000) : P2 K I rAddS' (.str s) (.str t) (.str (s ++ t)) := fun P p G H v w Q sm hI r1 r2 q => ⟨s, t, r1, r2, by rw [sizeLine_eq]; omega, q _ (.str (s ++ t)) G H I (Same.refl G) sm hI rfl p⟩
theorem p2_signIn {c : Nat} {s : Str} : P2 K I rSignIn (.str ⟨#[c]⟩) (.str s) (.bl (decide (c ∈ s.cps.toList))) := fun P p G H v w Q sm hI r1 r2 q => ⟨c, s, r1, r2, q _ (.bl (decide (c ∈ s.cps.toList))) G H I (Same.refl G) sm hI rfl p⟩
theorem pn_lenS {s : Str} (h : s.length ≤ 100000) : PN K I (fun xs H Q => ∃ z, xs = [.str z] ∧ z.length ≤ sizeLine ∧ Q (.int z.length) H) [.str s] (.int s.length) := fun P p G H vs Q sm hI ⟨v, r, e1, e2, e5⟩ q =>
  ⟨s, by rw [e1, show v = .str s from e2, show r = [] from e5], by rw [sizeLine_eq]; omega, q _ (.int s.length) G H I (Same.refl G) sm hI rfl p⟩
end
section
variable {X : Cx} {W : WX} {R : Rx X.K} {a b e o tg iter : Expr} {es : List Expr} {δ : DEnv} {I : Iv X.K} {P : D → Iv X.K → Prop} {pos p apos : Pos} {x : Str} {d z : D}
theorem repsStr {K : PySem.W.Frag} {G : Hp} : ∀ {ss : List Str} {vs : List V}, Reps K G (ss.map D.str) vs → vs = ss.map V.str
  | [], vs, h => h
  | s :: ss, vs, ⟨v, r, e1, e2, e3⟩ => by rw [e1, show v = .str s from e2, repsStr e3]; rfl
theorem ev_join {sep : Str} (ho : PV X I o δ (.str sep)) (h : EvX X W R e δ I fun d I1 => ∃ ss : List Str, d = .lst (ss.map D.str) ∧ (ss.map (·.length)).sum + ss.length * sep.length ≤ 16777216 ∧ P (.str (Txt.join sep ss)) I1)
    (hs : starEach [e] X.env = [(false, eval e X.env)] := by rfl) (hbase : attributeBase o "join" X.env (eval o X.env) = eval o X.env := by rfl) (hline : (apos.endLine == pos.line) = true := by rfl) : EvX X W R (.Call (.Attribute o "join" apos) [e] [] pos) δ I P := fun σ G H Q hE s hI qx q =>
  PE.wp (pe_join peC peC hs hbase hline) (ho W R (fun z I1 => z = .str sep ∧ I1 = I) ⟨rfl, rfl⟩ σ G H _ hE s hI qx fun v d G1 H1 I1 s1 t1 h1 r1 ⟨ed, ei⟩ => by
    subst ed ei
    obtain rfl : v = .str sep := r1
    refine ⟨⟨sep, rfl⟩, h σ G1 H1 _ (hE.mono s1) t1 h1 (qx.mono s1) fun w d2 G2 H2 I2 s2 t2 h2 r2 ⟨ss, e2, hz, p2⟩ => ?_⟩
    subst e2
    obtain ⟨a, vs, e3, e4, e5⟩ := r2
    have e6 := repsStr e5
    subst e6
    exact ⟨sep, a, ss, rfl, by rw [e3], .inl (SqL.of (t2 _ _ e4)), hz, q _ (.str (Txt.join sep ss)) G2 H2 I2 (s1.trans s2) t2 h2 rfl p2⟩)
theorem walk_dL {K : PySem.W.Frag} {a : Addr} {ds : List D} {vs : List V} {G : Hp} (h : SqL K G a vs) (r : Reps K G ds vs) : WalkD K (Itl K a) ds G := by
  have hl := r.length
  refine ⟨fun i G' H' s1 s2 hi => (walk_list (K := K) (a := a) (xs := vs)).goes i H' (by omega) (sqL_mono (s1.trans s2) h), fun G' H' s1 s2 => by rw [← hl]; exact walk_list.stops H' (sqL_mono (s1.trans s2) h), fun i G' H' I x H'' s1 s2 hI hi y => ?_⟩
  obtain ⟨eH, ex⟩ := (walk_list (K := K) (a := a) (xs := vs)).yields i H' x H'' (by omega) (sqL_mono (s1.trans s2) h) y
  subst eH
  obtain ⟨d, hd⟩ : ∃ d, ds[i]? = some d := ⟨ds[i], by simp [hi]⟩
  obtain ⟨v, h1, h2⟩ := r.get hd
  rw [ex] at h1
  cases h1
  exact ⟨G', Same.refl _, s2, hI, fun _ _ z => z, d, hd, h2.mono s1⟩
theorem ei_lst (h : EvX X W R iter δ I fun d I1 => ∃ ds, (d = .lst ds ∨ d = .lsf ds) ∧ PP ds I1) : EvI X W R tg iter δ I PP := fun σ G H RR hE s hI qx q =>
  PI.wp (pi_list peC) (h σ G H _ hE s hI qx fun v d G1 H1 I1 s1 t1 h1 r1 ⟨ds, ed, pp⟩ => by
    have k : ∃ a vs, v = .ref a ∧ SqL X.K G1 a vs ∧ Reps X.K G1 ds vs := by
      rcases ed with e | e
      · subst e
        obtain ⟨a, vs, e1, e2, e3⟩ := r1
        exact ⟨a, vs, e1, SqL.of e2, e3⟩
      · subst e
        exact r1
    obtain ⟨a, vs, e1, e2, e3⟩ := k
    exact ⟨a, e1, ⟨vs, sqL_mono t1 e2⟩, q _ ds G1 H1 I1 s1 t1 h1 (walk_dL e2 e3) pp⟩)
theorem ei_str (h : EvX X W R iter δ I fun d I1 => ∃ w : Str, d = .str w ∧ PP (w.cps.toList.map fun c => D.str ⟨#[c]⟩) I1) : EvI X W R tg iter δ I PP := fun σ G H RR hE s hI qx q =>
  PI.wp (pi_str peC) (h σ G H _ hE s hI qx fun v d G1 H1 I1 s1 t1 h1 r1 ⟨w, ed, pp⟩ => by
    subst ed
    refine ⟨w, r1, q _ _ G1 H1 I1 s1 t1 h1 ⟨fun i G' H' _ _ hi => walk_str.goes i H' (by simpa using hi) trivial, fun G' H' _ _ => by rw [List.length_map, Array.length_toList]; exact walk_str.stops H' trivial, fun i G' H' I x H'' s1 s2 hI hi y => ?_⟩ pp⟩
    obtain ⟨eH, c, ec, ex⟩ := (walk_str (z := w)).yields i H' x H'' (by simpa using hi) trivial y
    subst eH ex
    exact ⟨G', Same.refl _, s2, hI, fun _ _ z => z, .str ⟨#[c]⟩, by rw [List.getElem?_map, Array.getElem?_toList, ec]; rfl, rfl⟩)
def intsFrom (lo : Int) (n : Nat) : List D := (List.range n).map fun i => D.int (lo + (i : Nat))
theorem walk_dR {K : PySem.W.Frag} {lo : Int} {n : Nat} {G : Hp} : WalkD K (Itr lo n) (intsFrom lo n) G := by
  have hl : (intsFrom lo n).length = n := by unfold intsFrom; simp
  refine ⟨fun i G' H' _ _ hi => walk_range.goes i H' (by omega) trivial, fun G' H' _ _ => by rw [hl]; exact walk_range.stops H' trivial, fun i G' H' I x H'' s1 s2 hI hi y => ?_⟩
  obtain ⟨eH, ex⟩ := (walk_range (lo := lo) (n := n)).yields i H' x H'' (by omega) trivial y
  subst eH ex
  exact ⟨G', Same.refl _, s2, hI, fun _ _ z => z, .int (lo + (i : Nat)), by unfold intsFrom; rw [List.getElem?_map, List.getElem?_range (by omega)]; rfl, rfl⟩
theorem ei_range1 (hm : X.mg "range" = none) (h : EvX X W R a δ I fun d I1 => ∃ n : Int, d = .int n ∧ n < 1000000 ∧ -1000000 < n ∧ PP (intsFrom 0 n.toNat) I1) (hg : Gl X "range" := by rfl) (hst : starEach [a] X.env = [(false, eval a X.env)] := by rfl) (hpl : (backTo pos (starEach [] X.env)).any (·.1) = false := by rfl) : EvI X W R tg (.Call (.Name "range" p) [a] [] pos) δ I PP := fun σ G H RR hE s hI qx q =>
  PI.wp (pi_range1 hg hm (pa_cons peC pa_nil hst) (hs := hst)) (h σ G H _ hE s hI qx fun v d G1 H1 I1 s1 t1 h1 r1 ⟨n, ed, b1, b2, pp⟩ => by
    subst ed
    exact ⟨n, by rw [show v = .int n from r1], by omega, by omega, q _ _ G1 H1 I1 s1 t1 h1 walk_dR pp⟩)
theorem ei_range2 (hm : X.mg "range" = none) (h : EvX X W R a δ I fun d I1 => EvX X W R b δ I1 fun d2 I2 => ∃ n m : Int, d = .int n ∧ d2 = .int m ∧ (n < 1000000 ∧ -1000000 < n ∧ m < 1000000 ∧ -1000000 < m) ∧ PP (intsFrom n (m - n).toNat) I2) (hg : Gl X "range" := by rfl) (hst : starEach [a, b] X.env = [(false, eval a X.env), (false, eval b X.env)] := by rfl) (hst2 : starEach [b] X.env = [(false, eval b X.env)] := by rfl) (hpl : (backTo pos (starEach [b] X.env)).any (·.1) = false := by rfl) : EvI X W R tg (.Call (.Name "range" p) [a, b] [] pos) δ I PP := fun σ G H RR hE s hI qx q =>
  PI.wp (pi_range2 hg hm (pa_cons peC (pa_cons peC pa_nil hst2) (by rw [hst, hst2])) (hs := hst) (hs2 := hst2)) (h σ G H _ hE s hI qx fun v d G1 H1 I1 s1 t1 h1 r1 k => k σ G1 H1 _ (hE.mono s1) t1 h1 (qx.mono s1) fun v2 d2 G2 H2 I2 s2 t2 h2 r2 ⟨n, m, ed, ed2, b1, pp⟩ => by
    subst ed ed2
    exact ⟨n, m, by rw [show v = .int n from r1, show v2 = .int m from r2], by omega, q _ _ G2 H2 I2 (s1.trans s2) t2 h2 walk_dR pp⟩)
theorem vi_lst {ds : List D} (h : PV X I iter δ (.lst ds)) : PVI X I tg iter δ ds := fun W R P p => ei_lst (h W R _ ⟨ds, .inl rfl, p⟩)
theorem vi_str {w : Str} (h : PV X I iter δ (.str w)) : PVI X I tg iter δ (w.cps.toList.map fun c => D.str ⟨#[c]⟩) := fun W R P p => ei_str (h W R _ ⟨w, rfl, p⟩)
structure wpTs (X : Cx) (ifs : List Expr) (σ : L2.St) (H : Hp) (Q : Bool → Hp → Prop) : Prop where
  run : ∀ (pins : List (Addr × Obj)) (s : Shared), Inv X pins σ H s → wpAny (model X.prog X.w) X.A (forIn ifs true fun c r => if r = true then do let ok ← isTrue c X.env (eval c X.env); pure (ForInStep.yield ok) else pure (ForInStep.yield r)) (TP X pins σ Q) X.xe s
def EvTs (X : Cx) (W : WX) (R : Rx X.K) (ifs : List Expr) (δ : DEnv) (I : Iv X.K) (P : Bool → Iv X.K → Prop) : Prop := ∀ (σ : L2.St) (G H : Hp) (Q : Bool → Hp → Prop), EnvR X.K G δ σ → Same G H → Hd I G H → Kx X.K W σ G R → Kb X.K Q G P → wpTs X ifs σ H Q
theorem ets_nil {PB : Bool → Iv X.K → Prop} (p : PB true I) : EvTs X W R [] δ I PB := fun σ G H Q hE s hI qx q => ⟨fun pins s1 J => pts_nil.run pins s1 σ H Q J (q true G H I (Same.refl G) s hI p)⟩
abbrev W0 : WX := fun _ _ _ _ => False
abbrev R0 {K : PySem.W.Frag} : Rx K := fun _ _ _ => False
theorem kx0 {K : PySem.W.Frag} {σ : L2.St} {G : Hp} : Kx K W0 σ G R0 := fun _ _ _ _ _ _ _ _ _ _ _ _ z => z.elim
theorem ev_lc {elt : Expr} {ifs : List Expr} {scope : Scope} (own : List (Str × Nat)) (hN : X.N.Nodup) (ok : BlkOk X.N X.env.scope scope own)
    (h : EvI X W R tg iter δ I fun ds I1 => ds.length ≤ 1000000 ∧ ∃ (Nv : Nat → List D → Prop) (δ' : D → DEnv), Nv 0 [] ∧ (∀ i d ys, ds[i]? = some d → Nv i ys → ∃ T : Bool → Prop, (∀ (J : Iv X.K) (s : Shared) (H : Hp) (C : Addr) (cl : List (Str × Addr)) (fp : List Addr),
        BindD (X.blk s H scope (compEnvC scope cl C X.env) fp) tg d (wipeD δ (own.map (·.2))) (δ' d) (own.map (·.2)) ∧
        EvTs (X.blk s H scope (compEnvC scope cl C X.env) fp) W0 R0 ifs (δ' d) (I1.and J) fun b I2 => I2 = I1.and J ∧ T b) ∧
        (T true → ∀ (J : Iv X.K) (s : Shared) (H : Hp) (C : Addr) (cl : List (Str × Addr)) (fp : List Addr), EvX (X.blk s H scope (compEnvC scope cl C X.env) fp) W0 R0 elt (δ' d) (I1.and J) fun y I3 => I3 = I1.and J ∧ Nv (i + 1) (ys ++ [y])) ∧ (T false → Nv (i + 1) ys)) ∧
      ∀ ys, Nv ds.length ys → P (.lst ys) I1)
    (hc : X.calm = true := by rfl) (hs : ∀ x, foldedSetIterable iter X.env x = pure x := by intro _; rfl) : EvX X W R (.ListComp elt [⟨tg, iter, ifs, 0⟩] scope pos) δ I P := fun σ G H Q hE s hI qx q => by
  refine PE.wp (pe_lc (wi := wpI X tg iter) (g := fun v σ H Q => ∀ s0 H0 C cl fp, wpG (X.blk s0 H0 scope (compEnvC scope cl C X.env) fp) tg v σ H Q) (tt := fun σ H Q => ∀ s0 H0 C cl fp, wpTs (X.blk s0 H0 scope (compEnvC scope cl C X.env) fp) ifs σ H Q)
    (te := fun σ H Q => ∀ s0 H0 C cl fp, wpE (X.blk s0 H0 scope (compEnvC scope cl C X.env) fp) elt σ H Q) hc hN piC ok
    (fun s0 H0 C cl fp => ⟨fun pins s σ H v u Q J r k => (k s0 H0 C cl fp).run pins s u J r⟩) (fun s0 H0 C cl fp => ⟨fun pins s σ H Q J k => (k s0 H0 C cl fp).run pins s J⟩) (fun s0 H0 C cl fp => ⟨fun pins s σ H Q J k => (k s0 H0 C cl fp).run pins s J⟩) hs) ?_
  refine h σ G H _ hE s hI qx fun J ds G1 H1 I1 s1 t1 h1 wk ⟨hz, Nv, δ', n0, step, fin⟩ D hD => ?_
  have gD : G1 D = none := t1.free hD
  have apart : ∀ a, ¬ (I1.F a ∧ a = D) := fun a ha => h1.dom ha.1 (by rw [ha.2]; exact hD)
  refine ⟨fun i m H' => m = ds.length - i ∧ i ≤ ds.length ∧ ∃ ys G', Nv i ys ∧ ys.length ≤ i ∧ Same G1 G' ∧ Same G' H' ∧ Hd (I1.and (iLst X.K D ys)) G' H', ⟨_, rfl, Nat.zero_le _, [], G1, n0, Nat.le_refl _, Same.refl _, same_upd t1 gD, ?_⟩, ?_⟩
  · exact Hd.mk2 (h1.newp hD) ⟨⟨_, upd_same, [], rfl, rfl⟩, fun a ha => by rw [show a = D from ha]; exact gD⟩ apart
  · rintro i m H' ⟨rfl, hi, ys, G', nv, hy, s2, t2, hd2⟩
    by_cases hlt : i < ds.length
    · refine .inr ⟨wk.go i G' H' s2 t2 hlt, fun H3 => ∃ ys3 G3, Nv (i + 1) ys3 ∧ ys3.length ≤ i + 1 ∧ Same G1 G3 ∧ Same G3 H3 ∧ Hd (I1.and (iLst X.K D ys3)) G3 H3, fun H3 ⟨ys3, G3, q1, q2, q3, q4, q5⟩ => ⟨ds.length - (i + 1), by omega, rfl, hlt, ys3, G3, q1, q2, q3, q4, q5⟩, fun x H3 hyl => ?_⟩
      obtain ⟨G3, s3, t3, h3, _, d, hd, rd⟩ := wk.yld i G' H' _ x H3 s2 t2 hd2 hlt hyl
      obtain ⟨T, stA, stB, stC⟩ := step i d ys hd nv
      intro s0 H0 C cl fp
      refine (stA (iLst X.K D ys) s0 H0 C cl fp).1 x _ G3 H3 _ (((hE.mono s1).mono (s2.trans s3)).wipe _) t3 rd fun σ4 e4 ew => ⟨by rw [ew, wipe_wipe], ?_⟩
      intro s0 H0 C cl fp
      refine (stA (iLst X.K D ys) s0 H0 C cl fp).2 σ4 G3 H3 _ e4 t3 h3 kx0 fun b G4 H4 I4 s4 t4 h4 ⟨eI, pb⟩ => ?_
      subst eI
      cases b with
      | false => exact ⟨ys, G4, stC pb, by omega, (s2.trans s3).trans s4, t4, h4⟩
      | true =>
        intro s0 H0 C cl fp
        refine stB pb (iLst X.K D ys) s0 H0 C cl fp σ4 G4 H4 _ (e4.mono s4) t4 h4 kx0 fun y dy G5 H5 I5 s5 t5 h5 r5 ⟨eI, nv5⟩ => ?_
        subst eI
        obtain ⟨o, ho, vs, ev, rv⟩ := h5.right.ph
        subst ev
        have g5 : G5 D = none := h5.right.fr D rfl
        refine ⟨vs, ho, ?_, ys ++ [dy], G5, nv5, by simp; omega, ((s2.trans s3).trans s4).trans s5, same_upd t5 g5, ?_⟩
        · rw [rv.length, sizeLine_eq]; omega
        · refine Hd.mk2 (h5.left.chg fun hf => apart D ⟨hf, rfl⟩) ⟨⟨_, upd_same, _, rfl, rv.append (Reps.one r5)⟩, h5.right.fr⟩ apart
    · have ei : i = ds.length := by omega
      subst ei
      obtain ⟨o, ho, vs, ev, rv⟩ := hd2.right.ph
      subst ev
      have g5 : G' D = none := hd2.right.fr D rfl
      refine .inl ⟨wk.stop G' H' s2 t2, q (.ref D) (.lst ys) (upd G' D (.lst vs)) H' I1 ((s1.trans s2).trans (Evl.Ex.new g5)) (same_freeze t2 ho) ?_ ⟨D, vs, rfl, upd_same, rv.mono (Evl.Ex.new g5)⟩ (fin ys nv)⟩
      exact ⟨I1.loc G' _ H' H' (Evl.Ex.new g5) (fun _ _ => rfl) hd2.left.ph, fun a ha => by rw [upd_ne fun e => apart a ⟨ha, e⟩]; exact hd2.left.fr a ha⟩
end
end DL
set_option Elab.async false
set_option linter.all false
set_option maxRecDepth 100000
set_option maxHeartbeats 4000000
namespace DL
open PySem PySem.Spec PyProof.Rows L2

section
variable {K : PySem.W.Frag} {G H : Hp} {p : Addr} {ds : List D} {c : Rc K}
theorem Hd.lst (h : Hd (c.fill (iLst K p ds)) G H) : ∃ vs, H p = some (.lst vs) ∧ Reps K G ds vs ∧ G p = none := by
  have q := h.inner
  obtain ⟨o, ho, vs, ev, r⟩ := q.ph
  subst ev
  exact ⟨vs, ho, r, q.fr p rfl⟩
theorem Hd.lstSet {es : List D} {ws : List V} (h : Hd (c.fill (iLst K p ds)) G H) (r : Reps K G es ws) : Hd (c.fill (iLst K p es)) G (upd H p (.lst ws)) :=
  Hd.change (I := iLst K p ds) (I' := iLst K p es) (fun _ => Iff.rfl) (fun a ha => upd_ne ha) ⟨⟨_, upd_same, ws, rfl, r⟩, h.inner.fr⟩ h
end
section
variable {X : Cx} {W : WX} {R : Rx X.K} {a b e o : Expr} {es : List Expr} {δ : DEnv} {I : Iv X.K} {P : D → Iv X.K → Prop} {pos q' : Pos} {x : Str} {d z : D} {p : Addr} {ds : List D} {i : Int} {κ : Ko X.K}
theorem p2_ixM {K : PySem.W.Frag} {I : Iv K} (c : Rc K) (h : atI ds i = some d) (eI : I = c.fill (iLst K p ds) := by rfl) : P2 K I (rIxL K) (.adr p) (.int i) d := fun P pp G H v w Q s hI r1 r2 q => by
  subst eI
  obtain ⟨vs, ho, r, _⟩ := hI.lst
  obtain ⟨u, h1, h2⟩ := atI_rep r h
  exact ⟨p, vs, i, u, r1, r2, SqL.of ho, h1, q u d G H _ (Same.refl G) s hI h2 pp⟩
theorem pn_lenM {K : PySem.W.Frag} {I : Iv K} (c : Rc K) (eI : I = c.fill (iLst K p ds) := by rfl) : PN K I (fun xs H Q => ∃ p ys, xs = [.ref p] ∧ (SqL K H p ys ∨ SqT K H p ys) ∧ Q (.int ys.length) H) [.adr p] (.int ds.length) := fun P pp G H vs Q s hI ⟨v, r, e1, e2, e3⟩ q => by
  subst eI
  obtain ⟨ws, ho, rw', _⟩ := hI.lst
  exact ⟨p, ws, by rw [e1, show v = .ref p from e2, show r = [] from e3], .inl (SqL.of ho), by rw [rw'.length]; exact q _ (.int ds.length) G H _ (Same.refl G) s hI rfl pp⟩
theorem p2_catMK {K : PySem.W.Frag} {I : Iv K} (c : Rc K) {es : List D} (hz : ds.length + es.length ≤ 100000) (eI : I = c.fill (iLst K p ds) := by rfl) : P2 K I rCat (.adr p) (.lst es) (.lst (ds ++ es)) := fun P pp G H v w Q s hI r1 ⟨b, zs, e1, e2, e3⟩ q => by
  subst eI
  obtain ⟨vs, ho, r, _⟩ := hI.lst
  refine ⟨p, b, vs, zs, r1, e1, ho, s _ _ e2, by rw [r.length, e3.length, sizeLine_eq]; omega, fun n hn => ?_⟩
  have hg : G n = none := s.free hn
  exact q (.ref n) (.lst (ds ++ es)) (upd G n (.lst (vs ++ zs))) _ _ (Evl.Ex.new hg) (same_upd2 s) (hI.keep hn s) ⟨n, vs ++ zs, rfl, upd_same, (r.append e3).mono (Evl.Ex.new hg)⟩ pp
theorem on_listM {K : PySem.W.Frag} {I : Iv K} {P : D → Iv K → Prop} {fs : List D} (hd : d = .lst fs ∨ d = .lsf fs ∨ d = .tup fs) (pp : ∀ n, (∀ a, ¬ (I.F a ∧ a = n)) → P (.adr n) (I.and (iLst K n fs))) : OpN K (fun xs H Q => ∃ p ys, xs = [.ref p] ∧ (SqL K H p ys ∨ SqT K H p ys) ∧ ∀ l, H l = none → Q (.ref l) (upd H l (.lst ys))) [d] I P := fun G H vs Q s hI ⟨v, r, e1, e2, e3⟩ q => by
  have k : ∃ a ws, v = .ref a ∧ (SqL K H a ws ∨ SqT K H a ws) ∧ Reps K G fs ws := by
    rcases hd with e | e | e <;> subst e
    · obtain ⟨a, ws, h1, h2, h3⟩ := e2
      exact ⟨a, ws, h1, .inl (SqL.of (s _ _ h2)), h3⟩
    · obtain ⟨a, ws, h1, h2, h3⟩ := e2
      exact ⟨a, ws, h1, .inl (sqL_mono s h2), h3⟩
    · obtain ⟨a, ws, h1, h2, h3⟩ := e2
      exact ⟨a, ws, h1, .inr (sqT_mono s h2), h3⟩
  obtain ⟨a, ws, h1, h2, h3⟩ := k
  refine ⟨a, ws, by rw [e1, h1, show r = [] from e3], h2, fun n hn => ?_⟩
  have hg : G n = none := s.free hn
  have na : ∀ a, ¬ (I.F a ∧ a = n) := fun a ha => hI.dom ha.1 (by rw [ha.2]; exact hn)
  exact q (.ref n) (.adr n) G _ (I.and (iLst K n fs)) (Same.refl G) (same_upd s hg) (Hd.mk2 (hI.newp hn) ⟨⟨_, upd_same, ws, rfl, h3⟩, fun a ha => by rw [show a = n from ha]; exact hg⟩ na) rfl (pp n na)
theorem s_setItem (c : Rc X.K) {j : Nat} (ho : PV X I o δ (.adr p)) (hi : PV X I b δ (.int i)) (he : PV X I e δ d) (hj : ixN ds.length i = some j) (q : κ.nx δ (c.fill (iLst X.K p (ds.set j d)))) {ps : Pos} (eI : I = c.fill (iLst X.K p ds) := by rfl)
    (hs : swapsWithSole [.Subscript o b ps] e pos.line X.env = pure false := by rfl) (hw : swappedStores [.Subscript o b ps] e X.env = pure none := by rfl) (h1 : (assignEach [.Subscript o b ps] X.env).map (·.2) = [assign (.Subscript o b ps) X.env] := by rfl)
    (hasg : ∀ v, assign (.Subscript o b ps) X.env v = (do
      let ov ← holding [v] (eval o X.env)
      let iv ← holding [v, ov] (eval b X.env)
      standAt ps
      holding [v, ov, iv] (setItem ov iv v)
      release [v, ov, iv] []) := by intro _; rfl) :
    S1 X W (.Assign [.Subscript o b ps] e pos) δ I κ := fun σ G H E hE s hI k => by
  subst eI
  exact PS.wp (ps_asg peC (pg_sub peC peC set_list (ha := hasg)) hs hw h1) (he W _ (fun z I1 => z = d ∧ I1 = c.fill (iLst X.K p ds)) ⟨rfl, rfl⟩ σ G H _ hE s hI (k.kx hE) fun v d1 G1 H1 I1 s1 t1 h1 r1 ⟨ed, ei⟩ => by
    subst ed ei
    refine ho W (κ.r δ) (fun z I1 => z = .adr p ∧ I1 = c.fill (iLst X.K p ds)) ⟨rfl, rfl⟩ σ G1 H1 _ (hE.mono s1) t1 h1 ((k.kx hE).mono s1) fun ov d2 G2 H2 I2 s2 t2 h2 r2 ⟨ed, ei⟩ => ?_
    subst ed ei
    refine hi W (κ.r δ) (fun z I1 => z = .int i ∧ I1 = c.fill (iLst X.K p ds)) ⟨rfl, rfl⟩ σ G2 H2 _ (hE.mono (s1.trans s2)) t2 h2 ((k.kx hE).mono (s1.trans s2)) fun iv d3 G3 H3 I3 s3 t3 h3 r3 ⟨ed, ei⟩ => ?_
    subst ed ei
    obtain ⟨vs, hp, rv, gp⟩ := h3.lst
    refine ⟨p, vs, i, j, r2, r3, hp, by rw [rv.length]; exact hj, ?_⟩
    exact k.nx δ σ G3 _ _ ((s1.trans s2).trans s3) (same_upd t3 gp) (h3.lstSet (rv.set ((r1.mono s2).mono s3))) (hE.mono ((s1.trans s2).trans s3)) q)
theorem s_append (c : Rc X.K) {apos ep : Pos} (ho : PV X I o δ (.adr p)) (hI0 : I = c.fill (iLst X.K p ds)) (h : EvX X W (κ.r δ) e δ I fun d I1 => I1 = c.fill (iLst X.K p ds) ∧ ds.length < 1000000 ∧ κ.nx δ (c.fill (iLst X.K p (ds ++ [d]))))
    (hbase : attributeBase o "append" X.env (eval o X.env) = eval o X.env := by rfl)
    (hfew : ((backTo pos (starEach [e] X.env)).all (fun x => !x.1) && (backToKw pos (keywordEach [] X.env)).all (fun x => x.1.isSome) && decide ([e].length + ([] : List Keyword).length + (if ([] : List Keyword).isEmpty then 0 else 1) < 30)) = true := by rfl)
    (hline : (apos.endLine == pos.line) = true := by rfl) (hst : starEach [e] X.env = (false, eval e X.env) :: starEach [] X.env := by rfl) (hpl : (backTo pos (starEach [] X.env)).any (·.1) = false := by rfl)
    (hs : swapsWith (.Call (.Attribute o "append" apos) [e] [] pos) none ep.line X.env = pure false := by rfl) : S1 X W (.Expr (.Call (.Attribute o "append" apos) [e] [] pos) ep) δ I κ := fun σ G H E hE s hI k =>
  PS.wp (ps_expr (pe_bm PySem.F.plainAttrs_list PySem.F.slot_list_append PySem.F.type_list_append mt_append peC (pa_cons peC pa_nil hst) hbase hfew hline hst hpl) hs) (ho W (κ.r δ) (fun z I1 => z = .adr p ∧ I1 = I) ⟨rfl, rfl⟩ σ G H _ hE s hI (k.kx hE) fun v d1 G1 H1 I1 s1 t1 h1 r1 ⟨ed, ei⟩ => by
    subst ed ei hI0
    obtain ⟨vs, hp, rv, gp⟩ := h1.lst
    obtain rfl : v = .ref p := r1
    refine ⟨.inl ⟨rfl, _, .inl (.inl hp)⟩, ?_⟩
    refine h σ G1 H1 _ (hE.mono s1) t1 h1 ((k.kx hE).mono s1) fun w d2 G2 H2 I2 s2 t2 h2 r2 ⟨ei, hz, nx⟩ => ?_
    subst ei
    obtain ⟨vs2, hp2, rv2, gp2⟩ := h2.lst
    refine ⟨p, vs2, w, rfl, rfl, hp2, by rw [rv2.length, sizeLine_eq]; omega, ?_⟩
    exact k.nx δ σ G2 _ _ (s1.trans s2) (same_upd t2 gp2) (h2.lstSet (rv2.append (Reps.one r2))) (hE.mono (s1.trans s2)) nx)
theorem freeze_lst {K : PySem.W.Frag} {I : Iv K} {G H : Hp} (s : Same G H) (h : Hd (I.and (iLst K p ds)) G H) : ∃ G', Same G G' ∧ Same G' H ∧ Hd I G' H ∧ Rep K G' (.lst ds) (.ref p) := by
  obtain ⟨o, ho, vs, ev, rv⟩ := h.right.ph
  subst ev
  have gp : G p = none := h.right.fr p rfl
  refine ⟨upd G p (.lst vs), Evl.Ex.new gp, same_freeze s ho, ⟨I.loc G _ H H (Evl.Ex.new gp) (fun _ _ => rfl) h.left.ph, fun a ha => ?_⟩, ⟨p, vs, rfl, upd_same, rv.mono (Evl.Ex.new gp)⟩⟩
  rw [upd_ne fun e => h.apart a ⟨ha, e⟩]
  exact h.left.fr a ha
end
def iDrC (K : PySem.W.Frag) (a b : Addr) (s k m : Int) (ns : List Int) : Iv K := (iLst K a [.int s, .adr b, .int k, .int m]).and (iLst K b (ns.map D.int))
def iDr (K : PySem.W.Frag) (a b : Addr) : Iv K where
  F := fun x => x = a ∨ x = b
  φ := fun G H => ∃ q : Int × Int × Int × List Int, (iDrC K a b q.1 q.2.1 q.2.2.1 q.2.2.2).φ G H ∧ q.2.2.2.length ≤ 63
  loc := fun G G' H H' s k ⟨q, h, hl⟩ => ⟨q, (iDrC K a b q.1 q.2.1 q.2.2.1 q.2.2.2).loc G G' H H' s k h, hl⟩
  dom := fun G H ⟨q, h, _⟩ x hx => (iDrC K a b q.1 q.2.1 q.2.2.1 q.2.2.2).dom G H h x hx
theorem iDr_of {K : PySem.W.Frag} {a b : Addr} {s k m : Int} {ns : List Int} (hl : ns.length ≤ 63) : Sub (iDrC K a b s k m ns) (iDr K a b) := ⟨fun _ => Iff.rfl, fun _ _ h => ⟨(s, k, m, ns), h, hl⟩⟩
theorem iDr_open {X : Cx} {W : WX} {a b : Addr} {sts : List Stmt} {δ : DEnv} {κ : Ko X.K} {c : Rc X.K} (h : ∀ s k m ns, ns.length ≤ 63 → SX X W sts δ (c.fill (iDrC X.K a b s k m ns)) κ) : SX X W sts δ (c.fill (iDr X.K a b)) κ := fun σ G H E hE s hI kk => by
  obtain ⟨⟨q, hq⟩, hx⟩ := Hd.opens (I := iDr X.K a b) (f := fun x : { q : Int × Int × Int × List Int // q.2.2.2.length ≤ 63 } => iDrC X.K a b x.1.1 x.1.2.1 x.1.2.2.1 x.1.2.2.2) (fun _ _ => Iff.rfl) (fun _ _ ⟨q, h, hl⟩ => ⟨⟨q, hl⟩, h⟩) hI
  exact h _ _ _ _ hq σ G H E hE s hx kk
def Ko.sub {K : PySem.W.Frag} (κ : Ko K) (I I' : Iv K) : Ko K := κ
end DL
set_option Elab.async false
set_option linter.all false
set_option maxRecDepth 100000
set_option maxHeartbeats 4000000
namespace DL
open PySem PySem.Spec PyProof.Rows L2

theorem FRep.of {K : PySem.W.Frag} {G : Hp} : ∀ {fs : List (Str × D)} {l : List (Str × V)}, FRep K G fs l → l.map (·.1) = fs.map (·.1) ∧ ∀ f d, fs.lookup f = some d → ∃ v, l.lookup f = some v ∧ Rep K G d v
  | [], l, h => by
    have e : l = [] := h
    subst e
    exact ⟨rfl, fun f d z => by cases z⟩
  | (x, d0) :: fs, l, ⟨v, r, e, r1, r2⟩ => by
    subst e
    obtain ⟨h1, h2⟩ := FRep.of r2
    refine ⟨by rw [List.map_cons, List.map_cons, h1], fun f d z => ?_⟩
    by_cases hf : f = x
    · subst hf
      simp [List.lookup] at z
      subst z
      exact ⟨v, by simp [List.lookup], r1⟩
    · have e : (f == x) = false := by simpa using hf
      simp only [List.lookup, e] at z ⊢
      exact h2 f d z
theorem FRep.mono {K : PySem.W.Frag} {G G' : Hp} (s : Same G G') : ∀ {fs : List (Str × D)} {l : List (Str × V)}, FRep K G fs l → FRep K G' fs l
  | [], _, h => h
  | _ :: _, _, ⟨v, r, e, r1, r2⟩ => ⟨v, r, e, r1.mono s, FRep.mono s r2⟩
def spXIC (C : Addr) (ks : List Str) : Sp := fun vs H Q _ => ∃ (a : Addr) (ws : List V), vs = .ref a :: ws ∧ ws.length = ks.length ∧ H a = some (exo a C none) ∧ ∀ (d : Addr) (H' : Hp), H d = none → d ≠ a → H' a = some (exo a C (some d)) → H' d = some (exd d (ks.zip ws).reverse) → (∀ b, b ≠ a → b ≠ d → H' b = H b) → Q .non H'
section
variable {X : Cx} {W : WX} {es : List Expr} {e : Expr} {δ : DEnv} {I : Iv X.K} {κ : Ko X.K} {pos p pos2 : Pos} {x : Str} {C fI : Addr} {fd : FuncData} {ps ks : List Str} {k : Nat}
theorem frep_zip {K : PySem.W.Frag} {G : Hp} : ∀ {ks : List Str} {ds : List D} {vs : List V}, Reps K G ds vs → ks.length = ds.length → FRep K G (ks.zip ds) (ks.zip vs)
  | [], _, _, _, _ => by simp [FRep]
  | k :: ks, [], _, _, h => by simp at h
  | k :: ks, d :: ds, _, ⟨v, r, e, r1, r2⟩, h => by
    subst e
    exact ⟨v, ks.zip r, rfl, r1, frep_zip r2 (by simpa using h)⟩
theorem frep_append {K : PySem.W.Frag} {G : Hp} : ∀ {fs gs : List (Str × D)} {l m : List (Str × V)}, FRep K G fs l → FRep K G gs m → FRep K G (fs ++ gs) (l ++ m)
  | [], _, l, m, h, t => by
    have e : l = [] := h
    subst e
    exact t
  | f :: fs, gs, l, m, ⟨v, r, e, r1, r2⟩, t => by
    subst e
    exact ⟨v, r ++ m, rfl, r1, frep_append r2 t⟩
theorem frep_rev {K : PySem.W.Frag} {G : Hp} : ∀ {fs : List (Str × D)} {l : List (Str × V)}, FRep K G fs l → FRep K G fs.reverse l.reverse
  | [], l, h => by
    have e : l = [] := h
    subst e
    exact rfl
  | f :: fs, l, ⟨v, r, e, r1, r2⟩ => by
    subst e
    rw [List.reverse_cons, List.reverse_cons]
    exact frep_append (frep_rev r2) ⟨v, [], rfl, r1, rfl⟩
theorem s_raise (tk : Takes X W) (T : OexC X.K C) (iC : PySem.W.findIn X.K (.ref C) "__init__" = some (some (.ref fI))) (tI : PySem.W.typeIn X.K (.ref fI) = some (.type "function"))
    (F1 : FnOk X.prog X.w X.K X.mg X.base (L2.CX X.prog X.w) k fI fd ps (spXIC C ks)) (hr : Room (k + 1) X.A) (hb : Binds X.K fd ps []) (hm : X.mg x = some (.ref C))
    (h : EvA X W (κ.r δ) (e :: es) δ I fun ds I1 => ks.length = ds.length ∧ ds.length ≤ 10 ∧ κ.ex C (ks.zip ds).reverse δ I1) (hc : X.calm = true := by rfl) (hg : Gl X x := by rfl) (hdb : (x == ("__debug__" : Str)) = false := by decide)
    (he : starEach (e :: es) X.env = (false, eval e X.env) :: starEach es X.env := by rfl) (hpl : (backTo pos (starEach es X.env)).any (·.1) = false := by rfl) : S1 X W (.Raise (some (.Call (.Name x p) (e :: es) [] pos)) none pos2) δ I κ := fun σ G H E hE s hI kk =>
  PS.wp (ps_raise hc tk (pmk_oex T iC tI F1 hr hb .nil passL hg hm paC hdb he hpl)) (h σ G H _ hE s hI (kk.kx hE) fun vs ds G1 H1 I1 s1 t1 h1 r1 ⟨hl, hz, xx⟩ => by
    refine ⟨by rw [r1.length]; omega, fun a ha => ?_⟩
    refine ⟨a, vs ++ [], rfl, by rw [List.append_nil, r1.length, hl], upd_same, fun d H2 hd hda e1 e2 e3 => ?_⟩
    rw [upd_ne hda] at hd
    refine ⟨rfl, d, _, e1, e2, hd, ?_⟩
    have eH : upd (L2.del H2 a) d (.xd (ks.zip (vs ++ [])).reverse) = upd H1 d (.xd (ks.zip (vs ++ [])).reverse) := by
      funext b
      by_cases hb : b = d
      · subst hb; rw [upd_same, upd_same]
      · rw [upd_ne hb, upd_ne hb]
        by_cases hba : b = a
        · subst hba; rw [del_same, ha]
        · rw [del_ne hba, e3 b hba hb, upd_ne hba]
    rw [eH]
    have gd : G1 d = none := t1.free hd
    refine kk.ex C d (ks.zip ds).reverse _ δ σ (upd G1 d (.xd (ks.zip (vs ++ [])).reverse)) _ I1 (s1.trans (Evl.Ex.new gd)) (same_upd2 t1) (h1.keep hd t1) (hE.mono (s1.trans (Evl.Ex.new gd))) ?_ upd_same xx
    rw [List.append_nil]
    exact (frep_rev (frep_zip r1 hl)).mono (Evl.Ex.new gd))
end
theorem frep_split {K : PySem.W.Frag} {G : Hp} : ∀ {fs : List (Str × D)} {l : List (Str × V)}, FRep K G fs l → l = (fs.map (·.1)).zip (l.map (·.2)) ∧ Reps K G (fs.map (·.2)) (l.map (·.2))
  | [], l, h => by
    have e : l = [] := h
    subst e
    exact ⟨rfl, rfl⟩
  | f :: fs, l, ⟨v, r, e, r1, r2⟩ => by
    subst e
    obtain ⟨h1, h2⟩ := frep_split r2
    refine ⟨?_, ⟨v, _, rfl, r1, h2⟩⟩
    show (f.1, v) :: r = (f.1, v) :: (fs.map (·.1)).zip (r.map (·.2))
    rw [← h1]
theorem lookup_zip {K : PySem.W.Frag} {G : Hp} {f : Str} {d : D} : ∀ {ks : List Str} {ds : List D} {vs : List V}, Reps K G ds vs → (ks.zip ds).lookup f = some d → ∃ v, (ks.zip vs).lookup f = some v ∧ Rep K G d v
  | [], _, _, _, h => by simp at h
  | k :: ks, [], _, _, h => by simp at h
  | k :: ks, d0 :: ds, _, ⟨v, r, e, r1, r2⟩, h => by
    subst e
    by_cases hk : f = k
    · subst hk
      simp [List.lookup] at h
      subst h
      exact ⟨v, by simp [List.lookup], r1⟩
    · have e : (f == k) = false := by simpa using hk
      simp only [List.zip_cons_cons, List.lookup, e] at h ⊢
      exact lookup_zip r2 h
section
variable {X : Cx} {I : Iv X.K} {δ : DEnv} {e : Expr} {pos : Pos} {d : D}
theorem pv_xf {a C dd : Addr} {oe : Obj} {pn : List (Addr × Obj)} {n : Str} {ks : List Str} {ds : List D} {I : Iv (X.suite a ((a, oe) :: pn)).K} (T : XfC X.K C) (hno : PySem.W.findIn X.K (.ref C) n = some none) (hz : Zc (.ref C) (some dd) oe) (hf : ∃ vs, oe.data = .fields vs)
    (he : PV (X.suite a ((a, oe) :: pn)) I e δ (.exc a C dd ks ds)) (hl : (ks.zip ds).lookup n = some d) (hb : attributeBase e n (X.suite a ((a, oe) :: pn)).env (eval e (X.suite a ((a, oe) :: pn)).env) = eval e (X.suite a ((a, oe) :: pn)).env := by rfl) : PV (X.suite a ((a, oe) :: pn)) I (.Attribute e n pos) δ d := fun W R P p σ G H Q hE s hI qx q =>
  PE.wp (pe_xf T hno hz hf peC hb) (he W R (fun z I1 => z = .exc a C dd ks ds ∧ I1 = I) ⟨rfl, rfl⟩ σ G H _ hE s hI qx fun v d1 G1 H1 I1 s1 t1 h1 r1 ⟨ed, ei⟩ => by
    subst ed ei
    obtain ⟨ev, vs, h2, h3⟩ := r1
    obtain ⟨u, h4, h5⟩ := lookup_zip h3 hl
    exact ⟨ev, rfl, dd, _, u, rfl, t1 _ _ h2, h4, q u d G1 H1 _ s1 t1 h1 h5 p⟩)
theorem s_try {W : WX} {κ : Ko X.K} {x n : Str} {c : Value} {i : Nat} {body suite : List Stmt} {b0 : Stmt} {np pos' : Pos} (tk : Takes X W) (hN : X.N.Nodup) (hc : Names X x c)
    (h : ∀ (W' : WX) (pn : List (Addr × Obj)) (xe : Value → Shared → Prop), Takes (X.tr pn xe) W' → PassesOwn (model X.prog X.w) X.A X.env xe → SX (X.tr pn xe) W' body δ I { κ with ex := fun C fs δ' I' => ∃ b, PySem.W.exmOne X.K (.ref C) c = some b ∧
      (b = true → ∀ (a dd : Addr) (oe : Obj) (pn : List (Addr × Obj)), Zc (.ref C) (some dd) oe → (∃ vs, oe.data = .fields vs) → SX (X.suite a ((a, oe) :: pn)) W0 (b0 :: suite) (δ'.set i (some (.exc a C dd (fs.map (·.1)) (fs.map (·.2))))) I'
        { nx := fun δ'' I'' => κ.nx (δ''.set i none) I'', rt := κ.rt, bk := fun δ'' I'' => κ.bk (δ''.set i none) I'', ct := fun δ'' I'' => κ.ct (δ''.set i none) I'' }) ∧ (b = false → κ.ex C fs δ' I') })
    (hi : X.N[i]? = some n := by rfl) (hln : X.env.kindOf n = some .local := by rfl) (hs : X.stack = X.env :: X.outer := by rfl) (hf : X.env.frame = some X.env.locals := by rfl) : S1 X W (.Try body [.ExceptHandler (some (.Name x np)) (some n) (b0 :: suite) pos'] [] [] pos) δ I κ := fun σ G H E hE s hI k =>
  PS.wp (ps_try_as (i := i) (tb := fun W' D σ H => ∀ pn xe, Takes (X.tr pn xe) W' → PassesOwn (model X.prog X.w) X.A X.env xe → wpB (X.tr pn xe) body D σ H)
    (ts := fun a cls d D σ H => ∀ oe pn, Zc cls d oe → (∃ vs, oe.data = .fields vs) → wpB (X.suite a ((a, oe) :: pn)) (b0 :: suite) D σ H) (Wout := W) hs hf hN hi hln hc tk
    (fun W' pn xe tk' po => ⟨fun pins s σ H D J q => (q pn xe tk' po).run pins s J⟩) (fun a oe cls d pn hz hf => ⟨fun pins s σ H D J q => (q oe pn hz hf).run pins s J⟩)) (by
    intro pn xe tk' po
    refine h _ pn xe tk' po σ G H E hE s hI ⟨k.nx, k.rt, k.bk, k.ct, ?_⟩
    rintro C dd fs l δ' σ' G' H' I' s1 t1 h1 e1 rf hd ⟨b, hb, yes, no⟩
    refine ⟨b, hb, fun e a ha oe pn hz hf => ?_, fun e => k.ex C dd fs l δ' σ' G' H' I' s1 t1 h1 e1 rf hd (no e)⟩
    obtain ⟨el, rl⟩ := frep_split rf
    refine yes e a dd oe pn hz hf _ G' H' _ (EnvR.set (v := .ref a) e1 ⟨rfl, l.map (·.2), by rw [← el]; exact hd, rl⟩) t1 h1 ⟨fun δ5 σ5 G5 H5 I5 s5 t5 h5 r5 p5 => k.nx _ _ G5 H5 I5 (s1.trans s5) t5 h5 (r5.drop none) p5, k.rt.mono s1, fun δ5 σ5 G5 H5 I5 s5 t5 h5 r5 p5 => k.bk _ _ G5 H5 I5 (s1.trans s5) t5 h5 (r5.drop none) p5, fun δ5 σ5 G5 H5 I5 s5 t5 h5 r5 p5 => k.ct _ _ G5 H5 I5 (s1.trans s5) t5 h5 (r5.drop none) p5, ?_⟩
    intro _ _ _ _ _ _ _ _ _ _ _ _ _ _ _ z
    exact z.elim)
end
end DL
set_option Elab.async false
set_option linter.all false
set_option maxRecDepth 100000
set_option maxHeartbeats 4000000
namespace DL
open PySem PySem.Spec PyProof.Rows L2

def ORep (K : PySem.W.Frag) (G : Hp) (os : List (Option D)) (vs : List (Option V)) : Prop := vs.length = os.length ∧ ∀ (i : Nat) (d : D), os[i]? = some (some d) → ∃ v, vs[i]? = some (some v) ∧ Rep K G d v
theorem ORep.mono {K : PySem.W.Frag} {G G' : Hp} {os : List (Option D)} {vs : List (Option V)} (s : Same G G') (h : ORep K G os vs) : ORep K G' os vs := ⟨h.1, fun i d e => by
  obtain ⟨v, h1, h2⟩ := h.2 i d e
  exact ⟨v, h1, h2.mono s⟩⟩
def iSl (K : PySem.W.Frag) (x C dx : Addr) (os : List (Option D)) : Iv K where
  F := fun a => a = x ∨ a = dx
  φ := fun G H => H dx ≠ none ∧ dx ≠ x ∧ ∃ vs, SlX.Slt H x C dx vs ∧ ORep K G os vs
  loc := fun G G' H H' s k ⟨h1, h0, vs, h2, h3⟩ => ⟨by rw [k dx (.inr rfl)]; exact h1, h0, vs, by
    have e1 := k x (.inl rfl)
    have e2 := k dx (.inr rfl)
    rcases h2 with ⟨q1, q2⟩ | ⟨q1, q2⟩
    · exact .inl ⟨by rw [e1]; exact q1, q2⟩
    · exact .inr ⟨by rw [e1]; exact q1, by rw [e2]; exact q2⟩, h3.mono s⟩
  dom := fun G H ⟨h1, _, vs, h2, _⟩ a ha => by
    rcases ha with e | e
    · subst e
      rcases h2 with ⟨q, _⟩ | ⟨q, _⟩ <;> rw [q] <;> simp
    · subst e
      exact h1
def putO (i : Nat) (d : D) (os : List (Option D)) : List (Option D) := (os ++ List.replicate (i + 1 - os.length) none).set i (some d)
theorem ORep.put {K : PySem.W.Frag} {G : Hp} {os : List (Option D)} {vs : List (Option V)} (h : ORep K G os vs) (i : Nat) {d : D} {v : V} (r : Rep K G d v) : ORep K G (putO i d os) (SlX.putS i v vs) := by
  unfold putO SlX.putS
  refine ⟨by simp [h.1], fun j e he => ?_⟩
  have hl : i < (os ++ List.replicate (i + 1 - os.length) none).length := by simp; omega
  by_cases hj : i = j
  · subst hj
    rw [List.getElem?_set_self hl] at he
    have e2 : d = e := by simpa using he
    subst e2
    exact ⟨v, List.getElem?_set_self (by simp; omega), r⟩
  · rw [List.getElem?_set_ne hj] at he
    by_cases ho : j < os.length
    · rw [List.getElem?_append_left ho] at he
      obtain ⟨w, h1, h2⟩ := h.2 j e he
      exact ⟨w, by rw [List.getElem?_set_ne hj, List.getElem?_append_left (by rw [h.1]; exact ho)]; exact h1, h2⟩
    · rw [List.getElem?_append_right (by omega), List.getElem?_replicate] at he
      split at he <;> cases he
section
variable {K : PySem.W.Frag} {G H : Hp} {x C dx : Addr} {os : List (Option D)} {c : Rc K} {I : Iv K}
theorem Hd.sl (h : Hd (c.fill (iSl K x C dx os)) G H) : ∃ vs, SlX.Slt H x C dx vs ∧ ORep K G os vs ∧ dx ≠ x ∧ G x = none ∧ G dx = none := by
  obtain ⟨_, h0, vs, h2, h3⟩ := h.inner.ph
  exact ⟨vs, h2, h3, h0, h.inner.fr x (.inl rfl), h.inner.fr dx (.inr rfl)⟩
theorem slH_same {vs : List (Option V)} (s : Same G H) (h1 : G x = none) (h2 : G dx = none) : Same G (SlX.slH H x C dx vs) := fun a u e => by
  rw [SlX.slH_ne (ne_of_none e h1) (ne_of_none e h2)]
  exact s a u e
theorem Hd.slSet {os' : List (Option D)} {vs' : List (Option V)} (h : Hd (c.fill (iSl K x C dx os)) G H) (r : ORep K G os' vs') : Hd (c.fill (iSl K x C dx os')) G (SlX.slH H x C dx vs') := by
  obtain ⟨_, h0, _⟩ := h.inner.ph
  refine Hd.change (I := iSl K x C dx os) (I' := iSl K x C dx os') (fun _ => Iff.rfl) (fun a ha => SlX.slH_ne (fun e => ha (.inl e)) (fun e => ha (.inr e))) ⟨⟨?_, h0, vs', SlX.slH_slt h0, r⟩, h.inner.fr⟩ h
  show SlX.slH H x C dx vs' dx ≠ none
  unfold SlX.slH
  rw [upd_ne h0, upd_same]
  simp
theorem freeze_sl {ds : List D} (s : Same G H) (h : Hd (I.and (iSl K x C dx (ds.map some))) G H) : ∃ G', Same G G' ∧ Same G' H ∧ Hd I G' H ∧ Rep K G' (.slo C ds) (.ref x) := by
  obtain ⟨hd, h0, vs, h2, h3⟩ := h.right.ph
  have gx : G x = none := h.right.fr x (.inl rfl)
  have gd : G dx = none := h.right.fr dx (.inr rfl)
  obtain ⟨ox, ex⟩ : ∃ o, H x = some o := by
    rcases h2 with ⟨q, _⟩ | ⟨q, _⟩ <;> exact ⟨_, q⟩
  obtain ⟨od, ed⟩ : ∃ o, H dx = some o := Option.ne_none_iff_exists'.mp hd
  have g2 : upd G dx od x = none := by rw [upd_ne (Ne.symm h0)]; exact gx
  have sA : Same G (upd (upd G dx od) x ox) := (Evl.Ex.new gd).trans (Evl.Ex.new g2)
  have sB : Same (upd (upd G dx od) x ox) H := same_freeze (same_freeze s ed) ex
  have slt : SlX.Slt (upd (upd G dx od) x ox) x C dx vs := by
    rcases h2 with ⟨q1, q2⟩ | ⟨q1, q2⟩
    · exact .inl ⟨by rw [upd_same, ← ex]; exact q1, q2⟩
    · exact .inr ⟨by rw [upd_same, ← ex]; exact q1, by rw [upd_ne h0, upd_same, ← ed]; exact q2⟩
  -- the slots as values
  have key : ∀ {ds : List D} {vs : List (Option V)}, ORep K G (ds.map some) vs → ∃ ws, vs = ws.map some ∧ Reps K G ds ws := by
    intro ds
    induction ds with
    | nil =>
      intro vs ⟨hl, _⟩
      have e : vs = [] := List.length_eq_zero_iff.mp (by simpa using hl)
      exact ⟨[], by rw [e]; rfl, rfl⟩
    | cons d ds ih =>
      intro vs ⟨hl, hg⟩
      cases vs with
      | nil => simp at hl
      | cons v vs =>
        obtain ⟨w, h1, h2⟩ := hg 0 d rfl
        obtain ⟨ws, e1, e2⟩ := ih (vs := vs) ⟨by simpa using hl, fun i e he => by
          obtain ⟨w, q1, q2⟩ := hg (i + 1) e (by simpa using he)
          exact ⟨w, by simpa using q1, q2⟩⟩
        have e3 : v = some w := by simpa using h1
        exact ⟨w :: ws, by rw [e3, e1]; rfl, ⟨w, ws, rfl, h2, e2⟩⟩
  obtain ⟨ws, e1, e2⟩ := key h3
  subst e1
  refine ⟨_, sA, sB, ⟨I.loc G _ H H sA (fun _ _ => rfl) h.left.ph, fun a ha => ?_⟩, ⟨x, dx, ws, rfl, slt, e2.mono sA⟩⟩
  rw [upd_ne fun e => h.apart a ⟨ha, .inl e⟩, upd_ne fun e => h.apart a ⟨ha, .inr e⟩]
  exact h.left.fr a ha
end
section
variable {X : Cx} {W : WX} {R : Rx X.K} {a b e o : Expr} {es : List Expr} {δ : DEnv} {I : Iv X.K} {P : D → Iv X.K → Prop} {pos q' p : Pos} {n : Str} {d z : D} {x C dx pd : Addr} {ds : List D} {os : List (Option D)} {i : Nat} {κ : Ko X.K}
theorem pv_sl (c : SlX.SCls X.K C) (t : SlX.Slot1 X.K C n pd i) (ho : PV X I o δ (.slo C ds)) (hd : ds[i]? = some d) (hb : attributeBase o n X.env (eval o X.env) = eval o X.env := by rfl) : PV X I (.Attribute o n pos) δ d := fun W R P p σ G H Q hE s hI qx q =>
  PE.wp (SlX.pe_sl peC hb) (ho W R (fun z I1 => z = .slo C ds ∧ I1 = I) ⟨rfl, rfl⟩ σ G H _ hE s hI qx fun v d1 G1 H1 I1 s1 t1 h1 r1 ⟨ed, ei⟩ => by
    subst ed ei
    obtain ⟨y, dy, vs, e1, e2, e3⟩ := r1
    obtain ⟨u, h2, h3⟩ := e3.get hd
    exact ⟨y, C, dy, pd, vs.map some, i, u, e1, slt_mono t1 e2, c, t, by rw [List.getElem?_map, h2]; rfl, q u d G1 H1 _ s1 t1 h1 h3 p⟩)
theorem s_slot (k : Rc X.K) (c : SlX.SCls X.K C) (t : SlX.Slot1 X.K C n pd i) (ho : PV X I o δ (.adr x)) (he : PV X I e δ d) (nx : κ.nx δ (k.fill (iSl X.K x C dx (putO i d os))))
    (hs : swapsWith e (some (.Attribute o n q')) pos.line X.env = pure false := by rfl) (eI : I = k.fill (iSl X.K x C dx os) := by rfl) : S1 X W (.Assign [.Attribute o n q'] e pos) δ I κ := fun σ G H E hE s hI kk => by
  subst eI
  exact PS.wp (SlX.ps_sl peC peC hs) (he W _ (fun z I1 => z = d ∧ I1 = k.fill (iSl X.K x C dx os)) ⟨rfl, rfl⟩ σ G H _ hE s hI (kk.kx hE) fun v d1 G1 H1 I1 s1 t1 h1 r1 ⟨ed, ei⟩ => by
    subst ed ei
    refine ho W (κ.r δ) (fun z I1 => z = .adr x ∧ I1 = k.fill (iSl X.K x C dx os)) ⟨rfl, rfl⟩ σ G1 H1 _ (hE.mono s1) t1 h1 ((kk.kx hE).mono s1) fun ov d2 G2 H2 I2 s2 t2 h2 r2 ⟨ed, ei⟩ => ?_
    subst ed ei
    obtain ⟨vs, h4, h5, h6, h7, h8⟩ := h2.sl
    exact ⟨x, C, dx, pd, vs, i, r2, h4, c, t, kk.nx δ σ G2 _ _ (s1.trans s2) (slH_same t2 h7 h8) (h2.slSet (h5.put i (r1.mono s2))) (hE.mono (s1.trans s2)) nx⟩)
structure wpK (X : Cx) (kws : List Keyword) (σ : L2.St) (H : Hp) (Q : List V → Hp → Prop) : Prop where
  run : ∀ (pos : Pos) (pins : List (Addr × Obj)) (s : Shared), Inv X pins σ H s → wpAny (model X.prog X.w) X.A (evalAll ((backToKw pos (keywordEach kws X.env)).map (·.2))) (AP X pins σ Q) X.xe s
def EvK (X : Cx) (W : WX) (R : Rx X.K) (kws : List Keyword) (δ : DEnv) (I : Iv X.K) (P : List D → Iv X.K → Prop) : Prop := ∀ (σ : L2.St) (G H : Hp) (Q : List V → Hp → Prop), EnvR X.K G δ σ → Same G H → Hd I G H → Kx X.K W σ G R → Ka X.K Q G P → wpK X kws σ H Q
theorem pkC {kws : List Keyword} : PK X kws (wpK X kws) := ⟨fun pos pins s σ H Q I h => h.run pos pins s I⟩
theorem ek_nil {PP : List D → Iv X.K → Prop} (p : PP [] I) : EvK X W R [] δ I PP := fun σ G H Q hE s hI qx q => ⟨fun pos pins s1 J => pk_nil.run pos pins s1 σ H Q J (q [] [] G H I (Same.refl G) s hI rfl p)⟩
theorem ek_cons {PP : List D → Iv X.K → Prop} {nm : Option Str} {kpos : Pos} {kws : List Keyword} (h : EvX X W R e δ I fun d I1 => EvK X W R kws δ I1 fun ds I2 => PP (d :: ds) I2) : EvK X W R (⟨nm, e, kpos⟩ :: kws) δ I PP := fun σ G H Q hE s hI qx q => ⟨fun pos pins s1 J =>
  (pk_cons peC pkC).run pos pins s1 σ H Q J (h σ G H _ hE s hI qx fun v d G1 H1 I1 s1 t1 h1 r1 k => k σ G1 H1 _ (hE.mono s1) t1 h1 (qx.mono s1) fun vs ds G2 H2 I2 s2 t2 h2 r2 k2 => q (v :: vs) (d :: ds) G2 H2 I2 (s1.trans s2) t2 h2 ⟨v, vs, rfl, r1.mono s2, r2⟩ k2)⟩
theorem ev_makeSl {x' : Str} {f : Addr} {fd : FuncData} {ps ks : List Str} {j m : Nat} {S : Spec X.K} {kws : List Keyword} {g : List Value → List Value → List Value} {gV : List V → List V → List V} (gD : List D → List D → List D) (tk : Takes X W) (M : Mk X.K C f) (F : FnOk X.prog X.w X.K X.mg X.base (L2.CX X.prog X.w) j f fd ps (spD X.K S))
    (hr : Room (j + 1) X.A) (hm : X.mg x' = some (.ref C)) (hb : KBn X.K fd ps (m + 1) ks g gV) (hgD : ∀ {G : Hp} {ds zs : List D} {vs ws : List V}, Reps X.K G ds vs → Reps X.K G zs ws → Reps X.K G (gD ds zs) (gV vs ws))
    (h : EvA X W R (e :: es) δ I fun ds I1 => EvK X W R kws δ I1 fun zs I2 => ds.length = m ∧ zs.length = ks.length ∧ ∀ y dy, (∀ a, ¬ (I2.F a ∧ (a = y ∨ a = dy))) → S (I2.and (iSl X.K y C dy [])) (gD (.adr y :: ds) zs)
      (fun v I3 => v = .non ∧ ∃ fs : List D, I3 = I2.and (iSl X.K y C dy (fs.map some)) ∧ P (.slo C fs) I2) (fun C' fs I3 => ∃ os, I3 = I2.and (iSl X.K y C dy os) ∧ R C' fs I2))
    (hg : Gl X x' := by rfl) (hdb : (x' == ("__debug__" : Str)) = false := by decide) (hall : (backToKw pos (keywordEach kws X.env)).all (·.1.isSome) = true := by rfl) (hks : (backToKw pos (keywordEach kws X.env)).filterMap (·.1) = ks := by rfl)
    (he : starEach (e :: es) X.env = (false, eval e X.env) :: starEach es X.env := by rfl) (hpl : ((backTo pos (starEach (e :: es) X.env)).any (·.1) || (backToKw pos (keywordEach kws X.env)).any (·.1.isNone)) = false := by rfl) : EvX X W R (.Call (.Name x' p) (e :: es) kws pos) δ I P := fun σ G H Q hE s hI qx q => ⟨fun pins s0 J0 => by
  refine wpAny_Call_Name_kw (ld_glob J0 hg hm ?_ hdb)
  refine PySem.W.callWith_KW (h₀ := X.base) J0.ok.mod.kin M.kp hall ?_ hpl he
  refine thn ((h σ G H (fun vs H1 => ∀ (st : Shared) (us : List Value), Inv X pins σ H1 st → Vals vs us → wpAny (model X.prog X.w) X.A (evalAll ((backToKw pos (keywordEach kws X.env)).map (·.2)))
    (fun ws st2 => X.K.In st2.heap ∧ wpAny (model X.prog X.w) X.A (call (.ref C) us (((backToKw pos (keywordEach kws X.env)).filterMap (·.1)).zip ws)) (EP X pins σ Q) X.xe st2) X.xe st) hE s hI qx ?_).run pos pins s0 J0) fun us s1 ⟨vs, H1, J1, rv, z⟩ => z s1 us J1 rv
  intro vs ds G1 H1 I1 s1 t1 h1 r1 k st1 us J1 rv
  refine thn ((k σ G1 H1 (fun zs H2 => ∀ (st : Shared) (ws : List Value), Inv X pins σ H2 st → Vals zs ws → X.K.In st.heap ∧ wpAny (model X.prog X.w) X.A (call (.ref C) us (((backToKw pos (keywordEach kws X.env)).filterMap (·.1)).zip ws)) (EP X pins σ Q) X.xe st)
    (hE.mono s1) t1 h1 (qx.mono s1) ?_).run pos pins st1 J1) fun ws s2 ⟨zs, H2, J2, rz, z⟩ => z s2 ws J2 rz
  intro zs dz G2 H2 I2 s2 t2 h2 r2 ⟨hn, hk, hS⟩ st2 ws J2 rz
  refine ⟨J2.kIn, ?_⟩
  rw [hks]
  have J3 := Inv.made (C := C) J2
  have nd : H2 st2.heap.objs.size = none := J2.hok.fresh (Nat.le_refl _)
  have ny : H2 (st2.heap.objs.size + 1) = none := J2.hok.fresh (Nat.le_succ _)
  have dn : st2.heap.objs.size ≠ st2.heap.objs.size + 1 := Nat.ne_of_lt (Nat.lt_succ_self _)
  have rs : Vals (V.ref (st2.heap.objs.size + 1) :: vs) (Value.ref (st2.heap.objs.size + 1) :: us) := .cons rfl rv
  have rel := hb.rel rs rz
  have gd : G2 st2.heap.objs.size = none := t2.free nd
  have gy : G2 (st2.heap.objs.size + 1) = none := t2.free ny
  have ny2 : upd H2 st2.heap.objs.size (.own (st2.heap.objs.size + 1)) (st2.heap.objs.size + 1) = none := by rw [upd_ne (Ne.symm dn)]; exact ny
  have na : ∀ a, ¬ (I2.F a ∧ (a = st2.heap.objs.size + 1 ∨ a = st2.heap.objs.size)) := fun a ha => ha.2.elim (fun e => h2.dom ha.1 (by rw [e]; exact ny)) (fun e => h2.dom ha.1 (by rw [e]; exact nd))
  have hd3 : Hd (I2.and (iSl X.K (st2.heap.objs.size + 1) C st2.heap.objs.size [])) G2 (upd (upd H2 st2.heap.objs.size (.own (st2.heap.objs.size + 1))) (st2.heap.objs.size + 1) (.ins C st2.heap.objs.size [])) := by
    refine Hd.mk2 ((h2.newp nd).newp ny2) ⟨⟨by rw [upd_ne dn, upd_same]; simp, dn, [], .inl ⟨upd_same, rfl⟩, rfl, fun i d z => by simp at z⟩, fun a ha => ?_⟩ na
    rcases ha with e | e
    · subst e; exact gy
    · subst e; exact gd
  refine wpAny_call (make_map (f := f) J2.kIn M.makes M.init (beq_iff_eq.mp M.fn) (codeAny_mono (F.run _ X.stack _ _ ⟨Value.ref (st2.heap.objs.size + 1) :: us, ks.zip ws⟩ _ _ (fun v H3 => v = .non ∧ Q (.ref (st2.heap.objs.size + 1)) H3) (WE W σ) (hr.make C us (ks.zip ws))
    (J3.env0.make C us (ks.zip ws)) (hb.to _ _ ws J3.kIn ?_ ?_) rel ⟨_, G2, gD (.adr (st2.heap.objs.size + 1) :: ds) dz, _, _, same_upd (same_upd t2 gd) gy, hd3, hgD (.cons rfl (r1.mono s2)) r2, hS _ _ na, ?_, ?_⟩) fun r s' hq => ?_))
  · rw [List.length_cons, ← rv.length, r1.length, hn]
  · rw [← rz.length, r2.length, hk]
  · intro v d G' H' I' s3 t3 h3 r3 ⟨ed, fs, eI, pp⟩
    subst ed eI
    obtain ⟨G4, s4, t4, h4, r4⟩ := freeze_sl t3 h3
    exact ⟨r3, q (.ref _) (.slo C fs) G4 H' I2 ((s1.trans s2).trans (s3.trans s4)) t4 h4 r4 pp⟩
  · intro C' dd fs l G' H' I' s3 t3 h3 r3 hx ⟨os, eI, pp⟩
    subst eI
    exact qx C' dd fs l G' H' I2 ((s1.trans s2).trans s3) t3 h3.left r3 hx pp
  · cases r with
    | error e => exact passAt tk σ pins _ _ e s' J3 hq
    | ok fl =>
      cases fl with
      | ret u =>
        obtain ⟨v, H', J4, rv', ev, q3⟩ := J3.after hq
        subst ev
        exact ⟨rv', ⟨V.ref (st2.heap.objs.size + 1), H', J4, rfl, q3⟩⟩
      | next => exact False.elim hq
      | brk => exact False.elim hq
      | cont => exact False.elim hq⟩
end
end DL
set_option Elab.async false
set_option linter.all false
set_option maxRecDepth 100000
set_option maxHeartbeats 4000000
namespace DL
open PySem PySem.Spec PyProof.Rows L2

def Rc.comp {K : PySem.W.Frag} : Rc K → Rc K → Rc K
  | .here, c' => c'
  | .l c J, c' => .l (c.comp c') J
  | .r J c, c' => .r J (c.comp c')
theorem fill_comp {K : PySem.W.Frag} {I : Iv K} (c' : Rc K) : ∀ c : Rc K, (c.comp c').fill I = c.fill (c'.fill I)
  | .here => rfl
  | .l c J => by show ((c.comp c').fill I).and J = _; rw [fill_comp c' c]; rfl
  | .r J c => by show J.and ((c.comp c').fill I) = _; rw [fill_comp c' c]; rfl
theorem Sub.trans {K : PySem.W.Frag} {I J L : Iv K} (a : Sub I J) (b : Sub J L) : Sub I L := ⟨fun x => (b.F x).trans (a.F x), fun G H h => b.φ G H (a.φ G H h)⟩
theorem Sub.assoc {K : PySem.W.Frag} {I J L : Iv K} : Sub ((I.and J).and L) (I.and (J.and L)) := ⟨fun a => ⟨fun h => h.elim (fun z => .inl (.inl z)) fun z => z.elim (fun z => .inl (.inr z)) .inr, fun h => h.elim (fun z => z.elim .inl fun z => .inr (.inl z)) fun z => .inr (.inr z)⟩,
  fun G H h => ⟨h.1.1, ⟨h.1.2.1, h.2.1, fun a ha => h.2.2 a ⟨.inr ha.1, ha.2⟩⟩, fun a ha => ha.2.elim (fun z => h.1.2.2 a ⟨ha.1, z⟩) fun z => h.2.2 a ⟨.inl ha.1, z⟩⟩⟩
theorem Sub.comm {K : PySem.W.Frag} {I J : Iv K} : Sub (I.and J) (J.and I) := ⟨fun a => ⟨Or.symm, Or.symm⟩, fun G H h => ⟨h.2.1, h.1, fun a ha => h.2.2 a ⟨ha.2, ha.1⟩⟩⟩
section
variable {X : Cx} {W : WX} {R : Rx X.K} {a b e o : Expr} {es : List Expr} {sts : List Stmt} {st : Stmt} {δ : DEnv} {I I' : Iv X.K} {P P' : D → Iv X.K → Prop} {pos p : Pos} {d z : D} {x' : Str} {κ : Ko X.K}
theorem EvX.sub (s : Sub I I') (h : EvX X W R e δ I' P) : EvX X W R e δ I P := fun σ G H Q hE sm hI qx q => h σ G H Q hE sm (hI.sub s) qx q
theorem SX.sub (s : Sub I I') (h : SX X W sts δ I' κ) : SX X W sts δ I κ := fun σ G H E hE sm hI k => h σ G H E hE sm (hI.sub s) k
theorem EvX.reg (h : EvX X W R e δ I P') (k : ∀ d I', P' d I' → ∃ I'', Sub I' I'' ∧ P d I'') : EvX X W R e δ I P := fun σ G H Q hE sm hI qx q => h σ G H Q hE sm hI qx fun v d G' H' I' s1 s2 h1 r p => by
  obtain ⟨I'', s3, p'⟩ := k d I' p
  exact q v d G' H' I'' s1 s2 (h1.sub s3) r p'
theorem SX.eq (e : I = I') (h : SX X W sts δ I' κ) : SX X W sts δ I κ := e ▸ h
theorem ev_lstMM (h : EvA X W R es δ I fun ds I1 => ds.length ≤ 1000 ∧ ∀ p, (∀ a, ¬ (I1.F a ∧ a = p)) → P (.adr p) (I1.and (iLst X.K p ds))) : EvX X W R (.List es pos) δ I P := fun σ G H Q hE s hI qx q =>
  PE.wp (pe_lst paC) (h σ G H _ hE s hI qx fun vs ds G1 H1 I1 s1 t1 h1 r1 ⟨hl, hp⟩ => ⟨by rw [r1.length, sizeLine_eq]; omega, fun p hq => by
    have hg : G1 p = none := t1.free hq
    have na : ∀ a, ¬ (I1.F a ∧ a = p) := fun a ha => h1.dom ha.1 (by rw [ha.2]; exact hq)
    exact q (.ref p) (.adr p) G1 _ (I1.and (iLst X.K p ds)) s1 (same_upd t1 hg) (Hd.mk2 (h1.newp hq) ⟨⟨_, upd_same, vs, rfl, r1⟩, fun a ha => by rw [show a = p from ha]; exact hg⟩ na) rfl (hp p na)⟩)
theorem pv_gint {i : Int} (hm : ∃ t, X.mg x' = some (.int i t)) (hg : Gl X x' := by rfl) (hdb : (x' == ("__debug__" : Str)) = false := by decide) : PV X I (.Name x' pos) δ (.int i) := by
  obtain ⟨t, ht⟩ := hm
  exact pv_g (v := .int i) ht ⟨t, rfl⟩ (fun _ => rfl) hg hdb
theorem pv_gstr {w : Str} (hm : ∃ t, X.mg x' = some (.str w t)) (hg : Gl X x' := by rfl) (hdb : (x' == ("__debug__" : Str)) = false := by decide) : PV X I (.Name x' pos) δ (.str w) := by
  obtain ⟨t, ht⟩ := hm
  exact pv_g (v := .str w) ht ⟨t, rfl⟩ (fun _ => rfl) hg hdb
structure GTup (K : PySem.W.Frag) (mg : Str → Option Value) (x : Str) (ds : List D) : Prop where
  ex : ∃ a vs, mg x = some (.ref a) ∧ flatDs ds = some vs ∧ ∀ G, SqT K G a vs
theorem reps_flat {K : PySem.W.Frag} {G : Hp} : ∀ {ds : List D} {vs : List V}, flatDs ds = some vs → Reps K G ds vs
  | [], vs, h => by
    have e : ([] : List V) = vs := Option.some.inj h
    rw [← e]
    exact rfl
  | d :: ds, vs, h => by
    unfold flatDs at h
    cases h1 : flatD d with
    | none => rw [h1] at h; cases h
    | some u =>
      cases h2 : flatDs ds with
      | none => rw [h1, h2] at h; cases h
      | some us =>
        rw [h1, h2] at h
        have e := Option.some.inj h
        rw [← e]
        refine ⟨u, us, rfl, ?_, reps_flat h2⟩
        cases d <;> first | (cases h1; rfl) | cases h1
theorem pv_gtup {ds : List D} (hm : GTup X.K X.mg x' ds) (hg : Gl X x' := by rfl) (hdb : (x' == ("__debug__" : Str)) = false := by decide) : PV X I (.Name x' pos) δ (.tup ds) := by
  obtain ⟨a, vs, h1, h2, h3⟩ := hm.ex
  exact pv_g (v := .ref a) h1 rfl (fun G => ⟨a, vs, rfl, h3 G, reps_flat h2⟩) hg hdb
end
theorem str_or (d : D) {t : String} (h : tyD d = some t) : (∃ s, d = .str s) ∨ (kitB t "str" = some false ∧ ∀ s, d ≠ .str s) := by
  cases d with
  | str s => exact .inl ⟨s, rfl⟩
  | non => cases h; exact .inr ⟨by decide +kernel, fun s z => nomatch z⟩
  | bl b => cases h; exact .inr ⟨by decide +kernel, fun s z => nomatch z⟩
  | int i => cases h; exact .inr ⟨by decide +kernel, fun s z => nomatch z⟩
  | tup _ => cases h; exact .inr ⟨by decide +kernel, fun s z => nomatch z⟩
  | lst _ => cases h; exact .inr ⟨by decide +kernel, fun s z => nomatch z⟩
  | lsf _ => cases h; exact .inr ⟨by decide +kernel, fun s z => nomatch z⟩
  | dic _ _ => cases h; exact .inr ⟨by decide +kernel, fun s z => nomatch z⟩
  | _ => cases h
def sMix {K : PySem.W.Frag} (m : Int) : Spec K := fun I ds P _ => ∃ (ns : List Int) (seed : Int), ds = [.lsf (ns.map D.int), .int seed] ∧ ns.length ≤ 63 ∧ ∀ a b, P (.adr a) (I.and (iDr K a b))
def sNext {K : PySem.W.Frag} : Spec K := fun I ds P _ => ∃ (a b : Addr) (c : Rc K) (n : Int), ds = [.adr a, .int n] ∧ I = c.fill (iDr K a b) ∧ 0 < n ∧ n < 1000000000 ∧ ∀ k : Int, 0 ≤ k → k < n → P (.int k) I
end DL
namespace DL
open PySem PySem.Spec PyProof.Rows L2
section
variable {X : Cx} {W : WX} {R : Rx X.K} {elt tg iter c : Expr} {ifs : List Expr} {scope : Scope} {δ : DEnv} {I : Iv X.K} {pos : Pos} {ds : List D}
theorem take_snoc {α : Type} {l : List α} {i : Nat} {x : α} (h : l[i]? = some x) : l.take (i + 1) = l.take i ++ [x] := by
  have hl := (List.getElem?_eq_some_iff.mp h).1
  rw [List.take_succ, h]
  rfl
theorem m_more (f : D → D) {i : Nat} {d : D} {ys : List D} (hd : ds[i]? = some d) (e : ys = (ds.take i).map f) : ys ++ [f d] = (ds.take (i + 1)).map f := by
  rw [take_snoc hd, List.map_append, ← e]
  rfl
theorem m_end (f : D → D) {ys : List D} (e : ys = (ds.take ds.length).map f) : ys = ds.map f := by
  rw [List.take_length] at e
  exact e
theorem pv_lcMap (f : D → D) (own : List (Str × Nat)) (δ' : D → DEnv) (hi : PVI X I tg iter δ ds) (hz : ds.length ≤ 1000000)
    (hb : ∀ (d : D) (s : Shared) (H : Hp) (C : Addr) (cl : List (Str × Addr)) (fp : List Addr), BindD (X.blk s H scope (compEnvC scope cl C X.env) fp) tg d (wipeD δ (own.map (·.2))) (δ' d) (own.map (·.2)))
    (he : ∀ d, d ∈ ds → ∀ (J : Iv X.K) (s : Shared) (H : Hp) (C : Addr) (cl : List (Str × Addr)) (fp : List Addr), PV (X.blk s H scope (compEnvC scope cl C X.env) fp) (I.and J) elt (δ' d) (f d))
    (hN : X.N.Nodup := by assumption) (ok : blkC X.N X.env.scope scope own = true := by rfl)
    (hc : X.calm = true := by rfl) (hs : ∀ x, foldedSetIterable iter X.env x = pure x := by intro _; rfl) : PV X I (.ListComp elt [⟨tg, iter, [], 0⟩] scope pos) δ (.lst (ds.map f)) := fun W R P p =>
  ev_lc own hN (blkOk_by ok) (hi W R _ ⟨hz, fun i ys => ys = (ds.take i).map f, δ', rfl, fun i d ys hd e => ⟨fun b => b = true, fun J s H C cl fp => ⟨hb d s H C cl fp, ets_nil ⟨rfl, rfl⟩⟩, fun _ J s H C cl fp => he d (List.mem_of_getElem? hd) J s H C cl fp _ _ _ ⟨rfl, m_more f hd e⟩, fun e2 => nomatch (show false = true from e2)⟩, fun ys e => m_end f e ▸ p⟩) hc hs
end
theorem pn_isiT {K : PySem.W.Frag} {I : Iv K} {d : D} {t u : String} (h : tyD d = some t) (hb : kitB t u = some true := by decide +kernel) : PN K I (rIsi K) [d, .ty u] (.bl true) := pn_isi h hb
theorem pn_isiF {K : PySem.W.Frag} {I : Iv K} {d : D} {t u : String} (h : tyD d = some t) (hb : kitB t u = some false) : PN K I (rIsi K) [d, .ty u] (.bl false) := pn_isi h hb
end DL
namespace DL
open PySem PySem.Spec PyProof.Rows L2
section
variable {X : Cx} {W : WX} {a b c : Expr} {rest : List Expr} {sts els : List Stmt} {δ : DEnv} {I : Iv X.K} {pos : Pos} {κ : Ko X.K}
theorem ww_orT (h : PVT X I a δ true) : PVW X I (.BoolOp .Or (a :: b :: rest) pos) δ true := fun W R P p => ew_or (h W R _ p)
theorem ww_orF {k : Bool} (h : PVT X I a δ false) (h2 : PVW X I (.BoolOp .Or (b :: rest) pos) δ k) : PVW X I (.BoolOp .Or (a :: b :: rest) pos) δ k := fun W R P p => ew_or (h W R _ (h2 W R P p))
theorem pv_andF (h : PV X I a δ (.bl false)) : PV X I (.BoolOp .And (a :: b :: rest) pos) δ (.bl false) := pv_and h (fun z => nomatch z) fun _ => rfl
theorem pv_andT {z : D} (h : PV X I a δ (.bl true)) (h2 : PV X I (.BoolOp .And (b :: rest) pos) δ z) : PV X I (.BoolOp .And (a :: b :: rest) pos) δ z := pv_and h (fun _ => h2) fun z => nomatch z
theorem s_ifT (h : PVT X I c δ true) (h1 : SX X W sts δ I κ) : S1 X W (.If c sts els pos) δ I κ := s_ifP h (fun _ => h1) fun z => nomatch z
theorem s_ifF (h : PVT X I c δ false) (h1 : SX X W els δ I κ) : S1 X W (.If c sts els pos) δ I κ := s_ifP h (fun z => nomatch z) fun _ => h1
end
end DL
set_option Elab.async false
set_option linter.all false
set_option maxRecDepth 100000
set_option maxHeartbeats 4000000
namespace DL
open PySem PySem.Spec PyProof.Rows L2

def oeB (K : PySem.W.Frag) (C : Addr) : Bool := (match K.lookup C with
  | some ⟨.type "type", _, .cls cd, sl⟩ => (match cd.mro, sl.toList with
    | .ref C' :: bm, [_, _, _, _, some (.builtin n), _] => C' == C && n == "ValueError.__new__" && !cd.hasDel && cd.hasDict && HandSPX.refsVE bm
    | _, _ => false)
  | _ => false) && He.eqO (PySem.W.findIn K (.ref C) "__setattr__") (some (some (.builtin "object.__setattr__"))) && decide (PySem.W.subIn K (.ref C) (.type "BaseException") = some true) && decide (PySem.W.typeIn K (.ref C) = some (.type "type")) && PySem.W.keepIn K (.ref C)
theorem oeB_ok {K : PySem.W.Frag} {C : Addr} (h : oeB K C = true) : OexC K C := by
  unfold oeB at h
  obtain ⟨h, h5⟩ := Bool.and_eq_true_iff.mp h
  obtain ⟨h, h4⟩ := Bool.and_eq_true_iff.mp h
  obtain ⟨h, h3⟩ := Bool.and_eq_true_iff.mp h
  obtain ⟨h1, h2⟩ := Bool.and_eq_true_iff.mp h
  refine ⟨?_, He.eqO_ok h2, of_decide_eq_true h3, of_decide_eq_true h4, h5⟩
  split at h1
  · rename_i dd cd sl e
    split at h1
    · rename_i C' bm k0 k1 k2 k3 n k5 em es
      simp only [Bool.and_eq_true, beq_iff_eq, Bool.not_eq_true'] at h1
      obtain ⟨⟨⟨⟨e1, e2⟩, e3⟩, e4⟩, e5⟩ := h1
      obtain ⟨nm, bs, mro, ns, qn, hd, sn, sb, ab, col, del⟩ := cd
      dsimp only at em e3 e4
      subst e1 e2 e3 e4 em
      have esl : sl = #[k0, k1, k2, k3, some (.builtin "ValueError.__new__"), k5] := by
        apply Array.ext'
        rw [es]
      subst esl
      exact ⟨_, _, _, _, bm, _, _, _, _, _, _, _, _, _, _, e, e5⟩
    · cases h1
  · cases h1
def scB (K : PySem.W.Frag) (C : Addr) : Bool := PySem.W.plainGet K C Str.empty && PySem.W.isClsIn K C && PySem.W.plainOver K C && He.eqO (PySem.W.findIn K (.ref C) "__setattr__") (some (some (.builtin "object.__setattr__")))
theorem scB_ok {K : PySem.W.Frag} {C : Addr} (h : scB K C = true) : SlX.SCls K C := by
  obtain ⟨h, h4⟩ := Bool.and_eq_true_iff.mp h
  obtain ⟨h, h3⟩ := Bool.and_eq_true_iff.mp h
  obtain ⟨h1, h2⟩ := Bool.and_eq_true_iff.mp h
  exact ⟨h1, h2, h3, He.eqO_ok h4⟩
def slB (K : PySem.W.Frag) (C : Addr) (f : Str) (i : Nat) : Bool := He.eqO (PySem.W.findIn K (.ref C) f) (some (some (.ref (He.ma K C f)))) && He.eqO (PySem.W.specialIn K (.ref (He.ma K C f)) "__get__") (some (some (.builtin "member_descriptor.__get__"))) &&
  decide (PySem.W.takesIn K (.ref (He.ma K C f)) = some true) && decide (PySem.W.typeIn K (.ref (He.ma K C f)) = some (.type "member_descriptor")) && decide (PySem.W.slotIn K (He.ma K C f) C = some i) && decide (i < 1000)
theorem slB_ok {K : PySem.W.Frag} {C : Addr} {f : Str} {i : Nat} (h : slB K C f i = true) : SlX.Slot1 K C f (He.ma K C f) i := by
  obtain ⟨h, h6⟩ := Bool.and_eq_true_iff.mp h
  obtain ⟨h, h5⟩ := Bool.and_eq_true_iff.mp h
  obtain ⟨h, h4⟩ := Bool.and_eq_true_iff.mp h
  obtain ⟨h, h3⟩ := Bool.and_eq_true_iff.mp h
  obtain ⟨h1, h2⟩ := Bool.and_eq_true_iff.mp h
  exact ⟨He.eqO_ok h1, He.eqO_ok h2, of_decide_eq_true h3, of_decide_eq_true h4, of_decide_eq_true h5, of_decide_eq_true h6⟩
structure TExc (K : PySem.W.Frag) (mg : Str → Option Value) (x : Str) : Prop where
  g : mg x = some (.ref (He.ga K x))
  oe : OexC K (He.ga K x)
  iC : PySem.W.findIn K (.ref (He.ga K x)) "__init__" = some (some (.ref (He.ma K (He.ga K x) "__init__")))
  tI : PySem.W.typeIn K (.ref (He.ma K (He.ga K x) "__init__")) = some (.type "function")
def exB (K : PySem.W.Frag) (x : Str) : Bool := He.eqO (PySem.W.nsIn K mainGlobals x) (some (some (.ref (He.ga K x)))) && oeB K (He.ga K x) && He.eqO (PySem.W.findIn K (.ref (He.ga K x)) "__init__") (some (some (.ref (He.ma K (He.ga K x) "__init__")))) && decide (PySem.W.typeIn K (.ref (He.ma K (He.ga K x) "__init__")) = some (.type "function"))
theorem exB_ok {K : PySem.W.Frag} {h : Heap} {mg : Str → Option Value} (X : K.In h) (G : h.Ns mainGlobals mg) {x : Str} (q : exB K x = true) : TExc K mg x := by
  obtain ⟨q, h4⟩ := Bool.and_eq_true_iff.mp q
  obtain ⟨q, h3⟩ := Bool.and_eq_true_iff.mp q
  obtain ⟨h1, h2⟩ := Bool.and_eq_true_iff.mp q
  exact ⟨PySem.W.mg_of X G (He.eqO_ok h1), oeB_ok h2, He.eqO_ok h3, of_decide_eq_true h4⟩
theorem gtup_of {K : PySem.W.Frag} {h : Heap} {mg : Str → Option Value} (X : K.In h) (G : h.Ns mainGlobals mg) {x : Str} {ds : List D} {vs : List He.Dv} (q : He.tupB K x vs = true) (g : He.eqO (PySem.W.nsIn K mainGlobals x) (some (some (.ref (He.ga K x)))) = true) (e : flatDs ds = some (vs.map (He.Dv.v K))) : GTup K mg x ds :=
  ⟨_, _, PySem.W.mg_of X G (He.eqO_ok g), e, fun H => He.tupB_ok q H⟩
theorem flatDs_str : ∀ ws : List Str, flatDs (ws.map D.str) = some (ws.map V.str)
  | [] => rfl
  | w :: ws => by
    have ih := flatDs_str ws
    show (match flatD (D.str w), flatDs (ws.map D.str) with | some v, some vs => some (v :: vs) | _, _ => none) = _
    rw [ih]
    rfl
theorem inV_str (s : Str) : ∀ ws : List Str, inV (.str s) (ws.map V.str) = decide (s ∈ ws)
  | [] => by simp [inV]
  | w :: ws => by
    have ih := inV_str s ws
    unfold inV at ih ⊢
    rw [List.map_cons, List.any_cons, ih]
    show (w == s || decide (s ∈ ws)) = decide (s ∈ w :: ws)
    by_cases h : w = s
    · subst h; simp
    · have h2 : ¬ s = w := fun e => h e.symm
      simp [h, h2]
theorem allflat_str (ws : List Str) : (ws.map V.str).all flatV = true := by
  rw [List.all_map]
  exact List.all_eq_true.mpr fun _ _ => rfl
theorem p2_inStr {K : PySem.W.Frag} {I : Iv K} {s : Str} {ws : List Str} : P2 K I (rIn K false) (.str s) (.tup (ws.map D.str)) (.bl (decide (s ∈ ws))) :=
  p2_in rfl (flatDs_str ws) rfl (allflat_str ws) (by rw [if_neg Bool.false_ne_true]; exact inV_str s ws) (.inr rfl)
theorem p2_ninStr {K : PySem.W.Frag} {I : Iv K} {s : Str} {ws : List Str} : P2 K I (rIn K true) (.str s) (.tup (ws.map D.str)) (.bl (!decide (s ∈ ws))) :=
  p2_in rfl (flatDs_str ws) rfl (allflat_str ws) (by rw [if_pos rfl, inV_str s ws]) (.inr rfl)
theorem p2_inStrL {K : PySem.W.Frag} {I : Iv K} {s : Str} {ws : List Str} : P2 K I (rIn K false) (.str s) (.lst (ws.map D.str)) (.bl (decide (s ∈ ws))) :=
  p2_in rfl (flatDs_str ws) rfl (allflat_str ws) (by rw [if_neg Bool.false_ne_true]; exact inV_str s ws) (.inl rfl)
theorem p2_ninStrL {K : PySem.W.Frag} {I : Iv K} {s : Str} {ws : List Str} : P2 K I (rIn K true) (.str s) (.lst (ws.map D.str)) (.bl (!decide (s ∈ ws))) :=
  p2_in rfl (flatDs_str ws) rfl (allflat_str ws) (by rw [if_pos rfl, inV_str s ws]) (.inl rfl)
end DL
namespace DL
open PySem PySem.Spec PyProof.Rows L2
structure Def (P : Program) (w : World) (K : PySem.W.Frag) (mg : Str → Option Value) (base : Heap) (x : Str) (k : Nat) (ps : List Str) (dds : List D) (S : Spec K) : Prop where
  ex : ∃ (f : Addr) (fd : FuncData) (dvs : List V) (us : List Value), mg x = some (.ref f) ∧ PySem.W.keepIn K (.ref f) = true ∧ FnOk P w K mg base (L2.CX P w) k f fd ps (spD K S) ∧ L2.Binds K fd ps us ∧ Vals dvs us ∧ ∀ G, Reps K G dds dvs
section
variable {P : Program} {w : World} {K : PySem.W.Frag} {mg : Str → Option Value} {base : Heap} {x qual : Str} {params : Arguments} {body : List Stmt} {scope : Scope} {f : Addr} {fd : FuncData} {ps : List Str} {k : Nat} {S : Spec K}
theorem Def.of (g : mg x = some (.ref f)) (F : FunD K x qual params body scope [] [] f fd) (ok : FnOk P w K mg base (L2.CX P w) k f fd ps (spD K S))
    (h : ∀ (kV doc pm : Value) (an : Option Addr) (cdv ct : Value) (us : List Value), us.length = ps.length → bindArgs (PySem.W.fnOf x qual params body scope .none kV doc pm an cdv ct) ⟨us, []⟩ = pure (ps.zip us)) : Def P w K mg base x k ps [] S :=
  ⟨f, fd, [], [], g, F.kp, ok, F.bindsN h, .nil, fun _ => rfl⟩
end
section
variable {X : Cx} {W : WX} {R : Rx X.K} {e : Expr} {es : List Expr} {δ : DEnv} {I : Iv X.K} {P : D → Iv X.K → Prop} {pos p : Pos} {x : Str} {ps : List Str} {k : Nat} {S : Spec X.K} {dds : List D} {ds : List D} {d : D}
theorem ev_def (tk : Takes X W) (F : Def X.prog X.w X.K X.mg X.base x k ps dds S) (hr : Room k X.A) (h : EvA X W R (e :: es) δ I fun ds I1 => S I1 (ds ++ dds) P R) (hg : Gl X x := by rfl) (hdb : (x == ("__debug__" : Str)) = false := by decide)
    (he : starEach (e :: es) X.env = (false, eval e X.env) :: starEach es X.env := by rfl) (hpl : (backTo pos (starEach es X.env)).any (·.1) = false := by rfl) : EvX X W R (.Call (.Name x p) (e :: es) [] pos) δ I P := by
  obtain ⟨f, fd, dvs, us, g, kp, ok, b, v, r⟩ := F.ex
  exact ev_callD tk ok hr g kp b v r h hg hdb he hpl
theorem pv_def (F : Def X.prog X.w X.K X.mg X.base x k ps dds S) (hr : Room k X.A) (ha : PVA X I (e :: es) δ ds) (hS : ∀ (P : D → Iv X.K → Prop), P d I → S I (ds ++ dds) P (fun _ _ _ => False)) (hg : Gl X x := by rfl) (hdb : (x == ("__debug__" : Str)) = false := by decide)
    (he : starEach (e :: es) X.env = (false, eval e X.env) :: starEach es X.env := by rfl) (hpl : (backTo pos (starEach es X.env)).any (·.1) = false := by rfl) : PV X I (.Call (.Name x p) (e :: es) [] pos) δ d := by
  obtain ⟨f, fd, dvs, us, g, kp, ok, b, v, r⟩ := F.ex
  exact pv_callD ok hr g kp b v r ha hS hg hdb he hpl
end
end DL
namespace DL
open PySem PySem.Spec PyProof.Rows L2
section
variable {X : Cx} {W : WX} {R : Rx X.K} {e : Expr} {es : List Expr} {δ : DEnv} {I : Iv X.K} {P : D → Iv X.K → Prop} {d : D} {ds : List D}
theorem PV.ev (h : PV X I e δ d) (p : P d I) : EvX X W R e δ I P := h W R P p
theorem PVA.ev {P : List D → Iv X.K → Prop} (h : PVA X I es δ ds) (p : P ds I) : EvA X W R es δ I P := h W R P p
theorem PVT.ev {P : Bool → Iv X.K → Prop} {b : Bool} (h : PVT X I e δ b) (p : P b I) : EvT X W R e δ I P := h W R P p
end
end DL
namespace DL
open PySem PySem.Spec PyProof.Rows L2
section
variable {X : Cx} {W : WX} {R : Rx X.K} {e : Expr} {es : List Expr} {δ : DEnv} {I : Iv X.K} {P : D → Iv X.K → Prop} {d : D} {ds : List D}
theorem ev_reg (h : EvX X W R e δ I fun d I' => ∃ I'', Sub I' I'' ∧ P d I'') : EvX X W R e δ I P := EvX.reg h fun _ _ z => z
theorem iDr_of2 {K : PySem.W.Frag} {J : Iv K} {a b : Addr} {s k m : Int} {ns : List Int} (hl : ns.length ≤ 63) : Sub ((J.and (iLst K b (ns.map D.int))).and (iLst K a [.int s, .adr b, .int k, .int m])) (J.and (iDr K a b)) :=
  Sub.assoc.trans (Sub.andR (Sub.comm.trans (iDr_of hl)))
end
end DL
set_option Elab.async false
set_option linter.all false
set_option maxRecDepth 100000
set_option maxHeartbeats 4000000
namespace DL
open PySem PySem.Spec PyProof.Rows L2

theorem str_ext {s t : Str} (h : s.cps.toList = t.cps.toList) : s = t := by
  obtain ⟨a⟩ := s
  obtain ⟨b⟩ := t
  exact congrArg Str.mk (Array.ext' h)
theorem str_app (s t : Str) : (s ++ t).cps.toList = s.cps.toList ++ t.cps.toList := by
  show (s.cps ++ t.cps).toList = _
  simp
theorem str_len (s : Str) : s.length = s.cps.toList.length := by
  show s.cps.size = _
  simp
def one (c : Nat) : Str := ⟨#[c]⟩
theorem join_ones (e : Str) (he : e.cps.toList = []) : ∀ cs : List Nat, Txt.join e (cs.map one) = ⟨cs.toArray⟩ := by
  intro cs
  rw [TL.join_eq]
  induction cs with
  | nil => rfl
  | cons c cs ih =>
    cases cs with
    | nil => rfl
    | cons d ds =>
      have e1 : Str.join e ((c :: d :: ds).map one) = one c ++ e ++ Str.join e ((d :: ds).map one) := by
        first
          | rfl
          | (simp only [List.map_cons, Str.join]; rfl)
      rw [e1, ih]
      apply str_ext
      rw [str_app, str_app, he]
      show [c] ++ [] ++ _ = _
      simp
section
variable {X : Cx} {W : WX} {R : Rx X.K} {e e0 e1 : Expr} {es : List Expr} {δ : DEnv} {I : Iv X.K} {P : D → Iv X.K → Prop} {d : D} {ds : List D} {pos p : Pos} {a b : Addr} {n k : Int} {K : PySem.W.Frag}
theorem o2_ixL {K : PySem.W.Frag} {I : Iv K} {P : D → Iv K → Prop} {ds : List D} {k : Int} (h0 : 0 ≤ k) (h1 : k < ds.length) (hp : ∀ d ∈ ds, P d I) : Op2 K (rIxL K) (.lst ds) (.int k) I P := by
  obtain ⟨j, rfl⟩ : ∃ j : Nat, k = j := ⟨k.toNat, by omega⟩
  have hj : j < ds.length := by omega
  exact p2_ixL (d := ds[j]) (by unfold atI ixN; rw [if_pos h0, if_pos h1]; simp [hj]) P (hp _ (List.getElem_mem hj))
theorem ev_next {x : Str} (tk : Takes X W) (F : Def X.prog X.w X.K X.mg X.base x 1 ["_law_h", "_law_bound"] [] sNext) (hr : Room 1 X.A) (c : Rc X.K) (h0 : PV X I e0 δ (.adr a)) (h1 : EvX X W R e1 δ I fun d I1 => ∃ n, d = .int n ∧ I1 = I ∧ 0 < n ∧ n < 1000000000 ∧ ∀ k : Int, 0 ≤ k → k < n → P (.int k) I) (eI : I = c.fill (iDr X.K a b))
    (hg : Gl X x := by rfl) (hdb : (x == ("__debug__" : Str)) = false := by decide)
    (he : starEach [e0, e1] X.env = (false, eval e0 X.env) :: starEach [e1] X.env := by rfl) (he2 : starEach [e1] X.env = (false, eval e1 X.env) :: starEach [] X.env := by rfl) (hpl : (backTo pos (starEach [e1] X.env)).any (·.1) = false := by rfl) : EvX X W R (.Call (.Name x p) [e0, e1] [] pos) δ I P :=
  ev_def tk F hr (ea_cons (h0.ev (ea_cons (h1.imp fun d I1 ⟨n, ed, ei, n0, n1, k⟩ => by
    subst ed
    rw [ei]
    exact ea_nil ⟨a, b, c, n, rfl, eI, n0, n1, k⟩) he2)) he) hg hdb he hpl
theorem ev_nextP {x : Str} (tk : Takes X W) (F : Def X.prog X.w X.K X.mg X.base x 1 ["_law_h", "_law_bound"] [] sNext) (hr : Room 1 X.A) (c : Rc X.K) (h0 : PV X I e0 δ (.adr a)) (h1 : PV X I e1 δ (.int n)) (eI : I = c.fill (iDr X.K a b)) (hn : 0 < n ∧ n < 1000000000) (k : ∀ k : Int, 0 ≤ k → k < n → P (.int k) I)
    (hg : Gl X x := by rfl) (hdb : (x == ("__debug__" : Str)) = false := by decide)
    (he : starEach [e0, e1] X.env = (false, eval e0 X.env) :: starEach [e1] X.env := by rfl) (he2 : starEach [e1] X.env = (false, eval e1 X.env) :: starEach [] X.env := by rfl) (hpl : (backTo pos (starEach [e1] X.env)).any (·.1) = false := by rfl) : EvX X W R (.Call (.Name x p) [e0, e1] [] pos) δ I P :=
  ev_next tk F hr c h0 (h1.ev ⟨n, rfl, rfl, hn.1, hn.2, k⟩) eI hg hdb he he2 hpl
end
end DL
set_option Elab.async false
set_option linter.all false
set_option maxRecDepth 100000
set_option maxHeartbeats 4000000
namespace DL
open PySem PySem.Spec PyProof.Rows L2
section
variable {X : Cx} {W : WX} {R : Rx X.K} {st : Stmt} {rest sts els : List Stmt} {δ : DEnv} {I : Iv X.K} {κ : Ko X.K} {c a b : Expr} {pos : Pos} {PB : Bool → Iv X.K → Prop}
theorem s_consI (Nv : DEnv → Iv X.K → Prop) (h : S1 X W st δ I { κ with nx := Nv }) (k : ∀ δ' I', Nv δ' I' → SX X W rest δ' I' κ) : SX X W (st :: rest) δ I κ :=
  s_cons (S1.imp h (fun δ' I' p => k δ' I' p) (fun _ _ z => z) (fun _ _ z => z) (fun _ _ z => z) (fun _ _ _ _ z => z))
end
def xcB (K : PySem.W.Frag) (C : Addr) : Bool := He.eqO (PySem.W.findIn K (.ref C) "__getattribute__") (some (some (.builtin "BaseException.__getattribute__"))) && He.eqO (PySem.W.findIn K (.ref C) "__getattr__") (some none) && decide (PySem.W.subIn K (.ref C) (.type "BaseException") = some true) && PySem.W.hasDictIn K C &&
  He.eqO (PySem.W.findIn K (.ref C) "__class__") (some (some (.builtin "object.__class__"))) && He.eqO (PySem.W.specialIn K (.builtin "object.__class__") "__get__") (some (some (.builtin "getset_descriptor.__get__"))) && decide (PySem.W.takesIn K (.builtin "object.__class__") = some true) && decide (PySem.W.mroIn K C (.type "object") = some true)
theorem xcB_ok {K : PySem.W.Frag} {C : Addr} (h : xcB K C = true) : ExcC K C := by
  obtain ⟨h, h8⟩ := Bool.and_eq_true_iff.mp h
  obtain ⟨h, h7⟩ := Bool.and_eq_true_iff.mp h
  obtain ⟨h, h6⟩ := Bool.and_eq_true_iff.mp h
  obtain ⟨h, h5⟩ := Bool.and_eq_true_iff.mp h
  obtain ⟨h, h4⟩ := Bool.and_eq_true_iff.mp h
  obtain ⟨h, h3⟩ := Bool.and_eq_true_iff.mp h
  obtain ⟨h1, h2⟩ := Bool.and_eq_true_iff.mp h
  exact ⟨He.eqO_ok h1, He.eqO_ok h2, of_decide_eq_true h3, h4, He.eqO_ok h5, He.eqO_ok h6, of_decide_eq_true h7, of_decide_eq_true h8⟩
structure TXf (K : PySem.W.Frag) (C : Addr) : Prop where
  xf : XfC K C
  xc : ExcC K C
def txB (K : PySem.W.Frag) (C : Addr) : Bool := xfB K C && xcB K C
theorem txB_ok {K : PySem.W.Frag} {C : Addr} (h : txB K C = true) : TXf K C := by
  obtain ⟨h1, h2⟩ := Bool.and_eq_true_iff.mp h
  exact ⟨xfB_ok h1, xcB_ok h2⟩
theorem namesG {X : Cx} {x : Str} {c : Value} (hm : X.mg x = some c) (hg : Gl X x := by rfl) (hdb : (x == ("__debug__" : Str)) = false := by decide) : Names X x c := ⟨hg, hdb, .inl hm⟩
end DL
set_option Elab.async false
set_option linter.all false
set_option maxRecDepth 100000
set_option maxHeartbeats 4000000
namespace DL
open PySem PySem.Spec PyProof.Rows L2
section
variable {X : Cx} {W : WX} {R : Rx X.K} {e e0 e1 l : Expr} {es : List Expr} {δ : DEnv} {I : Iv X.K} {P : D → Iv X.K → Prop} {PB : Bool → Iv X.K → Prop} {d : D} {ds : List D} {pos p ps : Pos} {a b : Addr} {n k m : Int} {x : Str} {c : Rc X.K} {κ : Ko X.K} {sts els : List Stmt}
theorem ev_pick (tk : Takes X W) (F : Def X.prog X.w X.K X.mg X.base x 1 ["_law_h", "_law_bound"] [] sNext) (hr : Room 1 X.A) (c : Rc X.K) (hl : PV X I l δ (.lst ds)) (h0 : PV X I e0 δ (.adr a)) (h1 : EvX X W R e1 δ I fun d I1 => ∃ n : Int, d = .int n ∧ I1 = I ∧ 0 < n ∧ n < 1000000000 ∧ n ≤ ds.length) (eI : I = c.fill (iDr X.K a b)) (k : ∀ d ∈ ds, P d I)
    (hg : Gl X x := by rfl) (hdb : (x == ("__debug__" : Str)) = false := by decide)
    (he : starEach [e0, e1] X.env = (false, eval e0 X.env) :: starEach [e1] X.env := by rfl) (he2 : starEach [e1] X.env = (false, eval e1 X.env) :: starEach [] X.env := by rfl) (hpl : (backTo pos (starEach [e1] X.env)).any (·.1) = false := by rfl) (hs : PlainIx (.Call (.Name x p) [e0, e1] [] pos) := by exact fun _ _ => rfl) : EvX X W R (.Subscript l (.Call (.Name x p) [e0, e1] [] pos) ps) δ I P :=
  ev_ix ix_list (hl.ev (ev_next tk F hr c h0 (h1.imp fun d I1 ⟨n, ed, ei, n0, n1, n2⟩ => ⟨n, ed, ei, n0, n1, fun k' k0 k1 => o2_ixL k0 (by omega) k⟩) eI hg hdb he he2 hpl)) hs
end
end DL
set_option Elab.async false
set_option linter.all false
set_option maxRecDepth 100000
set_option maxHeartbeats 4000000
namespace DL
open PySem PySem.Spec PyProof.Rows L2
def sLaw {K : PySem.W.Frag} : Spec K := fun I ds P R => ∃ ns : List Int, ds = [.lsf (ns.map D.int)] ∧ ns.length ≤ 63 ∧ ∀ I', P (.bl true) I'
theorem repsInt {K : PySem.W.Frag} {G : Hp} : ∀ ns : List Int, Reps K G (ns.map D.int) (ns.map V.int)
  | [] => rfl
  | n :: ns => ⟨.int n, ns.map V.int, rfl, rfl, repsInt ns⟩
theorem sp_law {K : PySem.W.Frag} {H : Hp} {a : Addr} {ns : List Int} (hl : ns.length ≤ 63) (hS : SqL K H a (ns.map V.int)) : spD K sLaw [.ref a] H (fun v _ => v = .bl true) (fun _ _ _ => False) :=
  ⟨iEmp K, H, [.lsf (ns.map D.int)], fun d _ => d = .bl true, fun _ _ _ => False, Same.refl H, Hd.emp, ⟨.ref a, [], rfl, ⟨a, _, rfl, hS, repsInt ns⟩, rfl⟩, ⟨ns, rfl, hl, fun _ => rfl⟩, fun v d _ _ _ _ _ _ r e => by subst e; exact r, fun _ _ _ _ _ _ _ _ _ _ _ _ z => z⟩
theorem cx0 {P : Program} {w : World} {H : Hp} {s s' : Shared} {e : Value} (z : L2.CX P w [] H s (fun _ _ _ => False) e s') : False := by
  obtain ⟨_, _, _, _, _, _, _, _, _, _, _, _, h⟩ := z
  exact h
section
variable {X : Cx} {W : WX} {st : Stmt} {rest : List Stmt} {κ : Ko X.K}
end
end DL
set_option Elab.async false
set_option linter.all false
set_option maxRecDepth 100000
set_option maxHeartbeats 1000000
namespace DL
open PySem PySem.Spec PyProof.Rows L2

mutual
def pyD : D → PyData
  | .bl b => .bool b
  | .int i => .int i
  | .str s => .str s
  | .tup ds => .tuple (pyDs ds)
  | .lst ds => .list (pyDs ds)
  | .lsf ds => .list (pyDs ds)
  | _ => .none
def pyDs : List D → List PyData
  | [] => []
  | d :: ds => pyD d :: pyDs ds
end
mutual
def okPy : D → Bool
  | .non => true
  | .bl _ => true
  | .int _ => true
  | .str _ => true
  | .tup ds => okPys ds
  | .lst ds => okPys ds
  | .lsf ds => okPys ds
  | _ => false
def okPys : List D → Bool
  | [] => true
  | d :: ds => okPy d && okPys ds
end
mutual
theorem dp_of {K : PySem.W.Frag} {G H : Hp} (s : Same G H) : ∀ {d : D} {v : V}, okPy d = true → Rep K G d v → Dp K H v (pyD d)
  | .non, _, _, r => by rw [show _ = V.non from r]; exact .non
  | .bl b, _, _, r => by rw [show _ = V.bl b from r]; exact .bl b
  | .int i, _, _, r => by rw [show _ = V.int i from r]; exact .int i
  | .str x, _, _, r => by rw [show _ = V.str x from r]; exact .str x
  | .tup ds, _, h, ⟨a, vs, e1, e2, e3⟩ => by rw [e1]; exact .tup (sqT_mono s e2) (dps_of s h e3)
  | .lst ds, _, h, ⟨a, vs, e1, e2, e3⟩ => by rw [e1]; exact .lst (SqL.of (s _ _ e2)) (dps_of s h e3)
  | .lsf ds, _, h, ⟨a, vs, e1, e2, e3⟩ => by rw [e1]; exact .lst (sqL_mono s e2) (dps_of s h e3)
  | .ty _, _, h, _ => by cases h
  | .adr _, _, h, _ => by cases h
  | .slo _ _, _, h, _ => by cases h
  | .exc _ _ _ _ _, _, h, _ => by cases h
  | .dic _ _, _, h, _ => by cases h
  | .tub _, _, h, _ => by cases h
theorem dps_of {K : PySem.W.Frag} {G H : Hp} (s : Same G H) : ∀ {ds : List D} {vs : List V}, okPys ds = true → Reps K G ds vs → DpAll K H vs (pyDs ds)
  | [], _, _, r => by rw [show _ = [] from r]; exact .nil
  | d :: ds, _, h, ⟨v, r, e1, e2, e3⟩ => by
    have h2 : (okPy d && okPys ds) = true := h
    obtain ⟨ha, hb⟩ := Bool.and_eq_true_iff.mp h2
    rw [e1]
    exact .cons (dp_of s ha e2) (dps_of s hb e3)
end
def okEq (d : D) : Bool := okPy d && SeqAt.shaped (pyD d)
section
variable {K : PySem.W.Frag} {I : Iv K} {x y z d : D}
theorem p2_eqD (hx : okEq x = true) (hy : okEq y = true) : P2 K I (rEqD K) x y (.bl (PyData.eqv (pyD x) (pyD y))) := fun P p G H v w Q s hI r1 r2 q => by
  obtain ⟨a1, a2⟩ := Bool.and_eq_true_iff.mp hx
  obtain ⟨b1, b2⟩ := Bool.and_eq_true_iff.mp hy
  exact ⟨_, _, dp_of s a1 r1, dp_of s b1 r2, a2, b2, q _ (.bl _) G H I (Same.refl G) s hI rfl p⟩
theorem p2_neD (hx : okEq x = true) (hy : okEq y = true) : P2 K I (rNeD K) x y (.bl (!PyData.eqv (pyD x) (pyD y))) := fun P p G H v w Q s hI r1 r2 q => by
  obtain ⟨a1, a2⟩ := Bool.and_eq_true_iff.mp hx
  obtain ⟨b1, b2⟩ := Bool.and_eq_true_iff.mp hy
  exact ⟨_, _, dp_of s a1 r1, dp_of s b1 r2, a2, b2, q _ (.bl _) G H I (Same.refl G) s hI rfl p⟩
end
structure PropC (K : PySem.W.Frag) (C : Addr) (f : Str) (p g : Addr) : Prop where
  at_ : PySem.W.findIn K (.ref C) f = some (some (.ref p))
  get : PySem.W.specialIn K (.ref p) "__get__" = some (some (.builtin "property.__get__"))
  tk : PySem.W.takesIn K (.ref p) = some true
  rc : ∃ rest, PySem.W.recIn K p "property" = some (.ref g :: rest)
def gtr (K : PySem.W.Frag) (C : Addr) (f : Str) : Addr := match PySem.W.recIn K (He.ma K C f) "property" with
  | some (.ref g :: _) => g
  | _ => 0
def prB (K : PySem.W.Frag) (C : Addr) (f : Str) : Bool := He.eqO (PySem.W.findIn K (.ref C) f) (some (some (.ref (He.ma K C f)))) && He.eqO (PySem.W.specialIn K (.ref (He.ma K C f)) "__get__") (some (some (.builtin "property.__get__"))) && decide (PySem.W.takesIn K (.ref (He.ma K C f)) = some true) &&
  (match PySem.W.recIn K (He.ma K C f) "property" with
  | some (.ref g :: _) => true
  | _ => false)
theorem prB_ok {K : PySem.W.Frag} {C : Addr} {f : Str} (h : prB K C f = true) : PropC K C f (He.ma K C f) (gtr K C f) := by
  obtain ⟨h, h4⟩ := Bool.and_eq_true_iff.mp h
  obtain ⟨h, h3⟩ := Bool.and_eq_true_iff.mp h
  obtain ⟨h1, h2⟩ := Bool.and_eq_true_iff.mp h
  refine ⟨He.eqO_ok h1, He.eqO_ok h2, of_decide_eq_true h3, ?_⟩
  unfold gtr
  split at h4
  · rename_i g r e
    rw [e]
    exact ⟨r, rfl⟩
  · cases h4
def siB (K : PySem.W.Frag) (C : Addr) : Bool := He.eqO (PySem.W.findIn K (.ref C) "__class__") (some (some (.builtin "object.__class__"))) && He.eqO (PySem.W.specialIn K (.builtin "object.__class__") "__get__") (some (some (.builtin "getset_descriptor.__get__"))) && decide (PySem.W.takesIn K (.builtin "object.__class__") = some true) && decide (PySem.W.mroIn K C (.type "object") = some true)
theorem siB_ok {K : PySem.W.Frag} {C : Addr} (h : siB K C = true) : SlX.SIsi K C := by
  obtain ⟨h, h4⟩ := Bool.and_eq_true_iff.mp h
  obtain ⟨h, h3⟩ := Bool.and_eq_true_iff.mp h
  obtain ⟨h1, h2⟩ := Bool.and_eq_true_iff.mp h
  exact ⟨He.eqO_ok h1, He.eqO_ok h2, of_decide_eq_true h3, of_decide_eq_true h4⟩
abbrev F0 {K : PySem.W.Frag} : Rx K := fun _ _ _ => False
theorem cxF {P : Program} {w : World} {outer : List Env} {H : Hp} {s s' : Shared} {e : Value} (z : L2.CX P w outer H s (fun _ _ _ => False) e s') : False := by
  obtain ⟨_, _, _, _, _, _, _, _, _, _, _, _, h⟩ := z
  exact h
theorem spD_of {K : PySem.W.Frag} {S : Spec K} {I : Iv K} {G H : Hp} {ds : List D} {vs : List V} {Q : VK} {P : D → Iv K → Prop} (s : Same G H) (h : Hd I G H) (r : Reps K G ds vs) (k : S I ds P F0) (q : Kv K Q G P) : spD K S vs H Q (fun _ _ _ => False) :=
  ⟨I, G, ds, P, F0, s, h, r, k, q, fun _ _ _ _ _ _ _ _ _ _ _ _ z => z⟩
section
variable {X : Cx} {W : WX} {R : Rx X.K} {I : Iv X.K} {e a b : Expr} {δ : DEnv} {pos : Pos} {C p g : Addr} {f : Str} {n : Nat} {S : Spec X.K} {fs : List D} {d d2 : D} {P : D → Iv X.K → Prop}
theorem pv_prop (c : SlX.SCls X.K C) (pr : PropC X.K C f p g) (F : FnR X.prog X.w X.K X.mg X.base (L2.CX X.prog X.w) n g (spD X.K S)) (hr : Room (n + 1) X.A) (he : PV X I e δ (.slo C fs)) (hS : ∀ P : D → Iv X.K → Prop, P d I → S I [.slo C fs] P F0)
    (hb : attributeBase e f X.env (eval e X.env) = eval e X.env := by rfl) : PV X I (.Attribute e f pos) δ d := fun W R P pp σ G H Q hE s hI qx q =>
  PE.wp (SlX.pe_propSl (E := fun _ _ _ => False) peC c pr.at_ pr.get pr.tk pr.rc F hr (fun _ _ _ _ z => cxF z) hb) (he W R (fun z I1 => z = .slo C fs ∧ I1 = I) ⟨rfl, rfl⟩ σ G H _ hE s hI qx fun v d1 G1 H1 I1 s1 t1 h1 r1 ⟨ed, ei⟩ => by
    subst ed ei
    obtain ⟨a, dx, vs, e1, e2, e3⟩ := r1
    exact ⟨a, dx, vs.map some, e1, slt_mono t1 e2, spD_of (ds := [.slo C fs]) t1 h1 ⟨.ref a, [], rfl, ⟨a, dx, vs, rfl, e2, e3⟩, rfl⟩ (hS P pp) (q.mono s1)⟩)
theorem takesPF : Passes (L2.CX X.prog X.w) X (fun _ _ _ => False) := fun _ _ _ _ _ _ _ z => (cxF z).elim
end
section
variable {K : PySem.W.Frag} {I : Iv K} {C T : Addr} {fs : List D} {d : D} {b : Bool}
end
end DL
set_option Elab.async false
set_option linter.all false
set_option maxRecDepth 100000
set_option maxHeartbeats 4000000
namespace DL
open PySem PySem.Spec PyProof.Rows L2
def pAd (K : PySem.W.Frag) (p : Str × Option Str) : Addr := gtr K (He.ga K p.1) (p.2.getD Str.empty)
def fnP (K : PySem.W.Frag) (p : Str × Option Str) : He.FnW := match K.lookup (pAd K p) with
  | some ⟨_, _, .func fd, _⟩ => some (fd.name, fd.qualname, fd.params, fd.body, fd.scope, fd.globals, fd.closure, fd.builtins)
  | _ => none
def okP (K : PySem.W.Frag) (d : He.DefD) : Bool := PySem.W.keepIn K (.ref (pAd K d.at_)) && (match K.lookup (pAd K d.at_) with
  | some ⟨_, _, .func fd, _⟩ => PySem.W.codeIn K fd.code d.qual && (He.dflB K fd.defaults (d.dvs K) && He.kwdB K fd.kwdefaults (d.kws K))
  | _ => false)
theorem funP {K : PySem.W.Frag} {d : He.DefD} (e : fnP K d.at_ = d.val) (c : okP K d = true) : ∃ fd, FunD K d.name d.qual d.params d.body d.scope (d.dvs K) (d.kws K) (pAd K d.at_) fd := by
  obtain ⟨kp, c2⟩ := He.ba c
  unfold fnP at e
  cases q : K.lookup (pAd K d.at_) with
  | none =>
    rw [q] at c2
    cases c2
  | some o =>
    obtain ⟨oc, od, dt, osl⟩ := o
    rw [q] at c2 e
    cases dt with
    | func fd =>
      obtain ⟨n1, n2, n3, n4, n5, n6, n7, n8, n9, n10, n11, n12, n13, n14, n15⟩ := fd
      have e2 : (some (n1, n2, n3, n4, n5, n6, n7, n15) : He.FnW) = some (d.name, d.qual, d.params, .stmts d.body, d.scope, mainGlobals, [], builtinsNs) := e
      simp only [Option.some.injEq, Prod.mk.injEq] at e2
      obtain ⟨h1, h2, h3, h4, h5, h6, h7, h8⟩ := e2
      subst h1 h2 h3 h4 h5 h6 h7 h8
      have c3 : (PySem.W.codeIn K n13 d.qual && (He.dflB K n8 (d.dvs K) && He.kwdB K n9 (d.kws K))) = true := c2
      obtain ⟨k1, k2⟩ := He.ba c3
      obtain ⟨k3, k4⟩ := He.ba k2
      exact ⟨_, ⟨oc, od, n8, n9, n10, n11, n12, n13, n14, osl, rfl, q, k1, He.dflB_ok k3, He.kwdB_ok k4⟩, kp⟩
    | _ => cases c2
def exP (gs : List He.DefD) (ex : PySem.W.Frag → Bool) (K : PySem.W.Frag) : Bool := ex K && gs.all fun d => okP K d
abbrev AlP : Type := He.AlX × List He.FnW
structure SaysP (fn gs : List He.DefD) (ex : PySem.W.Frag → Bool) (w : World) (h : Heap) (K : PySem.W.Frag) : Prop where
  x : He.SaysX [] fn [] [] (exP gs ex) w h K
  g : (gs.map fun d => fnP K d.at_) = gs.map He.DefD.val
section
variable {fn gs : List He.DefD} {ex : PySem.W.Frag → Bool} {w : World} {h : Heap} {K : PySem.W.Frag}
theorem SaysP.more (c : SaysP fn gs ex w h K) : ex K = true := (He.ba c.x.more).1
theorem SaysP.def_ (c : SaysP fn gs ex w h K) (i : Nat) {d : He.DefD} (h : fn[i]? = some d := by rfl) : ∃ fd, FunD K d.name d.qual d.params d.body d.scope (d.dvs K) (d.kws K) (He.fAd K d.at_) fd := c.x.t.d.def_ i h
theorem SaysP.get_ (c : SaysP fn gs ex w h K) (i : Nat) {d : He.DefD} (hd : gs[i]? = some d := by rfl) : ∃ fd, FunD K d.name d.qual d.params d.body d.scope (d.dvs K) (d.kws K) (pAd K d.at_) fd := by
  have c2 := (He.ba c.x.more).2
  have e2 : (gs.map fun d => fnP K d.at_)[i]? = (gs.map He.DefD.val)[i]? := by rw [c.g]
  rw [List.getElem?_map, List.getElem?_map, hd] at e2
  exact funP (Option.some.inj e2) (List.all_eq_true.mp c2 d (List.mem_of_getElem? hd))
end
def dF (x : Str) (st : Stmt) (dfl : List He.Dv := []) (kws : List (Str × He.Dv) := []) : He.DefD := ⟨(x, none), x, x, defArgs st, defBody st, defScope st, dfl, kws⟩
def dM (C m q : Str) (st : Stmt) (dfl : List He.Dv := []) (kws : List (Str × He.Dv) := []) : He.DefD := ⟨(C, some m), m, q, defArgs st, defBody st, defScope st, dfl, kws⟩
end DL
set_option Elab.async false
set_option linter.all false
set_option maxRecDepth 100000
set_option maxHeartbeats 1000000
namespace DL
open PySem PySem.Spec PyProof.Rows L2
def KR (K : PySem.W.Frag) (G : Hp) : List (Key × D) → List (Key × V) → Prop
  | [], l => l = []
  | p :: ps, l => ∃ v r, l = (p.1, v) :: r ∧ Rep K G p.2 v ∧ KR K G ps r
def putG {α : Type} (kvs : List (Key × α)) (k : Key) (v : α) : List (Key × α) := if (kvs.any fun kv => decide (kv.1 = k)) = true then kvs.map (fun kv => if kv.1 = k then (kv.1, v) else kv) else kvs ++ [(k, v)]
def getG {α : Type} (kvs : List (Key × α)) (k : Key) : Option α := (kvs.find? fun kv => decide (kv.1 = k)).map (·.2)
def dicD (kds : List (Key × D)) : D := .dic (kds.map (·.1)) (kds.map (·.2))
section
variable {K : PySem.W.Frag} {G G' H : Hp}
theorem KR.mono (s : Same G G') : ∀ {kds : List (Key × D)} {kvs : List (Key × V)}, KR K G kds kvs → KR K G' kds kvs
  | [], _, h => h
  | _ :: _, _, ⟨v, r, e, r1, r2⟩ => ⟨v, r, e, r1.mono s, KR.mono s r2⟩
theorem KR.length : ∀ {kds : List (Key × D)} {kvs : List (Key × V)}, KR K G kds kvs → kvs.length = kds.length
  | [], _, h => by rw [show _ = [] from h]; rfl
  | _ :: _, _, ⟨v, r, e, r1, r2⟩ => by rw [e, List.length_cons, List.length_cons, KR.length r2]
theorem KR.keys : ∀ {kds : List (Key × D)} {kvs : List (Key × V)}, KR K G kds kvs → kvs.map (·.1) = kds.map (·.1)
  | [], _, h => by rw [show _ = [] from h]; rfl
  | _ :: _, _, ⟨v, r, e, r1, r2⟩ => by rw [e, List.map_cons, List.map_cons, KR.keys r2]
theorem KR.vals : ∀ {kds : List (Key × D)} {kvs : List (Key × V)}, KR K G kds kvs → Reps K G (kds.map (·.2)) (kvs.map (·.2))
  | [], _, h => by rw [show _ = [] from h]; exact rfl
  | _ :: _, _, ⟨v, r, e, r1, r2⟩ => by rw [e]; exact ⟨v, _, rfl, r1, KR.vals r2⟩
theorem KR.any (k : Key) : ∀ {kds : List (Key × D)} {kvs : List (Key × V)}, KR K G kds kvs → (kvs.any fun kv => decide (kv.1 = k)) = (kds.any fun kv => decide (kv.1 = k))
  | [], _, h => by rw [show _ = [] from h]; rfl
  | _ :: _, _, ⟨v, r, e, r1, r2⟩ => by rw [e, List.any_cons, List.any_cons, KR.any k r2]
theorem KR.snoc {k : Key} {d : D} {v : V} (rv : Rep K G d v) : ∀ {kds : List (Key × D)} {kvs : List (Key × V)}, KR K G kds kvs → KR K G (kds ++ [(k, d)]) (kvs ++ [(k, v)])
  | [], _, h => by rw [show _ = [] from h]; exact ⟨v, [], rfl, rv, rfl⟩
  | _ :: _, _, ⟨v', r, e, r1, r2⟩ => by rw [e]; exact ⟨v', r ++ [(k, v)], rfl, r1, KR.snoc rv r2⟩
theorem KR.over {k : Key} {d : D} {v : V} (rv : Rep K G d v) : ∀ {kds : List (Key × D)} {kvs : List (Key × V)}, KR K G kds kvs → KR K G (kds.map fun kv => if kv.1 = k then (kv.1, d) else kv) (kvs.map fun kv => if kv.1 = k then (kv.1, v) else kv)
  | [], _, h => by rw [show _ = [] from h]; exact rfl
  | p :: _, _, ⟨v', r, e, r1, r2⟩ => by
    rw [e, List.map_cons, List.map_cons]
    by_cases h : p.1 = k
    · rw [if_pos h, if_pos h]
      exact ⟨v, _, rfl, rv, KR.over rv r2⟩
    · rw [if_neg h, if_neg h]
      exact ⟨v', _, rfl, r1, KR.over rv r2⟩
theorem KR.put {k : Key} {d : D} {v : V} {kds : List (Key × D)} {kvs : List (Key × V)} (h : KR K G kds kvs) (rv : Rep K G d v) : KR K G (putG kds k d) (L2.putK kvs k v) := by
  unfold putG L2.putK
  rw [h.any k]
  split
  · exact h.over rv
  · exact h.snoc rv
theorem KR.get {k : Key} : ∀ {kds : List (Key × D)} {kvs : List (Key × V)}, KR K G kds kvs → (∀ d, getG kds k = some d → ∃ v, L2.valV kvs k = some v ∧ Rep K G d v) ∧ (getG kds k = none → L2.valV kvs k = none)
  | [], _, h => by rw [show _ = [] from h]; exact ⟨(fun d z => nomatch z), (fun _ => rfl)⟩
  | p :: ps, _, ⟨v', r, e, r1, r2⟩ => by
    rw [e]
    by_cases h : p.1 = k
    · have h' : decide (p.1 = k) = true := decide_eq_true h
      refine ⟨fun d z => ?_, fun z => ?_⟩
      · have e2 : p.2 = d := by simpa [getG, List.find?, h'] using z
        exact ⟨v', by simp [L2.valV, List.find?, h'], e2 ▸ r1⟩
      · simp [getG, List.find?, h'] at z
    · have h' : decide (p.1 = k) = false := decide_eq_false h
      have q := KR.get (k := k) r2
      refine ⟨fun d z => ?_, fun z => ?_⟩
      · have z2 : getG ps k = some d := by simpa [getG, List.find?, h'] using z
        obtain ⟨v, e1, e2⟩ := q.1 d z2
        exact ⟨v, by simpa [L2.valV, List.find?, h'] using e1, e2⟩
      · have z2 : getG ps k = none := by simpa [getG, List.find?, h'] using z
        simpa [L2.valV, List.find?, h'] using q.2 z2
theorem zip_pairs {α : Type} : ∀ l : List (Key × α), (l.map (·.1)).zip (l.map (·.2)) = l
  | [] => rfl
  | p :: l => by simp [zip_pairs l]
theorem KR.of_zip : ∀ {ks : List Key} {ds : List D} {vs : List V}, ks.length = ds.length → Reps K G ds vs → KR K G (ks.zip ds) (ks.zip vs)
  | [], [], _, _, _ => rfl
  | k :: ks, d :: ds, _, h, ⟨v, r, e, r1, r2⟩ => by rw [e]; exact ⟨v, ks.zip r, rfl, r1, KR.of_zip (by simpa using h) r2⟩
theorem rep_dicD {kds : List (Key × D)} {v : V} : Rep K G (dicD kds) v ↔ ∃ a od kvs, v = .ref a ∧ G a = some (.frz od (.dK kvs)) ∧ KR K G kds kvs := by
  constructor
  · rintro ⟨a, od, vs, e1, e2, e3, e4⟩
    refine ⟨a, od, _, e1, e2, ?_⟩
    have q := KR.of_zip e3 e4
    rw [zip_pairs] at q
    exact q
  · rintro ⟨a, od, kvs, e1, e2, e3⟩
    refine ⟨a, od, kvs.map (·.2), e1, ?_, by simp, e3.vals⟩
    rw [e2, ← e3.keys, zip_pairs]
end
def iDic (K : PySem.W.Frag) (p : Addr) (kds : List (Key × D)) : Iv K := iObj K p (fun G o => ∃ kvs, o = .dK kvs ∧ KR K G kds kvs) fun _ _ _ s ⟨kvs, h1, h2⟩ => ⟨kvs, h1, h2.mono s⟩
section
variable {K : PySem.W.Frag} {G H : Hp} {p : Addr} {kds : List (Key × D)} {c : Rc K} {I : Iv K}
theorem Hd.dic (h : Hd (c.fill (iDic K p kds)) G H) : ∃ kvs, H p = some (.dK kvs) ∧ KR K G kds kvs ∧ G p = none := by
  have q := h.inner
  obtain ⟨o, ho, vs, ev, r⟩ := q.ph
  subst ev
  exact ⟨vs, ho, r, q.fr p rfl⟩
end
section
variable {X : Cx} {sts : List Stmt} {e : Expr} {σ : L2.St} {H : Hp} {E : Ends} {Q : VK} {d : Addr} {u : HO}
end
end DL
set_option Elab.async false
set_option linter.all false
set_option maxRecDepth 100000
set_option maxHeartbeats 1000000
namespace DL
open PySem PySem.Spec PyProof.Rows L2
section
variable {X : Cx} {W : WX} {R : Rx X.K} {a b e o i : Expr} {sts : List Stmt} {δ : DEnv} {I : Iv X.K} {P : D → Iv X.K → Prop} {pos ps p2 : Pos} {x : Str} {d y z : D} {p : Addr} {kds : List (Key × D)} {k : Key} {κ : Ko X.K} {n : Nat}
end
end DL
set_option Elab.async false
set_option linter.all false
set_option maxRecDepth 100000
set_option maxHeartbeats 4000000
namespace PySem
open Sem (wp)
open AutoSeq1 (wpAny_loadPart')
end PySem
namespace DL
open PySem PySem.Spec PyProof.Rows L2
section
variable {X : Cx} {W : WX} {R : Rx X.K} {a e : Expr} {δ : DEnv} {I : Iv X.K} {pos p tpos : Pos} {elts : List Expr} {kk : Nat} {ds : List D}
end
end DL
set_option Elab.async false
set_option linter.all false
set_option maxRecDepth 100000
set_option maxHeartbeats 4000000
namespace DL
open PySem PySem.Spec PyProof.Rows L2

def eqD (x y : D) : Bool := PyData.eqv (pyD x) (pyD y)
def eqDs : List D → List D → Bool
  | [], [] => true
  | x :: xs, y :: ys => eqD x y && eqDs xs ys
  | _, _ => false
theorem eqvAll_eq : ∀ xs ys : List D, PyData.eqvAll (pyDs xs) (pyDs ys) = eqDs xs ys
  | [], [] => rfl
  | [], _ :: _ => rfl
  | _ :: _, [] => rfl
  | x :: xs, y :: ys => by
    show (PyData.eqv (pyD x) (pyD y) && PyData.eqvAll (pyDs xs) (pyDs ys)) = _
    rw [eqvAll_eq xs ys]; rfl
section
variable {s t : Str} {i j : Int} {a b : Bool} {xs ys : List D}
@[simp] theorem eqD_str : eqD (.str s) (.str t) = decide (s = t) := by
  show (s == t) = _
  exact Bool.eq_iff_iff.mpr (by simp)
@[simp] theorem eqD_int : eqD (.int i) (.int j) = decide (i = j) := by
  show (i == j) = _
  exact Bool.eq_iff_iff.mpr (by simp)
@[simp] theorem eqD_bl : eqD (.bl a) (.bl b) = decide (a = b) := by
  show (a == b) = _
  exact Bool.eq_iff_iff.mpr (by simp)
@[simp] theorem eqD_non : eqD .non .non = true := rfl
@[simp] theorem eqD_tup : eqD (.tup xs) (.tup ys) = eqDs xs ys := eqvAll_eq xs ys
@[simp] theorem eqD_lst : eqD (.lst xs) (.lst ys) = eqDs xs ys := eqvAll_eq xs ys
@[simp] theorem eqD_lstf : eqD (.lst xs) (.lsf ys) = eqDs xs ys := eqvAll_eq xs ys
@[simp] theorem eqD_lsfl : eqD (.lsf xs) (.lst ys) = eqDs xs ys := eqvAll_eq xs ys
@[simp] theorem eqD_tl : eqD (.tup xs) (.lst ys) = false := rfl
@[simp] theorem eqD_lt : eqD (.lst xs) (.tup ys) = false := rfl
@[simp] theorem eqD_tn : eqD (.tup xs) .non = false := rfl
@[simp] theorem eqD_nt : eqD .non (.tup xs) = false := rfl
@[simp] theorem eqD_ln : eqD (.lst xs) .non = false := rfl
@[simp] theorem eqD_nl : eqD .non (.lst xs) = false := rfl
@[simp] theorem eqD_sn : eqD (.str s) .non = false := rfl
@[simp] theorem eqD_ns : eqD .non (.str s) = false := rfl
@[simp] theorem eqD_in : eqD (.int i) .non = false := rfl
@[simp] theorem eqD_ni : eqD .non (.int i) = false := rfl
@[simp] theorem eqD_is : eqD (.int i) (.str s) = false := rfl
@[simp] theorem eqD_si : eqD (.str s) (.int i) = false := rfl
@[simp] theorem eqD_st : eqD (.str s) (.tup xs) = false := rfl
@[simp] theorem eqD_ts : eqD (.tup xs) (.str s) = false := rfl
@[simp] theorem eqD_it : eqD (.int i) (.tup xs) = false := rfl
@[simp] theorem eqD_ti : eqD (.tup xs) (.int i) = false := rfl
@[simp] theorem eqD_sl : eqD (.str s) (.lst xs) = false := rfl
@[simp] theorem eqD_ls : eqD (.lst xs) (.str s) = false := rfl
@[simp] theorem eqD_il : eqD (.int i) (.lst xs) = false := rfl
@[simp] theorem eqD_li : eqD (.lst xs) (.int i) = false := rfl
@[simp] theorem eqDs_nil : eqDs [] [] = true := rfl
@[simp] theorem eqDs_cons {x y : D} : eqDs (x :: xs) (y :: ys) = (eqD x y && eqDs xs ys) := rfl
@[simp] theorem eqDs_nc {y : D} : eqDs [] (y :: ys) = false := rfl
@[simp] theorem eqDs_cn {x : D} : eqDs (x :: xs) [] = false := rfl
end
structure Inj {α : Type} (g : α → D) : Prop where
  eq : ∀ a b, eqD (g a) (g b) = true ↔ a = b
theorem Inj.str : Inj D.str := ⟨fun a b => by simp⟩
theorem Inj.int : Inj D.int := ⟨fun a b => by simp⟩
theorem Inj.eqs {α : Type} {g : α → D} (h : Inj g) : ∀ xs ys : List α, eqDs (xs.map g) (ys.map g) = true ↔ xs = ys
  | [], [] => by simp
  | [], y :: ys => by simp
  | x :: xs, [] => by simp
  | x :: xs, y :: ys => by simp [h.eq x y, h.eqs xs ys]
theorem Inj.lst {α : Type} {g : α → D} (h : Inj g) : Inj fun xs : List α => D.lst (xs.map g) := ⟨fun a b => by simp [h.eqs]⟩
theorem Inj.tup {α : Type} {g : α → D} (h : Inj g) : Inj fun xs : List α => D.tup (xs.map g) := ⟨fun a b => by simp [h.eqs]⟩
theorem Inj.any {α : Type} [DecidableEq α] {g : α → D} (h : Inj g) (x : α) (xs : List α) : (xs.map g).any (fun z => eqD z (g x)) = decide (x ∈ xs) := Bool.eq_iff_iff.mpr (by
  simp only [List.any_map, List.any_eq_true, Function.comp, decide_eq_true_eq]
  exact ⟨fun ⟨y, hy, e⟩ => ((h.eq y x).mp e) ▸ hy, fun hx => ⟨x, hx, (h.eq x x).mpr rfl⟩⟩)

structure OkD (n : Nat) (d : D) : Prop where
  py : okPy d = true
  cl : (pyD d).canLay0 = true
  dp : (pyD d).depth ≤ n
theorem OkD.okEq {n : Nat} {d : D} (h : OkD n d) (hn : n ≤ 64) : okEq d = true := by
  unfold DL.okEq SeqAt.shaped
  rw [h.py, h.cl, decide_eq_true (Nat.le_trans h.dp hn)]; rfl
theorem OkD.mono {n m : Nat} {d : D} (h : OkD n d) (hn : n ≤ m) : OkD m d := ⟨h.py, h.cl, Nat.le_trans h.dp hn⟩
theorem OkD.non {n : Nat} : OkD n .non := ⟨rfl, rfl, Nat.zero_le _⟩
theorem OkD.bl {n : Nat} {b : Bool} : OkD n (.bl b) := ⟨rfl, rfl, Nat.zero_le _⟩
theorem OkD.int {n : Nat} {i : Int} : OkD n (.int i) := ⟨rfl, rfl, Nat.zero_le _⟩
theorem OkD.str {n : Nat} {s : Str} (h : PyData.strOk s = true) : OkD n (.str s) := ⟨rfl, h, Nat.zero_le _⟩
theorem okds {n : Nat} : ∀ {ds : List D}, (∀ d ∈ ds, OkD n d) → okPys ds = true ∧ PyData.canLayAll0 (pyDs ds) = true ∧ PyData.depthAll (pyDs ds) ≤ n
  | [], _ => ⟨rfl, rfl, Nat.zero_le _⟩
  | d :: ds, h => by
    obtain ⟨a, b, c⟩ := okds fun e he => h e (List.mem_cons_of_mem _ he)
    have q := h d (List.mem_cons_self ..)
    exact ⟨by show (okPy d && okPys ds) = true; rw [q.py, a]; rfl, by show (PyData.canLay0 (pyD d) && PyData.canLayAll0 (pyDs ds)) = true; rw [q.cl, b]; rfl, Nat.max_le.mpr ⟨q.dp, c⟩⟩
theorem OkD.tup {n : Nat} {ds : List D} (h : ∀ d ∈ ds, OkD n d) : OkD (n + 1) (.tup ds) := ⟨(okds h).1, (okds h).2.1, Nat.succ_le_succ (okds h).2.2⟩
theorem OkD.lst {n : Nat} {ds : List D} (h : ∀ d ∈ ds, OkD n d) : OkD (n + 1) (.lst ds) := ⟨(okds h).1, (okds h).2.1, Nat.succ_le_succ (okds h).2.2⟩
theorem OkD.lsf {n : Nat} {ds : List D} (h : ∀ d ∈ ds, OkD n d) : OkD (n + 1) (.lsf ds) := ⟨(okds h).1, (okds h).2.1, Nat.succ_le_succ (okds h).2.2⟩
theorem OkD.map {α : Type} {n : Nat} {g : α → D} {xs : List α} (h : ∀ x ∈ xs, OkD n (g x)) : ∀ d ∈ xs.map g, OkD n d := fun d hd => by
  obtain ⟨x, hx, rfl⟩ := List.mem_map.mp hd
  exact h x hx
theorem OkD.t1 {n : Nat} {a : D} (h : OkD n a) : OkD (n + 1) (.tup [a]) := .tup (by simp [h])
theorem OkD.t2 {n : Nat} {a b : D} (h : OkD n a) (h2 : OkD n b) : OkD (n + 1) (.tup [a, b]) := .tup (by simp [h, h2])
theorem OkD.t3 {n : Nat} {a b c : D} (h : OkD n a) (h2 : OkD n b) (h3 : OkD n c) : OkD (n + 1) (.tup [a, b, c]) := .tup (by simp [h, h2, h3])
theorem OkD.t4 {n : Nat} {a b c d : D} (h : OkD n a) (h2 : OkD n b) (h3 : OkD n c) (h4 : OkD n d) : OkD (n + 1) (.tup [a, b, c, d]) := .tup (by simp [h, h2, h3, h4])

section
variable {X : Cx}
def rInDT (K : PySem.W.Frag) : R2 := fun x y H Q => ∃ d ds, Dp K H x d ∧ (Dp K H y (.list ds) ∨ Dp K H y (.tuple ds)) ∧ SeqAt.shaped d = true ∧ PyData.canLayAll0 ds = true ∧ Q (.bl (ds.any fun z => PyData.eqv z d)) H
def rNotInDT (K : PySem.W.Frag) : R2 := fun x y H Q => ∃ d ds, Dp K H x d ∧ (Dp K H y (.list ds) ∨ Dp K H y (.tuple ds)) ∧ SeqAt.shaped d = true ∧ PyData.canLayAll0 ds = true ∧ Q (.bl (!ds.any fun z => PyData.eqv z d)) H
theorem op_inDT (hu : X.A.units + 65 < cLine) : OpR X (compareOp .In) (rInDT X.K) := by
  intro pins s σ H x y v u Q I rx ry h
  obtain ⟨d, ds, hd, he, sd, se, q⟩ := h
  obtain ⟨as, r1⟩ := Dp.reads I d x v hd rx
  rcases he with he | he
  · obtain ⟨bs, r2⟩ := Dp.reads I (.list ds) y u he ry
    exact SeqAt.in_list_reads r2 r1 se (SeqAt.canLay_of_shaped sd) (room_in_shaped sd hu) ⟨.bl _, H, I, rfl, q⟩
  · obtain ⟨bs, r2⟩ := Dp.reads I (.tuple ds) y u he ry
    exact SeqAt.in_tuple_reads r2 r1 se (SeqAt.canLay_of_shaped sd) (room_in_shaped sd hu) ⟨.bl _, H, I, rfl, q⟩
theorem op_notInDT (hu : X.A.units + 65 < cLine) : OpR X (compareOp .NotIn) (rNotInDT X.K) := by
  intro pins s σ H x y v u Q I rx ry h
  obtain ⟨d, ds, hd, he, sd, se, q⟩ := h
  obtain ⟨as, r1⟩ := Dp.reads I d x v hd rx
  rcases he with he | he
  · obtain ⟨bs, r2⟩ := Dp.reads I (.list ds) y u he ry
    exact SeqAt.notIn_list_reads r2 r1 se (SeqAt.canLay_of_shaped sd) (room_in_shaped sd hu) ⟨.bl _, H, I, rfl, q⟩
  · obtain ⟨bs, r2⟩ := Dp.reads I (.tuple ds) y u he ry
    exact SeqAt.notIn_tuple_reads r2 r1 se (SeqAt.canLay_of_shaped sd) (room_in_shaped sd hu) ⟨.bl _, H, I, rfl, q⟩
theorem any_py (d : D) : ∀ ds : List D, (pyDs ds).any (fun z => PyData.eqv z (pyD d)) = ds.any fun z => eqD z d
  | [] => rfl
  | e :: ds => by
    show (PyData.eqv (pyD e) (pyD d) || (pyDs ds).any _) = _
    rw [any_py d ds]; rfl
def itemsD : D → Option (List D)
  | .tup ds => some ds
  | .lst ds => some ds
  | .lsf ds => some ds
  | _ => none
theorem items_dp {K : PySem.W.Frag} {G H : Hp} {z : D} {ds : List D} {v : V} (s : Same G H) (hz : itemsD z = some ds) (h : okPys ds = true) (r : Rep K G z v) : Dp K H v (.list (pyDs ds)) ∨ Dp K H v (.tuple (pyDs ds)) := by
  cases z <;> first | cases hz | skip
  · exact .inr (dp_of (d := .tup _) s h r)
  · exact .inl (dp_of (d := .lst _) s h r)
  · exact .inl (dp_of (d := .lsf _) s h r)
theorem p2_inD {K : PySem.W.Frag} {I : Iv K} {x z : D} {ds : List D} {n : Nat} (hz : itemsD z = some ds) (hx : OkD 64 x) (hd : ∀ d ∈ ds, OkD n d) : P2 K I (rInDT K) x z (.bl (ds.any fun y => eqD y x)) := fun P p G H v w Q s hI r1 r2 q =>
  ⟨_, _, dp_of s hx.py r1, items_dp s hz (okds hd).1 r2, (Bool.and_eq_true_iff.mp (hx.okEq (by decide))).2, (okds hd).2.1, by rw [any_py]; exact q _ (.bl _) G H I (Same.refl G) s hI rfl p⟩
theorem p2_ninD {K : PySem.W.Frag} {I : Iv K} {x z : D} {ds : List D} {n : Nat} (hz : itemsD z = some ds) (hx : OkD 64 x) (hd : ∀ d ∈ ds, OkD n d) : P2 K I (rNotInDT K) x z (.bl (!ds.any fun y => eqD y x)) := fun P p G H v w Q s hI r1 r2 q =>
  ⟨_, _, dp_of s hx.py r1, items_dp s hz (okds hd).1 r2, (Bool.and_eq_true_iff.mp (hx.okEq (by decide))).2, (okds hd).2.1, by rw [any_py]; exact q _ (.bl _) G H I (Same.refl G) s hI rfl p⟩
end

section
variable {X : Cx} {W : WX} {R : Rx X.K} {a b c e : Expr} {es : List Expr} {δ : DEnv} {I : Iv X.K} {P : D → Iv X.K → Prop} {pos p p2 : Pos} {x y z d : D} {x' : Str} {ds : List D} {i j : Int} {k : Bool} {C : Prop}
theorem pv_w (i : Nat) (hd : δ[i]? = some (some d)) (hN : X.N[i]? = some x' := by rfl) (hv : Vis X.env.scope x' := by first | exact Or.inl rfl | exact Or.inr (Or.inl rfl) | exact Or.inr (Or.inr rfl)) (hdb : (x' == ("__debug__" : Str)) = false := by decide)
    (hcd : (x' == ("__classdict__" : Str)) = false := by decide) : PV X I (.Name x' pos) δ d := pv_v i hd hN hv hdb hcd
end
class EqC (x y : D) (b : outParam Bool) (C : outParam Prop) : Prop where
  e : C → ∀ (X : Cx) (I : Iv X.K), X.A.units + 64 < cLine → ∃ r, OpR X (compareOp .Eq) r ∧ P2 X.K I r x y (.bl b)
  n : C → ∀ (X : Cx) (I : Iv X.K), X.A.units + 64 < cLine → ∃ r, OpR X (compareOp .NotEq) r ∧ P2 X.K I r x y (.bl (!b))
theorem EqC.flat {x y : D} {v u : V} {b : Bool} (hx : flatD x = some v) (hy : flatD y = some u) (hs : scal v u = true) (hb : decide (v = u) = b) : EqC x y b True :=
  ⟨fun _ X I _ => ⟨_, op_eq, p2_eq hx hy hs hb⟩, fun _ X I _ => ⟨_, op_ne, p2_ne hx hy hs (by rw [hb])⟩⟩
theorem EqC.data {x y : D} : EqC x y (eqD x y) (okEq x = true ∧ okEq y = true) :=
  ⟨fun c X I hu => ⟨_, op_eqD hu, p2_eqD c.1 c.2⟩, fun c X I hu => ⟨_, op_neD hu, p2_neD c.1 c.2⟩⟩
instance {s t : Str} : EqC (.str s) (.str t) (decide (s = t)) True := .flat rfl rfl rfl (by simp)
instance {s t : Int} : EqC (.int s) (.int t) (decide (s = t)) True := .flat rfl rfl rfl (by simp)
instance {s t : Bool} : EqC (.bl s) (.bl t) (decide (s = t)) True := .flat rfl rfl rfl (by simp)
instance : EqC .non .non true True := .flat rfl rfl rfl rfl
instance {s : Str} : EqC (.str s) .non false True := .flat rfl rfl rfl rfl
instance {s : Str} : EqC .non (.str s) false True := .flat rfl rfl rfl rfl
instance {s : Int} : EqC (.int s) .non false True := .flat rfl rfl rfl rfl
instance {s : Int} : EqC .non (.int s) false True := .flat rfl rfl rfl rfl
instance {s : Int} {t : Str} : EqC (.int s) (.str t) false True := .flat rfl rfl rfl rfl
instance {s : Int} {t : Str} : EqC (.str t) (.int s) false True := .flat rfl rfl rfl rfl
instance {s : Bool} : EqC .non (.bl s) false True := .flat rfl rfl rfl rfl
instance {s : Bool} : EqC (.bl s) .non false True := .flat rfl rfl rfl rfl
instance {xs ys : List D} : EqC (.tup xs) (.tup ys) (eqD (.tup xs) (.tup ys)) (okEq (.tup xs) = true ∧ okEq (.tup ys) = true) := .data
instance {xs ys : List D} : EqC (.lst xs) (.lst ys) (eqD (.lst xs) (.lst ys)) (okEq (.lst xs) = true ∧ okEq (.lst ys) = true) := .data
instance {xs ys : List D} : EqC (.lst xs) (.tup ys) (eqD (.lst xs) (.tup ys)) (okEq (.lst xs) = true ∧ okEq (.tup ys) = true) := .data
instance {xs ys : List D} : EqC (.tup xs) (.lst ys) (eqD (.tup xs) (.lst ys)) (okEq (.tup xs) = true ∧ okEq (.lst ys) = true) := .data
instance {xs : List D} : EqC (.tup xs) .non (eqD (.tup xs) .non) (okEq (.tup xs) = true ∧ okEq .non = true) := .data
instance {xs : List D} : EqC .non (.tup xs) (eqD .non (.tup xs)) (okEq .non = true ∧ okEq (.tup xs) = true) := .data
instance {xs : List D} : EqC (.lst xs) .non (eqD (.lst xs) .non) (okEq (.lst xs) = true ∧ okEq .non = true) := .data
section
variable {X : Cx} {W : WX} {R : Rx X.K} {a b c e : Expr} {es : List Expr} {δ : DEnv} {I : Iv X.K} {P : D → Iv X.K → Prop} {pos p p2 : Pos} {x y z d : D} {x' : Str} {ds : List D} {i j : Int} {k : Bool} {C : Prop}
theorem pv_eq (hu : X.A.units + 64 < cLine) (ha : PV X I a δ x) (hb : PV X I b δ y) [E : EqC x y k C] (c : C) (hm : behindInMarks .Eq b = false := by first | exact nomark _ | rfl) : PV X I (.Compare a [.Eq] [b] pos) δ (.bl k) := by
  obtain ⟨r, ho, h⟩ := E.e c X I hu
  exact pv_cmp ho ha hb h hm
theorem pt_eq (hu : X.A.units + 64 < cLine) (ha : PV X I a δ x) (hb : PV X I b δ y) [E : EqC x y k C] (c : C) (hm : behindInMarks .Eq b = false := by first | exact nomark _ | rfl) : PVT X I (.Compare a [.Eq] [b] pos) δ k := by
  obtain ⟨r, ho, h⟩ := E.e c X I hu
  exact pt_cmp ho ha hb h hm
theorem pt_ne (hu : X.A.units + 64 < cLine) (ha : PV X I a δ x) (hb : PV X I b δ y) [E : EqC x y k C] (c : C) (hm : behindInMarks .NotEq b = false := by first | exact nomark _ | rfl) : PVT X I (.Compare a [.NotEq] [b] pos) δ (!k) := by
  obtain ⟨r, ho, h⟩ := E.n c X I hu
  exact pt_cmp ho ha hb h hm
theorem pt_chn {op op' : CmpOp} {r r' : R2} {k l : Bool} (ho : OpR X (compareOp op) r) (ho' : OpR X (compareOp op') r') (ha : PV X I a δ x) (hb : PV X I b δ y) (h1 : P2 X.K I r x y (.bl k)) (hc : PV X I c δ z) (h2 : P2 X.K I r' y z (.bl l))
    (hm : lastMarks [op, op'] [b, c] = false := by with_unfolding_all rfl) : PVT X I (.Compare a [op, op'] [b, c] pos) δ (k && l) := fun W R P pp σ G H Q hE s hI qx q =>
  PT.wp (pt_chain ho ho' peC peC peC hm) (ha W R (fun z1 J => z1 = x ∧ J = I) ⟨rfl, rfl⟩ σ G H _ hE s hI qx fun v d1 G1 H1 I1 s1 t1 g1 r1 ⟨ed, ei⟩ => by
    subst ed ei
    refine hb W R (fun z1 J => z1 = y ∧ J = I1) ⟨rfl, rfl⟩ σ G1 H1 _ (hE.mono s1) t1 g1 (qx.mono s1) fun v2 d2 G2 H2 I2 s2 t2 g2 r2 ⟨ed2, ei2⟩ => ?_
    subst ed2 ei2
    refine h1 (fun z1 J => z1 = .bl k ∧ J = I2) ⟨rfl, rfl⟩ G2 H2 v v2 _ t2 g2 (r1.mono s2) r2 fun v3 d3 G3 H3 I3 s3 t3 g3 r3 ⟨ed3, ei3⟩ => ?_
    subst ed3 ei3
    refine ⟨k, r3, ?_⟩
    cases k with
    | false =>
      exact ⟨false, rfl, q false G3 H3 _ ((s1.trans s2).trans s3) t3 g3 pp⟩
    | true =>
      simp only [if_true]
      refine hc W R (fun z1 J => z1 = z ∧ J = I3) ⟨rfl, rfl⟩ σ G3 H3 _ (hE.mono ((s1.trans s2).trans s3)) t3 g3 (qx.mono ((s1.trans s2).trans s3)) fun v4 d4 G4 H4 I4 s4 t4 g4 r4 ⟨ed4, ei4⟩ => ?_
      subst ed4 ei4
      refine h2 (fun z1 J => z1 = .bl l ∧ J = I4) ⟨rfl, rfl⟩ G4 H4 v2 v4 _ t4 g4 ((r2.mono s3).mono s4) r4 fun v5 d5 G5 H5 I5 s5 t5 g5 r5 ⟨ed5, ei5⟩ => ?_
      subst ed5 ei5
      exact ⟨l, r5, q l G5 H5 _ ((((s1.trans s2).trans s3).trans s4).trans s5) t5 g5 pp⟩)
end
end DL
set_option Elab.async false
set_option linter.all false
set_option maxRecDepth 100000
set_option maxHeartbeats 4000000
namespace DL
open PySem PySem.Spec PyProof.Rows L2

structure wpGs (X : Cx) (ts : List Expr) (vs : List V) (σ : L2.St) (H : Hp) (Q : L2.St → Hp → Prop) : Prop where
  run : ∀ (pins : List (Addr × Obj)) (s : Shared) (us : List Value), Inv X pins σ H s → Vals vs us → wpAny (model X.prog X.w) X.A (assignInOrder ((assignEach ts X.env).map (·.2)) us) (fun _ s' => ∃ σ' H', Inv X pins σ' H' s' ∧ Q σ' H') X.xe s
def BindsD (X : Cx) (ts : List Expr) (ds : List D) (δ δ' : DEnv) (ws : List Nat) : Prop := ∀ (vs : List V) (σ : L2.St) (G H : Hp) (Q : L2.St → Hp → Prop), EnvR X.K G δ σ → Same G H → Reps X.K G ds vs → (∀ σ', EnvR X.K G δ' σ' → wipe σ' ws = wipe σ ws → Q σ' H) → wpGs X ts vs σ H Q
section
variable {X : Cx} {t e : Expr} {ts : List Expr} {d : D} {ds : List D} {δ δ1 δ2 : DEnv} {ws : List Nat} {pos : Pos} {W : WX} {I : Iv X.K} {κ : Ko X.K} {kk : Nat}
theorem pgsC : PGs X ts (wpGs X ts) := ⟨fun pins s σ H vs us Q I r h => h.run pins s us I r⟩
theorem bs_nil : BindsD X [] [] δ δ ws := fun vs σ G H Q hE s r q => ⟨fun pins s us J rv => pgs_nil.run pins s σ H vs us Q J rv ⟨r, q σ hE rfl⟩⟩
theorem bs_cons (h : BindD X t d δ δ1 ws) (h2 : BindsD X ts ds δ1 δ2 ws) (hs : (assignEach (t :: ts) X.env).map (·.2) = assign t X.env :: (assignEach ts X.env).map (·.2) := by rfl) : BindsD X (t :: ts) (d :: ds) δ δ2 ws := fun vs σ G H Q hE s ⟨v, r, ev, r1, r2⟩ q => by
  subst ev
  exact ⟨fun pins st us J rv => (pgs_cons pgC pgsC hs).run pins st σ H _ us Q J rv ⟨v, r, rfl, h v σ G H _ hE s r1 fun σ1 e1 w1 => h2 r σ1 G H Q e1 s r2 fun σ2 e2 w2 => q σ2 e2 (w2.trans w1)⟩⟩
theorem bind_tup (h : BindsD X ts ds δ δ2 ws) (hc : X.calm = true := by rfl) (hn : (assignEach ts X.env).length = ds.length := by rfl) (hst : (assignEach ts X.env).findIdx? (·.1) = none := by rfl) : BindD X (.Tuple ts kk pos) (.tup ds) δ δ2 ws := fun v σ G H Q hE s ⟨a, vs, ev, e1, r⟩ q =>
  PG.wp (pg_tup hc pgsC hn hst) ⟨a, vs, ev, sqT_mono s e1, r.length, h vs σ G H Q hE s r q⟩
theorem s_asgP (h : PV X I e δ d) (b : BindD X t d δ δ1 ws) (q : κ.nx δ1 I) (hs : swapsWithSole [t] e pos.line X.env = pure false := by rfl) (hw : swappedStores [t] e X.env = pure none := by rfl)
    (h1 : (assignEach [t] X.env).map (·.2) = [assign t X.env] := by rfl) : S1 X W (.Assign [t] e pos) δ I κ := fun σ G H E hE s hI k =>
  PS.wp (ps_asg peC pgC hs hw h1) (h W (κ.r δ) (fun z J => z = d ∧ J = I) ⟨rfl, rfl⟩ σ G H _ hE s hI (k.kx hE) fun v d1 G1 H1 I1 s1 t1 h1 r1 ⟨ed, ei⟩ => by
    subst ed ei
    exact b v σ G1 H1 _ (hE.mono s1) t1 r1 fun σ' e' _ => k.nx _ _ G1 H1 _ s1 t1 h1 e' q)
end

def leS (a b : Str) : Bool := !ltCps b.cps.toList a.cps.toList
section
variable {K : PySem.W.Frag} {I : Iv K} {d : D} {ds : List D} {kds : List (Key × D)} {ss : List Str}
end

def cutD (ds : List D) (lo hi : Option Int) : List D := (ds.drop (HT.sIx ds.length 0 lo)).take (HT.sIx ds.length ds.length hi - HT.sIx ds.length 0 lo)
theorem Reps.drop {K : PySem.W.Frag} {G : Hp} : ∀ {ds : List D} {vs : List V} (n : Nat), Reps K G ds vs → Reps K G (ds.drop n) (vs.drop n)
  | _, _, 0, h => h
  | [], _, n + 1, h => by rw [show _ = [] from h]; exact rfl
  | _ :: _, _, n + 1, ⟨v, r, e, _, h3⟩ => by rw [e]; exact Reps.drop n h3
theorem Reps.take {K : PySem.W.Frag} {G : Hp} : ∀ {ds : List D} {vs : List V} (n : Nat), Reps K G ds vs → Reps K G (ds.take n) (vs.take n)
  | [], _, n, h => by rw [show _ = [] from h, List.take_nil, List.take_nil]; exact rfl
  | _ :: _, _, 0, _ => rfl
  | _ :: _, _, n + 1, ⟨v, r, e, h2, h3⟩ => by rw [e]; exact ⟨v, r.take n, rfl, h2, Reps.take n h3⟩
theorem Reps.cut {K : PySem.W.Frag} {G : Hp} {ds : List D} {vs : List V} (h : Reps K G ds vs) (lo hi : Option Int) : Reps K G (cutD ds lo hi) (cutV vs lo hi) := by
  unfold cutD cutV
  rw [h.length]
  exact (h.drop _).take _
structure wpO (X : Cx) (o : Option Expr) (σ : L2.St) (H : Hp) (Q : Option Int → Hp → Prop) : Prop where
  run : ∀ (pins : List (Addr × Obj)) (s : Shared), Inv X pins σ H s → wpAny (model X.prog X.w) X.A (evalPart o X.env) (fun u s' => ∃ o H', Inv X pins σ H' s' ∧ IsPart u o ∧ Q o H') X.xe s
section
variable {X : Cx} {a e : Expr} {lo hi : Option Expr} {δ : DEnv} {I : Iv X.K} {pos p2 : Pos} {ds : List D} {l h : Option Int} {i : Int} {z : Str}
theorem poC : PO X lo (wpO X lo) := ⟨fun pins s σ H Q I h => h.run pins s I⟩
def PVO (X : Cx) (I : Iv X.K) (lo : Option Expr) (δ : DEnv) (l : Option Int) : Prop := ∀ (W : WX) (R : Rx X.K) (σ : L2.St) (G H : Hp) (Q : Option Int → Hp → Prop), EnvR X.K G δ σ → Same G H → Hd I G H → Kx X.K W σ G R →
  (∀ G' H', Same G G' → Same G' H' → Hd I G' H' → Q l H') → wpO X lo σ H Q
theorem vo_none : PVO X I none δ none := fun W R σ G H Q _ s hI _ q => ⟨fun pins st J => po_none.run pins st σ H Q J (q G H (Same.refl G) s hI)⟩
theorem vo_some (he : PV X I e δ (.int i)) : PVO X I (some e) δ (some i) := fun W R σ G H Q hE s hI qx q => ⟨fun pins st J => (po_some peC).run pins st σ H Q J
  (he W R (fun z J => z = .int i ∧ J = I) ⟨rfl, rfl⟩ σ G H _ hE s hI qx fun v d G1 H1 I1 s1 t1 g1 r1 ⟨ed, ei⟩ => by
    subst ed ei
    exact ⟨i, r1, q G1 H1 s1 t1 g1⟩)⟩
theorem pv_slice {r : V → Option Int → Option Int → Hp → VK → Prop} {x z : D} (hr : SlR X r) (ha : PV X I a δ x) (hl : PVO X I lo δ l) (hh : PVO X I hi δ h)
    (k : ∀ (G H : Hp) (v : V) (Q : VK), Same G H → Hd I G H → Rep X.K G x v → (∀ (w : V) (G' H' : Hp), Same G G' → Same G' H' → Hd I G' H' → Rep X.K G' z w → Q w H') → r v l h H Q) : PV X I (.Subscript a (.Slice lo hi none p2) pos) δ z := fun W R P pp σ G H Q hE s hI qx q =>
  PE.wp (pe_slice hr peC poC poC) (ha W R (fun y J => y = x ∧ J = I) ⟨rfl, rfl⟩ σ G H _ hE s hI qx fun v d G1 H1 I1 s1 t1 g1 r1 ⟨ed, ei⟩ => by
    subst ed ei
    refine hl W R σ G1 H1 _ (hE.mono s1) t1 g1 (qx.mono s1) fun G2 H2 s2 t2 g2 => ?_
    refine hh W R σ G2 H2 _ (hE.mono (s1.trans s2)) t2 g2 (qx.mono (s1.trans s2)) fun G3 H3 s3 t3 g3 => ?_
    exact k G3 H3 v Q t3 g3 ((r1.mono s2).mono s3) fun w G4 H4 s4 t4 g4 r4 => q w z G4 H4 _ (((s1.trans s2).trans s3).trans s4) t4 g4 r4 pp)
theorem pv_slS (ha : PV X I a δ (.str z)) (hl : PVO X I lo δ l) (hh : PVO X I hi δ h) (hz : z.length ≤ 100000) : PV X I (.Subscript a (.Slice lo hi none p2) pos) δ (.str (cutS z l h)) :=
  pv_slice sl_str ha hl hh fun G H v Q s hI r q => ⟨z, r, by rw [sizeLine_eq]; omega, q (.str _) G H (Same.refl G) s hI rfl⟩
end
end DL
set_option Elab.async false
set_option linter.all false
set_option maxRecDepth 100000
set_option maxHeartbeats 4000000
namespace DL
open PySem PySem.Spec PyProof.Rows L2

def msk : DEnv → DEnv → DEnv
  | a :: as, none :: bs => none :: msk as bs
  | a :: as, some _ :: bs => a :: msk as bs
  | _, _ => []
def DLe (δ δ0 : DEnv) : Prop := δ.length = δ0.length ∧ ∀ (i : Nat) (d : D), δ0[i]? = some (some d) → δ[i]? = some (some d)
theorem DLe.refl {δ : DEnv} : DLe δ δ := ⟨rfl, fun _ _ h => h⟩
theorem DLe.trans {a b c : DEnv} (h : DLe a b) (k : DLe b c) : DLe a c := ⟨h.1.trans k.1, fun i d e => h.2 i d (k.2 i d e)⟩
theorem msk_of : ∀ {δ δ0 : DEnv}, msk δ δ0 = δ0 → DLe δ δ0 ∨ δ0.length < δ.length ∨ δ0 = []
  | [], [], _ => .inl .refl
  | [], b :: bs, h => by cases b <;> cases h
  | a :: as, [], _ => .inr (.inr rfl)
  | a :: as, none :: bs, h => by
    have h2 : msk as bs = bs := (List.cons.inj h).2
    rcases msk_of h2 with q | q | q
    · refine .inl ⟨by simp [q.1], fun i d e => ?_⟩
      cases i with
      | zero => cases e
      | succ i => exact q.2 i d e
    · exact .inr (.inl (by simpa using q))
    · subst q
      cases as with
      | nil => exact .inl ⟨rfl, fun i d e => by cases i with
        | zero => cases e
        | succ i => cases e⟩
      | cons _ _ => exact .inr (.inl (by simp))
  | a :: as, some b :: bs, h => by
    have h1 : a = some b := (List.cons.inj h).1
    have h2 : msk as bs = bs := (List.cons.inj h).2
    rcases msk_of h2 with q | q | q
    · refine .inl ⟨by simp [q.1], fun i d e => ?_⟩
      cases i with
      | zero => rw [h1]; exact e
      | succ i => exact q.2 i d e
    · exact .inr (.inl (by simpa using q))
    · subst q
      cases as with
      | nil => exact .inl ⟨rfl, fun i d e => by cases i with
        | zero => rw [h1]; exact e
        | succ i => cases e⟩
      | cons _ _ => exact .inr (.inl (by simp))
theorem DLe.of {δ δ0 : DEnv} (h : msk δ δ0 = δ0) (hl : δ.length = δ0.length) : DLe δ δ0 := by
  rcases msk_of h with q | q | q
  · exact q
  · omega
  · subst q
    exact ⟨hl, fun i d e => by simp at e⟩
theorem DLe.wipe (δ : DEnv) : ∀ vs, DLe δ (wipeD δ vs)
  | [] => .refl
  | v :: vs => (DLe.wipe δ vs).trans ⟨by show _ = ((wipeD δ vs).set v none).length; simp, fun i d e => by
    have e : ((wipeD δ vs).set v none)[i]? = some (some d) := e
    by_cases h : v = i
    · subst h
      rw [List.getElem?_set] at e
      simp at e
    · rwa [List.getElem?_set_ne h] at e⟩
theorem EnvR.le {K : PySem.W.Frag} {G : Hp} {δ δ0 : DEnv} {σ : L2.St} (h : EnvR K G δ σ) (k : DLe δ δ0) : EnvR K G δ0 σ := ⟨h.1.trans k.1, fun i d e => h.2 i d (k.2 i d e)⟩
section
variable {X : Cx} {W : WX} {R : Rx X.K} {tg iter e elt c : Expr} {ifs : List Expr} {scope : Scope} {sts body : List Stmt} {st : Stmt} {δ δ0 : DEnv} {I : Iv X.K} {κ : Ko X.K} {P : D → Iv X.K → Prop} {pos : Pos} {d : D} {vs : List Nat}
theorem SX.le (k : DLe δ δ0) (h : SX X W sts δ0 I κ) : SX X W sts δ I κ := fun σ G H E hE => h σ G H E (hE.le k)
theorem S1.le (k : DLe δ δ0) (h : S1 X W st δ0 I κ) : S1 X W st δ I κ := fun σ G H E hE => h σ G H E (hE.le k)
theorem BindD.le {δ1 : DEnv} (k : DLe δ δ0) (h : BindD X tg d δ0 δ1 vs) : BindD X tg d δ δ1 vs := fun v σ G H Q hE => h v σ G H Q (hE.le k)
def Ko.w {K : PySem.W.Frag} (κ : Ko K) : Ko K := { κ with nx := fun δ' I' => ∃ δ0, DLe δ' δ0 ∧ κ.nx δ0 I', bk := fun δ' I' => ∃ δ0, DLe δ' δ0 ∧ κ.bk δ0 I', ct := fun δ' I' => ∃ δ0, DLe δ' δ0 ∧ κ.ct δ0 I' }
theorem KoLe.w {K : PySem.W.Frag} {W : WX} {E : Ends} {G : Hp} {κ : Ko K} (h : KoLe K W E G κ) : KoLe K W E G κ.w where
  nx := fun δ σ G' H' I' s1 s2 hI hE ⟨δ0, k, q⟩ => h.nx δ0 σ G' H' I' s1 s2 hI (hE.le k) q
  bk := fun δ σ G' H' I' s1 s2 hI hE ⟨δ0, k, q⟩ => h.bk δ0 σ G' H' I' s1 s2 hI (hE.le k) q
  ct := fun δ σ G' H' I' s1 s2 hI hE ⟨δ0, k, q⟩ => h.ct δ0 σ G' H' I' s1 s2 hI (hE.le k) q
  rt := h.rt
  ex := h.ex
theorem SX.w (h : SX X W sts δ I κ.w) : SX X W sts δ I κ := fun σ G H E hE s hI k => h σ G H E hE s hI k.w
theorem S1.w (h : S1 X W st δ I κ.w) : S1 X W st δ I κ := fun σ G H E hE s hI k => h σ G H E hE s hI k.w

theorem get_map {α : Type} {g : α → D} {xs : List α} {i : Nat} {d : D} (h : (xs.map g)[i]? = some d) : ∃ x, xs[i]? = some x ∧ d = g x := by
  rw [List.getElem?_map] at h
  cases e : xs[i]? with
  | none => rw [e] at h; cases h
  | some x => rw [e] at h; exact ⟨x, rfl, (Option.some.inj h).symm⟩
theorem s_forT {α : Type} {xs : List α} {g : α → D} (po : PassesOwn (model X.prog X.w) X.A X.env X.xe) (hi : PVI X I tg iter δ (xs.map g)) (Nv : List α → DEnv → Iv X.K → Prop) (h0 : Nv [] δ I)
    (step : ∀ p x r δ' I', xs = p ++ x :: r → Nv p δ' I' → ∃ δ'' vs, BindD X tg (g x) δ' δ'' vs ∧ SX X W body δ'' I' { κ with nx := Nv (p ++ [x]), ct := Nv (p ++ [x]), bk := κ.nx }) (fin : ∀ δ' I', Nv xs δ' I' → κ.nx δ' I')
    (hc : X.calm = true := by rfl) (hs : ∀ x, foldedSetIterable iter X.env x = pure x := by intro _; rfl) : S1 X W (.For tg iter body [] pos) δ I κ :=
  s_for po (hi W (κ.r δ) _ ⟨fun i => Nv (xs.take i), h0, fun i d δ' I' hd nv => by
    obtain ⟨x, hx, rfl⟩ := get_map hd
    have hl := (List.getElem?_eq_some_iff.mp hx).1
    have e : xs = xs.take i ++ x :: xs.drop (i + 1) := by
      rw [← (List.getElem?_eq_some_iff.mp hx).2, List.getElem_cons_drop hl, List.take_append_drop]
    have e2 : xs.take (i + 1) = xs.take i ++ [x] := take_snoc hx
    obtain ⟨δ'', vs, b, q⟩ := step _ x _ δ' I' e nv
    rw [← e2] at q
    exact ⟨δ'', vs, b, q⟩, fun δ' I' nv => fin δ' I' (by rw [List.length_map, List.take_length] at nv; exact nv)⟩) hc hs
def LcH (X : Cx) (W : WX) (R : Rx X.K) (elt tg iter : Expr) (ifs : List Expr) (scope : Scope) (own : List (Str × Nat)) (δ : DEnv) (I : Iv X.K) (P : D → Iv X.K → Prop) : Prop := EvI X W R tg iter δ I fun ds I1 => ds.length ≤ 1000000 ∧ ∃ (Nv : Nat → List D → Prop), Nv 0 [] ∧ (∀ i d ys, ds[i]? = some d → Nv i ys → ∃ (T : Bool → Prop) (δ' : DEnv), (∀ (J : Iv X.K) (s : Shared) (H : Hp) (C : Addr) (cl : List (Str × Addr)) (fp : List Addr),
        BindD (X.blk s H scope (compEnvC scope cl C X.env) fp) tg d (wipeD δ (own.map (·.2))) δ' (own.map (·.2)) ∧
        EvTs (X.blk s H scope (compEnvC scope cl C X.env) fp) W0 R0 ifs δ' (I1.and J) fun b I2 => I2 = I1.and J ∧ T b) ∧
        (T true → ∀ (J : Iv X.K) (s : Shared) (H : Hp) (C : Addr) (cl : List (Str × Addr)) (fp : List Addr), EvX (X.blk s H scope (compEnvC scope cl C X.env) fp) W0 R0 elt δ' (I1.and J) fun y I3 => I3 = I1.and J ∧ Nv (i + 1) (ys ++ [y])) ∧ (T false → Nv (i + 1) ys)) ∧
      ∀ ys, Nv ds.length ys → P (.lst ys) I1
theorem lcH_t {own : List (Str × Nat)} (h : LcH X W R elt tg iter ifs scope own δ I P) {σ : L2.St} {G H : Hp} {Q : VK} (hE : EnvR X.K G δ σ) (s : Same G H) (hI : Hd I G H) (qx : Kx X.K W σ G R) (q : Kv X.K Q G P) :
    tLc (wpI X tg iter) (fun v σ H Q => ∀ s0 H0 C cl fp, wpG (X.blk s0 H0 scope (compEnvC scope cl C X.env) fp) tg v σ H Q) (fun σ H Q => ∀ s0 H0 C cl fp, wpTs (X.blk s0 H0 scope (compEnvC scope cl C X.env) fp) ifs σ H Q)
      (fun σ H Q => ∀ s0 H0 C cl fp, wpE (X.blk s0 H0 scope (compEnvC scope cl C X.env) fp) elt σ H Q) (own.map (·.2)) σ H Q := by
  refine h σ G H _ hE s hI qx fun J ds G1 H1 I1 s1 t1 h1 wk ⟨hz, Nv, n0, step, fin⟩ D hD => ?_
  have gD : G1 D = none := t1.free hD
  have apart : ∀ a, ¬ (I1.F a ∧ a = D) := fun a ha => h1.dom ha.1 (by rw [ha.2]; exact hD)
  refine ⟨fun i m H' => m = ds.length - i ∧ i ≤ ds.length ∧ ∃ ys G', Nv i ys ∧ ys.length ≤ i ∧ Same G1 G' ∧ Same G' H' ∧ Hd (I1.and (iLst X.K D ys)) G' H', ⟨_, rfl, Nat.zero_le _, [], G1, n0, Nat.le_refl _, Same.refl _, same_upd t1 gD, ?_⟩, ?_⟩
  · exact Hd.mk2 (h1.newp hD) ⟨⟨_, upd_same, [], rfl, rfl⟩, fun a ha => by rw [show a = D from ha]; exact gD⟩ apart
  · rintro i m H' ⟨rfl, hi, ys, G', nv, hy, s2, t2, hd2⟩
    by_cases hlt : i < ds.length
    · refine .inr ⟨wk.go i G' H' s2 t2 hlt, fun H3 => ∃ ys3 G3, Nv (i + 1) ys3 ∧ ys3.length ≤ i + 1 ∧ Same G1 G3 ∧ Same G3 H3 ∧ Hd (I1.and (iLst X.K D ys3)) G3 H3, fun H3 ⟨ys3, G3, q1, q2, q3, q4, q5⟩ => ⟨ds.length - (i + 1), by omega, rfl, hlt, ys3, G3, q1, q2, q3, q4, q5⟩, fun x H3 hyl => ?_⟩
      obtain ⟨G3, s3, t3, h3, _, d, hd, rd⟩ := wk.yld i G' H' _ x H3 s2 t2 hd2 hlt hyl
      obtain ⟨T, δ', stA, stB, stC⟩ := step i d ys hd nv
      intro s0 H0 C cl fp
      refine (stA (iLst X.K D ys) s0 H0 C cl fp).1 x _ G3 H3 _ (((hE.mono s1).mono (s2.trans s3)).wipe _) t3 rd fun σ4 e4 ew => ⟨by rw [ew, wipe_wipe], ?_⟩
      intro s0 H0 C cl fp
      refine (stA (iLst X.K D ys) s0 H0 C cl fp).2 σ4 G3 H3 _ e4 t3 h3 kx0 fun b G4 H4 I4 s4 t4 h4 ⟨eI, pb⟩ => ?_
      subst eI
      cases b with
      | false => exact ⟨ys, G4, stC pb, by omega, (s2.trans s3).trans s4, t4, h4⟩
      | true =>
        intro s0 H0 C cl fp
        refine stB pb (iLst X.K D ys) s0 H0 C cl fp σ4 G4 H4 _ (e4.mono s4) t4 h4 kx0 fun y dy G5 H5 I5 s5 t5 h5 r5 ⟨eI, nv5⟩ => ?_
        subst eI
        obtain ⟨o, ho, vs, ev, rv⟩ := h5.right.ph
        subst ev
        have g5 : G5 D = none := h5.right.fr D rfl
        refine ⟨vs, ho, ?_, ys ++ [dy], G5, nv5, by simp; omega, ((s2.trans s3).trans s4).trans s5, same_upd t5 g5, ?_⟩
        · rw [rv.length, sizeLine_eq]; omega
        · refine Hd.mk2 (h5.left.chg fun hf => apart D ⟨hf, rfl⟩) ⟨⟨_, upd_same, _, rfl, rv.append (Reps.one r5)⟩, h5.right.fr⟩ apart
    · have ei : i = ds.length := by omega
      subst ei
      obtain ⟨o, ho, vs, ev, rv⟩ := hd2.right.ph
      subst ev
      have g5 : G' D = none := hd2.right.fr D rfl
      refine .inl ⟨wk.stop G' H' s2 t2, q (.ref D) (.lst ys) (upd G' D (.lst vs)) H' I1 ((s1.trans s2).trans (Evl.Ex.new g5)) (same_freeze t2 ho) ?_ ⟨D, vs, rfl, upd_same, rv.mono (Evl.Ex.new g5)⟩ (fin ys nv)⟩
      exact ⟨I1.loc G' _ H' H' (Evl.Ex.new g5) (fun _ _ => rfl) hd2.left.ph, fun a ha => by rw [upd_ne fun e => apart a ⟨ha, e⟩]; exact hd2.left.fr a ha⟩
theorem ev_lcG (own : List (Str × Nat)) (hN : X.N.Nodup) (ok : BlkOk X.N X.env.scope scope own) (h : LcH X W R elt tg iter ifs scope own δ I P)
    (hc : X.calm = true := by rfl) (hs : ∀ x, foldedSetIterable iter X.env x = pure x := by intro _; rfl) : EvX X W R (.ListComp elt [⟨tg, iter, ifs, 0⟩] scope pos) δ I P := fun σ G H Q hE s hI qx q =>
  PE.wp (pe_lc hc hN piC ok (fun s0 H0 C cl fp => ⟨fun pins s σ H v u Q J r k => (k s0 H0 C cl fp).run pins s u J r⟩) (fun s0 H0 C cl fp => ⟨fun pins s σ H Q J k => (k s0 H0 C cl fp).run pins s J⟩) (fun s0 H0 C cl fp => ⟨fun pins s σ H Q J k => (k s0 H0 C cl fp).run pins s J⟩) hs) (lcH_t h hE s hI qx q)
theorem lcM {α : Type} {xs : List α} {g : α → D} (f : α → D) (own : List (Str × Nat)) (δ' : α → DEnv) (hi : PVI X I tg iter δ (xs.map g)) (hz : xs.length ≤ 1000000)
    (hb : ∀ (x : α) (s : Shared) (H : Hp) (C : Addr) (cl : List (Str × Addr)) (fp : List Addr), BindD (X.blk s H scope (compEnvC scope cl C X.env) fp) tg (g x) (wipeD δ (own.map (·.2))) (δ' x) (own.map (·.2)))
    (he : ∀ x, x ∈ xs → ∀ (J : Iv X.K) (s : Shared) (H : Hp) (C : Addr) (cl : List (Str × Addr)) (fp : List Addr), PV (X.blk s H scope (compEnvC scope cl C X.env) fp) (I.and J) elt (δ' x) (f x)) (pp : P (.lst (xs.map f)) I) : LcH X W R elt tg iter [] scope own δ I P := by
  refine hi W R _ ⟨by simpa using hz, fun i ys => ys = (xs.take i).map f, rfl, ?_, fun ys e => ?_⟩
  · rintro i d ys hd rfl
    obtain ⟨x, hx, rfl⟩ := get_map hd
    have hm : x ∈ xs := List.mem_of_getElem? hx
    refine ⟨fun b => b = true, δ' x, fun J s H C cl fp => ⟨hb x s H C cl fp, ets_nil ⟨rfl, rfl⟩⟩, fun e J s H C cl fp => ((he x hm J s H C cl fp).ev ⟨rfl, ?_⟩), fun e => nomatch (show false = true from e)⟩
    show _ = (xs.take (i + 1)).map f
    rw [take_snoc hx, List.map_append]; rfl
  · have e : ys = (xs.take (xs.map g).length).map f := e
    rw [List.length_map, List.take_length] at e
    rw [e]; exact pp
theorem pv_lcTM {α : Type} {xs : List α} {g : α → D} (f : α → D) (own : List (Str × Nat)) (δ' : α → DEnv) (hi : PVI X I tg iter δ (xs.map g)) (hz : xs.length ≤ 1000000)
    (hb : ∀ (x : α) (s : Shared) (H : Hp) (C : Addr) (cl : List (Str × Addr)) (fp : List Addr), BindD (X.blk s H scope (compEnvC scope cl C X.env) fp) tg (g x) (wipeD δ (own.map (·.2))) (δ' x) (own.map (·.2)))
    (he : ∀ x, x ∈ xs → ∀ (J : Iv X.K) (s : Shared) (H : Hp) (C : Addr) (cl : List (Str × Addr)) (fp : List Addr), PV (X.blk s H scope (compEnvC scope cl C X.env) fp) (I.and J) elt (δ' x) (f x))
    (hN : X.N.Nodup := by assumption) (ok : blkC X.N X.env.scope scope own = true := by rfl)
    (hc : X.calm = true := by rfl) (hs : ∀ x, foldedSetIterable iter X.env x = pure x := by intro _; rfl) : PV X I (.ListComp elt [⟨tg, iter, [], 0⟩] scope pos) δ (.lst (xs.map f)) := fun W R P pp =>
  ev_lcG own hN (blkOk_by ok) (lcM f own δ' hi hz hb he pp) hc hs
end

section
variable {X : Cx} {W : WX} {R : Rx X.K} {tg iter kx vx : Expr} {scope : Scope} {δ : DEnv} {I : Iv X.K} {P : D → Iv X.K → Prop} {pos : Pos}
end
end DL
set_option Elab.async false
set_option linter.all false
set_option maxRecDepth 100000
set_option maxHeartbeats 4000000
namespace DL
open PySem PySem.Spec PyProof.Rows L2
class LenC (x : D) (n : outParam Int) (C : outParam Prop) : Prop where
  h : C → ∀ (X : Cx) (I : Iv X.K), ∃ r, CallR X (.builtin "len") r ∧ PN X.K I r [x] (.int n)
instance {ds : List D} : LenC (.lst ds) (ds.length : Int) True := ⟨fun _ X I => ⟨_, call_len_seq, pn_lenL⟩⟩
instance {ds : List D} : LenC (.tup ds) (ds.length : Int) True := ⟨fun _ X I => ⟨_, call_len_seq, pn_lenT⟩⟩
instance {ds : List D} : LenC (.lsf ds) (ds.length : Int) True := ⟨fun _ X I => ⟨_, call_len_seq, fun P p G H vs Q s hI ⟨v, r, e1, ⟨a, xs, ea, e2, e3⟩, er⟩ q => by
  rw [e1, ea, show r = [] from er]
  exact ⟨a, xs, rfl, .inl (sqL_mono s e2), by rw [e3.length]; exact q _ (.int ds.length) G H _ (Same.refl G) s hI rfl p⟩⟩⟩
instance {s : Str} : LenC (.str s) (s.length : Int) (s.length ≤ 100000) := ⟨fun c X I => ⟨_, call_len_str, pn_lenS c⟩⟩
theorem call_lenDR {X : Cx} : CallR X (.builtin "len") (fun xs H Q => ∃ a kvs, xs = [V.ref a] ∧ Rd H a (.dK kvs) ∧ Q (.int kvs.length) H) := by
  intro pins s σ H xs us Q I r h
  obtain ⟨a, kvs, rfl, ha, q⟩ := h
  obtain ⟨u, rfl, ru⟩ := vals1 r
  cases ru
  exact d_len I ha fun t s' I' => ⟨.int kvs.length, H, I', ⟨t, rfl⟩, q⟩
theorem lenC_dic {kds : List (Key × D)} : LenC (dicD kds) (kds.length : Int) True := ⟨fun _ X I => ⟨_, call_lenDR, fun P p G H vs Q s hI ⟨v, r, e1, rd, er⟩ q => by
  obtain ⟨a, od, kvs, rfl, e2, kr⟩ := rep_dicD.mp rd
  rw [e1, show r = [] from er]
  exact ⟨a, kvs, rfl, .inr ⟨od, s _ _ e2⟩, by rw [kr.length]; exact q _ (.int kds.length) G H _ (Same.refl G) s hI rfl p⟩⟩⟩
instance {kds : List (Key × D)} : LenC (dicD kds) (kds.length : Int) True := lenC_dic
instance {ks : List Key} {ds : List D} : LenC (.dic ks ds) (ds.length : Int) (ks.length = ds.length) := ⟨fun c X I => by
  have e : dicD (ks.zip ds) = .dic ks ds := by
    show D.dic ((ks.zip ds).map (·.1)) ((ks.zip ds).map (·.2)) = _
    rw [show (ks.zip ds).map (·.1) = ks from List.map_fst_zip (by omega), show (ks.zip ds).map (·.2) = ds from List.map_snd_zip (by omega)]
  obtain ⟨r, h1, h2⟩ := (lenC_dic (kds := ks.zip ds)).h trivial X I
  rw [e] at h2
  have e2 : (ks.zip ds).length = ds.length := by rw [List.length_zip]; omega
  rw [e2] at h2
  exact ⟨r, h1, h2⟩⟩
section
variable {X : Cx} {I : Iv X.K} {a b c e o : Expr} {es : List Expr} {δ : DEnv} {pos p : Pos} {x y z : D} {n : Int} {C : Prop} {k : Bool} {W : WX} {κ : Ko X.K} {ds fs : List D} {q : Addr}
theorem pv_len (hm : X.mg "len" = none) (ha : PV X I a δ x) [L : LenC x n C] (c : C) (hg : Gl X "len" := by rfl) (h1 : starEach [a] X.env = (false, eval a X.env) :: starEach [] X.env := by rfl) (hpl : (backTo pos (starEach [] X.env)).any (·.1) = false := by rfl) : PV X I (.Call (.Name "len" p) [a] [] pos) δ (.int n) := by
  obtain ⟨r, h1', h2⟩ := L.h c X I
  exact pv_cb h1' hm (va_cons ha va_nil h1) h2 (by decide +kernel) hg (by decide) (by decide) h1 hpl
end
def allStr : List D → Bool
  | [] => true
  | .str _ :: ds => allStr ds
  | _ => false
def strIn (s : Str) : List D → Bool
  | [] => false
  | .str t :: ds => decide (s = t) || strIn s ds
  | _ :: ds => strIn s ds
@[simp] theorem strIn_map (s : Str) : ∀ ws : List Str, strIn s (ws.map D.str) = decide (s ∈ ws)
  | [] => by simp [strIn]
  | w :: ws => by
    show (decide (s = w) || strIn s (ws.map D.str)) = _
    rw [strIn_map s ws]
    exact Bool.eq_iff_iff.mpr (by simp)
@[simp] theorem allStr_map : ∀ ws : List Str, allStr (ws.map D.str) = true
  | [] => rfl
  | _ :: ws => allStr_map ws
theorem allStr_ex : ∀ {ds : List D}, allStr ds = true → ∃ ws : List Str, ds = ws.map D.str
  | [], _ => ⟨[], rfl⟩
  | d :: ds, h => by
    cases d <;> first | cases h | skip
    rename_i s
    obtain ⟨ws, e⟩ := allStr_ex (ds := ds) h
    exact ⟨s :: ws, by rw [e]; rfl⟩
class InC (x y : D) (b : outParam Bool) (C : outParam Prop) : Prop where
  e : C → ∀ (X : Cx) (I : Iv X.K), X.A.units + 65 < cLine → ∃ r, OpR X (compareOp .In) r ∧ P2 X.K I r x y (.bl b)
  n : C → ∀ (X : Cx) (I : Iv X.K), X.A.units + 65 < cLine → ∃ r, OpR X (compareOp .NotIn) r ∧ P2 X.K I r x y (.bl (!b))
instance {s : Str} {ds : List D} : InC (.str s) (.tup ds) (strIn s ds) (allStr ds = true) := ⟨fun c X I _ => by
  obtain ⟨ws, rfl⟩ := allStr_ex c
  rw [strIn_map]; exact ⟨_, op_in_seq, p2_inStr⟩, fun c X I _ => by
  obtain ⟨ws, rfl⟩ := allStr_ex c
  rw [strIn_map]; exact ⟨_, op_notIn_seq, p2_ninStr⟩⟩
instance {s : Str} {ds : List D} : InC (.str s) (.lst ds) (strIn s ds) (allStr ds = true) := ⟨fun c X I _ => by
  obtain ⟨ws, rfl⟩ := allStr_ex c
  rw [strIn_map]; exact ⟨_, op_in_seq, p2_inStrL⟩, fun c X I _ => by
  obtain ⟨ws, rfl⟩ := allStr_ex c
  rw [strIn_map]; exact ⟨_, op_notIn_seq, p2_ninStrL⟩⟩
theorem InC.data {x z : D} {ds : List D} (hz : itemsD z = some ds) : InC x z (ds.any fun y => eqD y x) (OkD 64 x ∧ ∀ d ∈ ds, OkD 64 d) :=
  ⟨fun c X I hu => ⟨_, op_inDT hu, p2_inD hz c.1 c.2⟩, fun c X I hu => ⟨_, op_notInDT hu, p2_ninD hz c.1 c.2⟩⟩
instance {xs ds : List D} : InC (.tup xs) (.tup ds) (ds.any fun y => eqD y (.tup xs)) (OkD 64 (.tup xs) ∧ ∀ d ∈ ds, OkD 64 d) := .data rfl
instance {xs ds : List D} : InC (.tup xs) (.lst ds) (ds.any fun y => eqD y (.tup xs)) (OkD 64 (.tup xs) ∧ ∀ d ∈ ds, OkD 64 d) := .data rfl
section
variable {X : Cx} {I : Iv X.K} {a b c e o : Expr} {es : List Expr} {δ : DEnv} {pos p : Pos} {x y z : D} {n : Int} {C : Prop} {k : Bool} {W : WX} {κ : Ko X.K} {ds fs : List D} {q : Addr}
theorem ev_lstM' {R : Rx X.K} {P : D → Iv X.K → Prop} (h : PVA X I es δ ds) (hl : ds.length ≤ 1000) (hp : ∀ p, P (.adr p) (I.and (iLst X.K p ds))) : EvX X W R (.List es pos) δ I P := ev_lstM h hl fun p _ => hp p
end
section
variable {K : PySem.W.Frag} {I : Iv K} {d : D} {ds : List D}
end
abbrev dicT {α : Type} (xs : List α) (k : α → Str) (v : α → D) : D := dicD (xs.map fun x => ((.inr (k x) : Key), v x))
section
variable {X : Cx} {I : Iv X.K} {tg iter e : Expr} {δ : DEnv} {pos p : Pos} {α : Type} {xs : List α} {k : α → Str} {v : α → D}
end
end DL
set_option Elab.async false
set_option linter.all false
set_option maxRecDepth 100000
set_option maxHeartbeats 4000000
namespace DL
open PySem PySem.Spec PyProof.Rows L2
section
variable {X : Cx} {W : WX} {R : Rx X.K} {e a b o tg iter : Expr} {δ : DEnv} {I : Iv X.K} {P : D → Iv X.K → Prop} {pos p apos : Pos} {d z x : D} {ds : List D} {κ : Ko X.K} {es : List Expr} {n m : Int}
theorem ev_freezeL (h : EvX X W R e δ I fun d I1 => ∃ p ds I2, d = .adr p ∧ I1 = I2.and (iLst X.K p ds) ∧ P (.lst ds) I2) : EvX X W R e δ I P := fun σ G H Q hE s hI qx q =>
  h σ G H Q hE s hI qx fun v d G1 H1 I1 s1 t1 h1 r1 ⟨p, ds, I2, ed, ei, pp⟩ => by
    subst ed ei
    obtain ⟨G2, s2, t2, h2, r2⟩ := freeze_lst t1 h1
    have ev : v = .ref p := r1
    rw [ev]
    exact q (.ref p) (.lst ds) G2 H1 I2 (s1.trans s2) t2 h2 r2 pp
theorem vi_range1 (hm : X.mg "range" = none) (h : PV X I a δ (.int n)) (h1 : n < 1000000) (h2 : -1000000 < n) (hg : Gl X "range" := by rfl) (hst : starEach [a] X.env = [(false, eval a X.env)] := by rfl) (hpl : (backTo pos (starEach [] X.env)).any (·.1) = false := by rfl) : PVI X I tg (.Call (.Name "range" p) [a] [] pos) δ ((List.range n.toNat).map fun i : Nat => D.int i) := fun W R P pp =>
  ei_range1 hm (h W R _ ⟨n, rfl, h1, h2, by
    have e : DL.intsFrom 0 n.toNat = (List.range n.toNat).map fun i : Nat => D.int i := by unfold DL.intsFrom; simp
    rw [e]; exact pp⟩) hg hst hpl
theorem vi_range2 (hm : X.mg "range" = none) (h : PV X I a δ (.int n)) (h' : PV X I b δ (.int m)) (h1 : n < 1000000 ∧ -1000000 < n ∧ m < 1000000 ∧ -1000000 < m) (hg : Gl X "range" := by rfl) (hst : starEach [a, b] X.env = [(false, eval a X.env), (false, eval b X.env)] := by rfl) (hst2 : starEach [b] X.env = [(false, eval b X.env)] := by rfl) (hpl : (backTo pos (starEach [b] X.env)).any (·.1) = false := by rfl) : PVI X I tg (.Call (.Name "range" p) [a, b] [] pos) δ ((List.range (m - n).toNat).map fun i : Nat => D.int (n + i)) := fun W R P pp =>
  ei_range2 hm (h W R _ (h' W R _ ⟨n, m, rfl, rfl, h1, pp⟩)) hg hst hst2 hpl
theorem pv_neg (h : PV X I a δ (.int n)) : PV X I (.UnaryOp .USub a pos) δ (.int (-n)) := pv_un un_neg h fun P pp G H v Q s hI r q => ⟨n, r, q (.int (-n)) (.int (-n)) G H I (Same.refl G) s hI rfl pp⟩
theorem mem_zipIdx {α : Type} {xs : List α} {x : α} {i : Nat} (h : (x, i) ∈ xs.zipIdx) : xs[i]? = some x := List.mem_zipIdx_iff_getElem?.mp h
theorem atI_n {α : Type} {xs : List α} {j : Nat} {x : α} (h : xs[j]? = some x) : atI xs (j : Int) = some x := by
  have hl := (List.getElem?_eq_some_iff.mp h).1
  unfold atI ixN
  rw [if_pos (by omega), if_pos (by omega)]
  simpa using h
theorem atI_m {α : Type} {xs : List α} {f : α → D} {j : Nat} {x : α} (h : xs[j]? = some x) : atI (xs.map f) (j : Int) = some (f x) := atI_n (by rw [List.getElem?_map, h]; rfl)
end
theorem _root_.L2.Room.u1 {k : Nat} {A : Around} (r : Room k A) : A.units + 1 < cLine := by have := r.un; omega
def sortW {α : Type} (ws : List (Str × α)) : List (Str × α) := ws.mergeSort fun a b => leS a.1 b.1
theorem sortW_perm {α : Type} (ws : List (Str × α)) : (sortW ws).Perm ws := List.mergeSort_perm ws _
theorem nd_inj {α : Type} : ∀ {ws : List (Str × α)}, (ws.map (·.1)).Nodup → ∀ {a b : Str × α}, a ∈ ws → b ∈ ws → a.1 = b.1 → a = b
  | [], _, _, _, h, _, _ => nomatch h
  | w :: ws, nd, a, b, ha, hb, e => by
    rw [List.map_cons] at nd
    obtain ⟨n1, n2⟩ := List.nodup_cons.mp nd
    rcases List.mem_cons.mp ha with e1 | ha1
    · rcases List.mem_cons.mp hb with e2 | hb1
      · rw [e1, e2]
      · exact absurd (List.mem_map.mpr ⟨b, hb1, by rw [← e, e1]⟩) n1
    · rcases List.mem_cons.mp hb with e2 | hb1
      · exact absurd (List.mem_map.mpr ⟨a, ha1, by rw [e, e2]⟩) n1
      · exact nd_inj n2 ha1 hb1 e
end DL
set_option Elab.async false
set_option linter.all false
set_option maxRecDepth 100000
set_option maxHeartbeats 4000000
namespace L2
open PySem PySem.Spec PyProof.Rows
section
variable {prog : Program} {w : World} {A : Around} {E : Value → Shared → Prop} {s : Shared} {T : String} {r d : Addr} {n : Nat} {P : Nat → Value → Prop} {OK : Heap → Prop}
end
end L2
namespace DL
open PySem PySem.Spec PyProof.Rows L2
end DL
set_option Elab.async false
set_option linter.all false
set_option maxRecDepth 100000
set_option maxHeartbeats 4000000
namespace GQ
open PySem PySem.SeqAt
open AutoSeq1 (wpAny_loadPart')
open MeetsSeq MeetsSeq2 MeetsSeq3 SeqRoads2
section
variable {prog : Program} {w : World} {A : Around} {R : Result → Shared → Prop}
theorem tuple_eqB (l b : Addr) (items items2 : Array Value) (n n2 : Nat) (dd dd2 : Option Addr) (sl sl2 : Array (Option Value)) (J : Shared → Prop) (e : Nat → Bool)
    (turn : ∀ i (h1 : i < items.size) (h2 : i < items2.size) s, J s → wpAny (model prog w) A.in1 (eqBool items[i] items2[i]) (fun r s' => r = e i ∧ J s') (fun e s' => R (.error e) s') s)
    (fin : ∀ s, J s → R (.ok (.ret (.bool ((items.size == items2.size) && (List.range (min items.size items2.size)).all e)))) s) {s : Shared} (hl1 : s.heap.get? l = some { cls := .type "tuple", dict := dd, data := .seq items n, slots := sl }) (hb1 : s.heap.get? b = some { cls := .type "tuple", dict := dd2, data := .seq items2 n2, slots := sl2 }) (h : J s) :
    wpAny (model prog w) A.in1 (Builtin.«tuple.__eq__» ⟨[.ref l, .ref b], []⟩) (FinOf prog w A R) (fun e s' => R (.error e) s') s := by
  have f2 := AutoSeq1.sub_tuple_tuple
  have hZ : (items.toList.zip items2.toList).length = min items.size items2.size := by simp
  have h0 := h
  obtain ⟨hp, g, d, tk, os⟩ := s
  wp_walk using wpAny_loadPart' hl1, wpAny_loadPart' hb1, wpAny_forIn_list _ (fun rest b s' => b.1 = none ∧ ∃ i, rest = (items.toList.zip items2.toList).drop i ∧ i ≤ min items.size items2.size ∧ (∀ j, j < i → e j = true) ∧ J s') _
  case turn =>
    rintro ⟨y, x⟩ rest b s' ⟨hb', i, hz, hi, he, hI⟩
    have hlt : i < (items.toList.zip items2.toList).length := by
      rcases Nat.lt_or_ge i (items.toList.zip items2.toList).length with h' | h'
      · exact h'
      · rw [List.drop_of_length_le h'] at hz; cases hz
    have h1 : i < items.size := by omega
    have h2 : i < items2.size := by omega
    rw [List.drop_eq_getElem_cons hlt] at hz
    injection hz with hyx hrest
    have hy : y = items[i] := by have := congrArg Prod.fst hyx; simpa using this
    have hx : x = items2[i] := by have := congrArg Prod.snd hyx; simpa using this
    subst hy hx
    refine wpAny_bind (wpAny_mono (turn i h1 h2 s' hI) (fun r s2 q2 => ?_) fun _ _ x => x)
    obtain ⟨hr, q2⟩ := q2
    subst hr
    cases q : e i with
    | true =>
      wp_walk
      refine ⟨rfl, i + 1, hrest, by omega, fun j hj => ?_, q2⟩
      rcases Nat.lt_or_ge j i with h' | h'
      · exact he j h'
      · have : j = i := by omega
        subst this; exact q
    | false =>
      wp_walk
      have ef : (List.range (min items.size items2.size)).all e = false := by
        rw [List.all_eq_false]
        exact ⟨i, List.mem_range.mpr (by omega), by rw [q]; simp⟩
      have hR := fin s2 q2
      rw [ef, Bool.and_false] at hR
      exact hR
  case fin =>
    rintro ⟨b1, b2⟩ s' ⟨hb', i, hz, hi, he, hI⟩
    simp only at hb'
    subst hb'
    have hge : min items.size items2.size ≤ i := by
      rcases Nat.lt_or_ge i (items.toList.zip items2.toList).length with h' | h'
      · rw [List.drop_eq_getElem_cons h'] at hz; cases hz
      · omega
    have hi' : i = min items.size items2.size := by omega
    have hR := fin s' hI
    have et : (List.range (min items.size items2.size)).all e = true := by
      rw [List.all_eq_true]
      exact fun j hj => he j (by rw [hi']; exact List.mem_range.mp hj)
    rw [et, Bool.and_true] at hR
    wp_walk
    simpa [Builtin.Tuple.tupleCompareSizes] using hR
  case h =>
    exact ⟨rfl, 0, rfl, Nat.zero_le _, fun j hj => absurd hj (by omega), h0⟩
end
end GQ
set_option Elab.async false
set_option linter.all false
set_option maxRecDepth 100000
set_option maxHeartbeats 4000000
namespace DL
open PySem PySem.Spec PyProof.Rows L2
structure EqB (X : Cx) (n : Nat) (E : D → D → Bool → Prop) : Prop where
  run : ∀ (A : Around) (pins : List (Addr × Obj)) (s : Shared) (σ : L2.St) (G H : Hp) (x y : V) (u v : Value) (dx dy : D) (b : Bool), L2.Sub X n A → Inv X pins σ H s → RelV x u → RelV y v → Same G H → Rep X.K G dx x → Rep X.K G dy y → E dx dy b →
    wpAny (model X.prog X.w) A (eqBool u v) (fun r s' => r = b ∧ ∃ H', Inv X pins σ H' s' ∧ Ext H H') X.xe s
  same : ∀ (pins : List (Addr × Obj)) (s : Shared) (σ : L2.St) (G H : Hp) (x : V) (dx dy : D) (b : Bool), Inv X pins σ H s → Same G H → Rep X.K G dx x → Rep X.K G dy x → E dx dy b → b = true
theorem EqB.mono {X : Cx} {n m : Nat} {E : D → D → Bool → Prop} (h : EqB X n E) (hn : n ≤ m) : EqB X m E := ⟨fun A pins s σ G H x y u v dx dy b sb => h.run A pins s σ G H x y u v dx dy b (sb.mono hn), h.same⟩
theorem relV_inj {a b : V} {u : Value} (ha : flatV a = true) (hb : flatV b = true) (h1 : RelV a u) (h2 : RelV b u) : a = b := by
  cases a <;> (first | (cases ha; done) | skip) <;> cases b <;> (first | (cases hb; done) | skip)
  all_goals first
    | rfl
    | (have e1 : u = _ := h1; have e2 : u = _ := h2; rw [e1] at e2; cases e2; first | rfl | done)
    | (have e1 : u = _ := h1; obtain ⟨t, e2⟩ := h2; rw [e1] at e2; cases e2; done)
    | (obtain ⟨t, e1⟩ := h1; have e2 : u = _ := h2; rw [e1] at e2; cases e2; done)
    | (obtain ⟨t, e1⟩ := h1; obtain ⟨t', e2⟩ := h2; rw [e1] at e2; cases e2; first | rfl | done)
def allPl : List D → Bool
  | [] => true
  | .str _ :: ds => allPl ds
  | .int _ :: ds => allPl ds
  | .bl _ :: ds => allPl ds
  | .non :: ds => allPl ds
  | _ => false
theorem allPl_vs : ∀ {ds : List D}, allPl ds = true → ∃ vs, flatDs ds = some vs ∧ ∀ v ∈ vs, flatV v = true
  | [], _ => ⟨[], rfl, fun _ h => nomatch h⟩
  | d :: ds, h => by
    have key : ∀ v, flatD d = some v → flatV v = true → allPl ds = true → ∃ vs, flatDs (d :: ds) = some vs ∧ ∀ v ∈ vs, flatV v = true := fun v e f q => by
      obtain ⟨vs, e2, k⟩ := allPl_vs q
      refine ⟨v :: vs, by unfold flatDs; rw [e, e2], fun w hw => ?_⟩
      rcases List.mem_cons.mp hw with rfl | hw
      · exact f
      · exact k w hw
    cases d <;> first | cases h | exact key _ rfl rfl h
theorem allPl_inj {K : PySem.W.Frag} {G : Hp} : ∀ {ds es : List D} {vs : List V}, allPl ds = true → allPl es = true → Reps K G ds vs → Reps K G es vs → ds = es
  | [], [], _, _, _, _, _ => rfl
  | [], e :: es, _, _, _, h, ⟨v, r, e2, _, _⟩ => by rw [show _ = [] from h] at e2; cases e2
  | d :: ds, [], _, _, _, ⟨v, r, e2, _, _⟩, h => by rw [show _ = [] from h] at e2; cases e2
  | d :: ds, e :: es, _, h1, h2, ⟨v, r, e1, r1, rr1⟩, ⟨v', r', e2, r2, rr2⟩ => by
    rw [e1] at e2
    cases e2
    have hd : d = e ∧ allPl ds = true ∧ allPl es = true := by
      cases d <;> cases e <;> first | cases h1 | cases h2 | skip
      all_goals (refine ⟨?_, h1, h2⟩; first | rfl | (have q := (show v = _ from r1).symm.trans (show v = _ from r2); cases q; first | rfl | done))
    rw [hd.1, allPl_inj hd.2.1 hd.2.2 rr1 rr2]
theorem EqB.own {X : Cx} {n : Nat} {C g : Addr} {S : Spec X.K} (hs : PySem.W.findIn X.K (.ref C) "__eq__" = some (some (.ref g))) (hf : PySem.W.isFn X.K (.ref g) = true) (hn : PySem.W.notFirst X.K C (.ref C) = true)
    (F : FnR X.prog X.w X.K X.mg X.base (L2.CX X.prog X.w) n g (spD X.K S)) :
    EqB X n (fun dx dy b => ∃ fs gs, dx = .slo C fs ∧ dy = .slo C gs ∧ allPl fs = true ∧ allPl gs = true ∧ fs.length = gs.length ∧ (fs = gs → b = true) ∧ ∀ P : D → Iv X.K → Prop, P (.bl b) (iEmp X.K) → S (iEmp X.K) [dx, dy] P F0) := by
  have hsame : ∀ (pins : List (Addr × Obj)) (s : Shared) (σ : L2.St) (G H : Hp) (x : V) (fs gs : List D), Inv X pins σ H s → Same G H → Rep X.K G (.slo C fs) x → Rep X.K G (.slo C gs) x → allPl fs = true → allPl gs = true → fs.length = gs.length → fs = gs := by
    intro pins s σ G H x fs gs J sm ⟨a, d1, vs, e1, t1, r1⟩ ⟨a', d2, us, e2, t2, r2⟩ pf pg hl
    rw [e1] at e2
    cases e2
    obtain ⟨sl, od, q1, i1, _⟩ := SlX.slt_inst J (slt_mono sm t1)
    obtain ⟨sl', od', q2, i2, _⟩ := SlX.slt_inst J (slt_mono sm t2)
    obtain ⟨h1, _, _, _⟩ := i1
    obtain ⟨h2, _, _, _⟩ := i2
    rw [h1] at h2
    have esl : sl = sl' := by
      have := Option.some.inj h2
      exact congrArg (fun o : Obj => o.slots) this
    subst esl
    obtain ⟨ws1, f1, p1⟩ := allPl_vs pf
    obtain ⟨ws2, f2, p2⟩ := allPl_vs pg
    have ev1 := r1.flat f1
    have ev2 := r2.flat f2
    have hg : ∀ {ws : List V}, SlX.SlR (ws.map some) sl → ∀ i v, ws[i]? = some v → ∃ u, sl[i]? = some (some u) ∧ RelV v u := fun q i v hv => q i v (by rw [List.getElem?_map, hv]; rfl)
    have hl1 := r1.length
    have hl2 := r2.length
    rw [ev1] at q1 hl1 r1
    rw [ev2] at q2 hl2 r2
    have hws : ws1 = ws2 := List.ext_getElem? fun i => by
      cases a1 : ws1[i]? with
      | none =>
        have := List.getElem?_eq_none_iff.mp a1
        rw [List.getElem?_eq_none_iff.mpr (by omega)]
      | some v =>
        have hlt := (List.getElem?_eq_some_iff.mp a1).1
        have a2 : ws2[i]? = some (ws2[i]'(by omega)) := List.getElem?_eq_getElem (by omega)
        rw [a2]
        obtain ⟨u, e1, k1⟩ := hg q1 i v a1
        obtain ⟨u', e2, k2⟩ := hg q2 i _ a2
        rw [e1] at e2
        cases e2
        rw [relV_inj (p1 v (List.mem_of_getElem? a1)) (p2 _ (List.mem_of_getElem? a2)) k1 k2]
    subst hws
    exact allPl_inj pf pg r1 r2
  refine ⟨?_, ?_⟩
  · intro A pins s σ G H x y u v dx dy b sb J rx ry sm r1 r2 ⟨fs, gs, e1, e2, pf, pg, hl, hb, hS⟩
    subst e1 e2
    obtain ⟨a, d1, vs, ea, t1, q1⟩ := id r1
    obtain ⟨c, d2, us, ec, t2, q2⟩ := id r2
    subst ea ec
    cases (show u = Value.ref a from rx)
    cases (show v = Value.ref c from ry)
    by_cases hac : a = c
    · subst hac
      have hbt := hb (hsame pins s σ G H _ fs gs J sm r1 r2 pf pg hl)
      subst hbt
      exact SeqAt.EqAt.same (A := A) (s := s) (.ref a) X.prog X.w X.xe _ ⟨rfl, H, J, Ext.rfl'⟩
    · refine GQ.eqBool_refG hac ?_
      obtain ⟨sl, od, _, O1, _⟩ := SlX.slt_inst J (slt_mono sm t1)
      obtain ⟨sl', od', _, O2, _⟩ := SlX.slt_inst J (slt_mono sm t2)
      obtain ⟨m, hF⟩ := J.fr
      refine PySem.W.cmp_K (op := .Eq) (tb := .ref C) sb.room.units0 hF J.ok.mod.kin O1 O2.type hn hs hf ?_
      have e0 : Env0 X.prog X.w X.K X.mg X.base A X.stack s H := by
        have e := J.env0
        exact ⟨by rw [sb.fr]; exact e.frames, e.mod, e.bs, e.bsz, e.funs, e.frf, e.hok, e.bare⟩
      have hsp : spD X.K S [.ref a, .ref c] H (fun v H' => v = .bl b ∧ Ext H H') (fun _ _ _ => False) :=
        spD_of (I := iEmp X.K) (G := H) (ds := [.slo C fs, .slo C gs]) (P := fun d _ => d = .bl b) (Same.refl H) Hd.emp (.cons (r1.mono sm) (.cons (r2.mono sm) .nil)) (hS (fun d _ => d = .bl b) rfl) fun v d G' H' I' s1 s2 h1 r e => by
          subst e
          exact ⟨r, fun p o hp => (s1.trans s2) p o hp⟩
      refine wpAny_call (codeAny_mono (F A X.stack s H [.ref a, .ref c] [.ref a, .ref c] _ _ sb.room e0 (.cons rfl (.cons rfl .nil)) hsp) fun r s' hq => ?_)
      cases r with
      | error e => exact (cxF hq).elim
      | ok fl =>
        cases fl with
        | ret w =>
          obtain ⟨z, H', J', rz, ez, ex⟩ := J.after hq
          subst ez
          cases rz
          exact ⟨b, rfl, rfl, H', J', ex⟩
        | next => exact False.elim hq
        | brk => exact False.elim hq
        | cont => exact False.elim hq
  · intro pins s σ G H x dx dy b J sm r1 r2 ⟨fs, gs, e1, e2, pf, pg, hl, hb, _⟩
    subst e1 e2
    exact hb (hsame pins s σ G H x fs gs J sm r1 r2 pf pg hl)
def ETup (E : D → D → Bool → Prop) (dx dy : D) (b : Bool) : Prop := ∃ (xs ys : List D) (e : Nat → Bool), dx = .tup xs ∧ dy = .tup ys ∧ (∀ i x y, xs[i]? = some x → ys[i]? = some y → E x y (e i)) ∧ b = ((xs.length == ys.length) && (List.range (min xs.length ys.length)).all e)
theorem EqB.tup {X : Cx} {n : Nat} {E : D → D → Bool → Prop} (h : EqB X n E) : EqB X (n + 1) (ETup E) := by
  have hsame : ∀ (pins : List (Addr × Obj)) (s : Shared) (σ : L2.St) (G H : Hp) (x : V) (dx dy : D) (b : Bool), Inv X pins σ H s → Same G H → Rep X.K G dx x → Rep X.K G dy x → ETup E dx dy b → b = true := by
    intro pins s σ G H x dx dy b J sm r1 r2 ⟨xs, ys, e, e1, e2, he, hb⟩
    subst e1 e2 hb
    obtain ⟨a, vs, ea, t1, q1⟩ := r1
    obtain ⟨a', us, ea', t2, q2⟩ := r2
    rw [ea] at ea'
    cases ea'
    have evs := J.tuple_inj (sqT_mono sm t1) (sqT_mono sm t2)
    subst evs
    have hl : xs.length = ys.length := by rw [← q1.length, ← q2.length]
    rw [Bool.and_eq_true, beq_iff_eq]
    refine ⟨hl, ?_⟩
    rw [List.all_eq_true]
    intro i hi
    have hi := List.mem_range.mp hi
    have h1 : xs[i]? = some (xs[i]'(by omega)) := List.getElem?_eq_getElem (by omega)
    have h2 : ys[i]? = some (ys[i]'(by omega)) := List.getElem?_eq_getElem (by omega)
    obtain ⟨v, k1, k2⟩ := q1.get h1
    obtain ⟨v', k3, k4⟩ := q2.get h2
    rw [k1] at k3
    cases k3
    exact h.same pins s σ G H v _ _ _ J sm k2 k4 (he i _ _ h1 h2)
  refine ⟨?_, hsame⟩
  intro A pins s σ G H x y u v dx dy b sb J rx ry sm r1 r2 hE
  obtain ⟨xs, ys, e, e1, e2, he, hb⟩ := id hE
  subst e1 e2
  obtain ⟨a, vs, ea, t1, q1⟩ := id r1
  obtain ⟨c, us, ec, t2, q2⟩ := id r2
  subst ea ec
  cases (show u = Value.ref a from rx)
  cases (show v = Value.ref c from ry)
  by_cases hac : a = c
  · subst hac
    have hbt := hsame pins s σ G H _ _ _ _ J sm r1 r2 hE
    rw [hbt]
    exact SeqAt.EqAt.same (A := A) (s := s) (.ref a) X.prog X.w X.xe _ ⟨rfl, H, J, Ext.rfl'⟩
  · refine GQ.eqBool_refG hac ?_
    obtain ⟨its, rv, ⟨⟨cls, dd, data, sl⟩, ho, hc, nn, hd⟩, _⟩ := J.tuple (sqT_mono sm t1)
    obtain ⟨its2, rv2, ⟨⟨cls2, dd2, data2, sl2⟩, ho2, hc2, nn2, hd2⟩, _⟩ := J.tuple (sqT_mono sm t2)
    simp only at hc hd hc2 hd2
    subst hc hd hc2 hd2
    have hn1 : its.toArray.size = xs.length := by rw [List.size_toArray, ← rv.length, q1.length]
    have hn2 : its2.toArray.size = ys.length := by rw [List.size_toArray, ← rv2.length, q2.length]
    refine wpAny_richCompare_same_room (op := .Eq) ⟨_, ho, rfl⟩ ⟨_, ho2, rfl⟩ F.slot_tuple_eq (GQ.call_here F.slot_tuple_eq ⟨_, ho, rfl⟩ F.entry_tuple_eq (F.args_tuple_eq_2 _ _) ?_) sb.room.units0
    refine GQ.tuple_eqB (R := wants (fun v s' => v ≠ .notImplemented ∧ ∃ r, v = .bool r ∧ r = b ∧ ∃ H', Inv X pins σ H' s' ∧ Ext H H') X.xe) a c its.toArray its2.toArray nn nn2 dd dd2 sl sl2 (fun s' => ∃ H', Inv X pins σ H' s' ∧ Ext H H') e ?_ ?_ ho ho2 ⟨H, J, Ext.rfl'⟩
    · rintro i h1 h2 s' ⟨H1, J1, ex1⟩
      have k1 : i < xs.length := by omega
      have k2 : i < ys.length := by omega
      obtain ⟨w1, g1, rw1⟩ := q1.get (List.getElem?_eq_getElem k1)
      obtain ⟨w2, g2, rw2⟩ := q2.get (List.getElem?_eq_getElem k2)
      obtain ⟨u1, gu1, ru1⟩ := rv.get g1
      obtain ⟨u2, gu2, ru2⟩ := rv2.get g2
      have m1 : its.toArray[i] = u1 := by
        have := (List.getElem?_eq_some_iff.mp gu1).2
        simpa using this
      have m2 : its2.toArray[i] = u2 := by
        have := (List.getElem?_eq_some_iff.mp gu2).2
        simpa using this
      rw [m1, m2]
      refine wpAny_mono (h.run A.in1 pins s' σ G H1 w1 w2 u1 u2 _ _ (e i) sb.in1 J1 ru1 ru2 (fun p o hp => ex1 p o (sm p o hp)) rw1 rw2 (he i _ _ (List.getElem?_eq_getElem k1) (List.getElem?_eq_getElem k2))) (fun r s2 q => ?_) fun _ _ x => x
      obtain ⟨hr, H2, J2, ex2⟩ := q
      exact ⟨hr, H2, J2, ex1.trans ex2⟩
    · rintro s' ⟨H', J', ex⟩
      exact ⟨(fun z => nomatch z), _, rfl, by rw [hb, hn1, hn2], H', J', ex⟩
end DL
set_option Elab.async false
set_option linter.all false
set_option maxRecDepth 100000
set_option maxHeartbeats 4000000
namespace DL
open PySem PySem.Calls PyProof.Rows PyProof.V PySem.Spec PySem.W
section
variable {prog : Program} {w : World} {K : Type} [DecidableEq K] {knd : KeyKind prog w K} {A : Around} {E : Value → Shared → Prop} {s : Shared}
inductive KHits {K : Type} [DecidableEq K] (prog : Program) (w : World) (A : Around) (E : Value → Shared → Prop) (J : Shared → Prop) (kb : List (K × Value)) : List (K × Value) → Bool → Prop
  | nil : KHits prog w A E J kb [] true
  | miss {k : K} {v : Value} {r : List (K × Value)} : valueAt kb k = none → KHits prog w A E J kb ((k, v) :: r) false
  | hit {k : K} {v y : Value} {r : List (K × Value)} {e b : Bool} : valueAt kb k = some y → (∀ s, J s → wpAny (model prog w) A (eqBool v y) (fun z s' => z = e ∧ J s') E s) → KHits prog w A E J kb r b → KHits prog w A E J kb ((k, v) :: r) (e && b)
end
end DL
namespace DL
open PySem PySem.Spec PyProof.Rows L2
inductive EHits (E : D → D → Bool → Prop) (kb : List (Key × D)) : List (Key × D) → Bool → Prop
  | nil : EHits E kb [] true
  | miss {k : Key} {d : D} {r : List (Key × D)} : getG kb k = none → EHits E kb ((k, d) :: r) false
  | hit {k : Key} {d e : D} {r : List (Key × D)} {b b' : Bool} : getG kb k = some e → E d e b → EHits E kb r b' → EHits E kb ((k, d) :: r) (b && b')
theorem Hd.ext {K : PySem.W.Frag} {I : Iv K} {G H H' : Hp} (h : Hd I G H) (e : Ext H H') : Hd I G H' :=
  ⟨I.loc G G H H' (Same.refl G) (fun a ha => by
    cases q : H a with
    | none => exact absurd q (h.dom ha)
    | some o => exact e a o q) h.ph, h.fr⟩
end DL
set_option Elab.async false
set_option linter.all false
set_option maxRecDepth 100000
set_option maxHeartbeats 4000000
namespace DL
open PySem PySem.Spec PyProof.Rows L2
def IsI (H : Hp) (a C : Addr) (m : Str) : Prop := (∃ dx vs, SlX.Slt H a C dx vs) ∨ ∃ dx fs, H a = some (.ins C dx fs) ∧ fs.lookup m = none
theorem isi_inst {X : Cx} {pins : List (Addr × Obj)} {σ : L2.St} {H : Hp} {s : Shared} {a C : Addr} {m : Str} (J : Inv X pins σ H s) (h : IsI H a C m) : ∃ ox od, PySem.W.InstAt s.heap a ox C (some od) ∧ PySem.W.lookIn m od = some none := by
  rcases h with ⟨dx, vs, h⟩ | ⟨dx, fs, h, hl⟩
  · obtain ⟨sl, od, _, O, k⟩ := SlX.slt_inst J h
    exact ⟨_, od, O, k m⟩
  · obtain ⟨mA, O, r, _, _, _⟩ := ins_get J.hok h
    have hn : mA m = none := RelO.none_of (by rw [← hl]; exact r m)
    obtain ⟨od, J2, k⟩ := O.look
    exact ⟨_, od, J2, by rw [k, hn]⟩
def InsD {K : PySem.W.Frag} (C : Addr) (m : Str) (x : D) (I : Iv K) : Prop := ∀ (G H : Hp) (v : V), Same G H → Hd I G H → Rep K G x v → ∃ a, v = .ref a ∧ IsI H a C m
section
variable {X : Cx} {W : WX} {R : Rx X.K} {n : Nat} {g : Addr} {S : Spec X.K} {pins : List (Addr × Obj)} {σ : L2.St} {H : Hp} {s : Shared}
theorem run_own (tk : Takes X W) {A : Around} {Q : VK} {us : List Value} {ws : List V} {sp : Sp} (F : FnR X.prog X.w X.K X.mg X.base (L2.CX X.prog X.w) n g sp) (hr : Room n A) (e0 : Env0 X.prog X.w X.K X.mg X.base A X.stack s H) (I : Inv X pins σ H s) (r : Vals ws us) (h : sp ws H Q (WE W σ)) :
    codeAny (model X.prog X.w) A (.call (.ref g) ⟨us, []⟩) (fun r s' => match r with | .ok (.ret v) => EP X pins σ Q v s' | .ok _ => False | .error e => X.xe e s') s := by
  refine codeAny_mono (F A X.stack s H us ws Q (WE W σ) hr e0 r h) fun r s' hq => ?_
  cases r with
  | error e => exact passAt tk σ pins H s e s' I hq
  | ok fl =>
    cases fl with
    | ret u => exact I.after hq
    | next => exact False.elim hq
    | brk => exact False.elim hq
    | cont => exact False.elim hq
end
theorem spD_at {X : Cx} {W : WX} {R : Rx X.K} {S : Spec X.K} {I : Iv X.K} {G H : Hp} {σ : L2.St} {ds : List D} {vs : List V} {Q : VK} {P : D → Iv X.K → Prop} (s : Same G H) (h : Hd I G H) (r : Reps X.K G ds vs) (k : S I ds P R) (q : Kv X.K Q G P) (qx : Kx X.K W σ G R) : spD X.K S vs H Q (WE W σ) :=
  ⟨I, G, ds, P, R, s, h, r, k, q, fun C dd fs l G' H' I' s2 t2 h2 r2 hx p => qx C dd fs l G' H' I' s2 t2 h2 r2 hx p⟩
structure PlG (K : PySem.W.Frag) (C : Addr) : Prop where
  g : ∀ f, PySem.W.plainGet K C f = true
section
variable {X : Cx} {W : WX} {R : Rx X.K} {n : Nat} {C : Addr} {m : Str} {S : Spec X.K} {δ : DEnv} {I : Iv X.K} {P : D → Iv X.K → Prop} {o a b e : Expr} {es : List Expr} {pos apos p : Pos} {κ : Ko X.K}
theorem ev_methA {pl : Sem Bool} (tk : Takes X W) (c : PlG X.K C) (hf : PySem.W.findIn X.K (.ref C) m = some (some (.ref (He.ma X.K C m)))) (hi : PySem.W.isFn X.K (.ref (He.ma X.K C m)) = true) (hk : PySem.W.keepIn X.K (.ref (He.ma X.K C m)) = true) (F : FnR X.prog X.w X.K X.mg X.base (L2.CX X.prog X.w) n (He.ma X.K C m) (spD X.K S)) (hr : Room n X.A)
    (h : EvX X W R o δ I fun x I1 => InsD C m x I1 ∧ EvA X W R (e :: es) δ I1 fun ds I2 => S I2 (x :: ds) P R)
    (hst : starEach (e :: es) X.env = (false, eval e X.env) :: starEach es X.env := by rfl) (hpl : (backTo pos (starEach es X.env)).any (·.1) = false := by rfl)
    (ht : eval (.Call (.Attribute o m apos) (e :: es) [] pos) X.env = (do
      let ov ← eval o X.env
      standAt apos.atName
      let (f, first) ← holding [ov] (getMethod ov m pl)
      callWith pos f first (backTo pos (starEach (e :: es) X.env)) (backToKw pos (keywordEach [] X.env))) := by rfl) : EvX X W R (.Call (.Attribute o m apos) (e :: es) [] pos) δ I P := fun σ G H Q hE s hI qx q => by
  refine ⟨fun pins st J => PySem.W.methodCall_KW (pl := pl) (thn (peC.run pins st σ H _ J (h σ G H (fun v H1 => ∃ a, v = .ref a ∧ IsI H1 a C m ∧ wpA X (e :: es) σ H1 fun vs H2 => spD X.K S (.ref a :: vs) H2 Q (WE W σ)) hE s hI qx fun v x G1 H1 I1 s1 t1 h1 r1 ⟨hx, ka⟩ => ?_)) fun u s1 ⟨x, H1, J1, rx, q1⟩ => ?_) ht⟩
  · obtain ⟨a, ea, hia⟩ := hx G1 H1 v t1 h1 r1
    refine ⟨a, ea, hia, ka σ G1 H1 _ (hE.mono s1) t1 h1 (qx.mono s1) fun vs ds G2 H2 I2 s2 t2 h2 r2 k2 => ?_⟩
    exact spD_at t2 h2 (.cons (by rw [← ea]; exact r1.mono s2) r2) k2 (q.mono (s1.trans s2)) (qx.mono (s1.trans s2))
  · obtain ⟨a, ea, hia, wa⟩ := q1
    subst ea
    obtain rfl : u = Value.ref a := rx
    obtain ⟨ox, od, O, hl⟩ := isi_inst J1 hia
    refine PySem.W.method_fn J1.kIn O (PySem.W.plainGet_of (c.g m)).1 (PySem.W.plainGet_of (c.g m)).2 hf (beq_iff_eq.mp hi) (by show (PySem.W.lookIn m od).map (·.isSome) = some false; rw [hl]; rfl) ?_
    refine PySem.W.callWith_K (first := [.ref a]) (h₀ := X.base) J1.ok.mod.kin hk (thn (paC.run pos pins s1 σ H1 _ J1 wa) fun us s2 ⟨vs, H2, J2, r, q2⟩ => ⟨J2.kIn, ?_⟩) hst hpl
    exact wpAny_call (run_own tk F hr J2.env0 J2 (us := .ref a :: us) (ws := .ref a :: vs) (.cons rfl r) q2)
theorem ev_meth0 {pl : Sem Bool} (tk : Takes X W) (c : PlG X.K C) (hf : PySem.W.findIn X.K (.ref C) m = some (some (.ref (He.ma X.K C m)))) (hi : PySem.W.isFn X.K (.ref (He.ma X.K C m)) = true) (hk : PySem.W.keepIn X.K (.ref (He.ma X.K C m)) = true) (F : FnR X.prog X.w X.K X.mg X.base (L2.CX X.prog X.w) n (He.ma X.K C m) (spD X.K S)) (hr : Room n X.A)
    (h : EvX X W R o δ I fun x I1 => InsD C m x I1 ∧ S I1 [x] P R)
    (ht : eval (.Call (.Attribute o m apos) [] [] pos) X.env = (do
      let ov ← eval o X.env
      standAt apos.atName
      let (f, first) ← holding [ov] (getMethod ov m pl)
      callWith pos f first (backTo pos (starEach [] X.env)) (backToKw pos (keywordEach [] X.env))) := by rfl) : EvX X W R (.Call (.Attribute o m apos) [] [] pos) δ I P := fun σ G H Q hE s hI qx q => by
  refine ⟨fun pins st J => PySem.W.methodCall_KW (pl := pl) (thn (peC.run pins st σ H _ J (h σ G H (fun v H1 => ∃ a, v = .ref a ∧ IsI H1 a C m ∧ spD X.K S [.ref a] H1 Q (WE W σ)) hE s hI qx fun v x G1 H1 I1 s1 t1 h1 r1 ⟨hx, ka⟩ => ?_)) fun u s1 ⟨x, H1, J1, rx, q1⟩ => ?_) ht⟩
  · obtain ⟨a, ea, hia⟩ := hx G1 H1 v t1 h1 r1
    exact ⟨a, ea, hia, spD_at t1 h1 (.cons (by rw [← ea]; exact r1) .nil) ka (q.mono s1) (qx.mono s1)⟩
  · obtain ⟨a, ea, hia, q2⟩ := q1
    subst ea
    obtain rfl : u = Value.ref a := rx
    obtain ⟨ox, od, O, hl⟩ := isi_inst J1 hia
    refine PySem.W.method_fn J1.kIn O (PySem.W.plainGet_of (c.g m)).1 (PySem.W.plainGet_of (c.g m)).2 hf (beq_iff_eq.mp hi) (by show (PySem.W.lookIn m od).map (·.isSome) = some false; rw [hl]; rfl) ?_
    exact PySem.W.callWith_K0 (first := [.ref a]) J1.kIn hk (wpAny_call (run_own tk F hr J1.env0 J1 (us := [.ref a]) (ws := [.ref a]) (.cons rfl .nil) q2))
theorem ev_subOwn (tk : Takes X W) (hf : PySem.W.findIn X.K (.ref C) "__getitem__" = some (some (.ref (He.ma X.K C "__getitem__")))) (hi : PySem.W.isFn X.K (.ref (He.ma X.K C "__getitem__")) = true) (hn : PySem.W.fnIn X.K (He.ma X.K C "__getitem__") = true) (F : FnR X.prog X.w X.K X.mg X.base (L2.CX X.prog X.w) n (He.ma X.K C "__getitem__") (spD X.K S)) (hr : Room (n + 1) X.A)
    (h : EvX X W R a δ I fun x I1 => EvX X W R b δ I1 fun y I2 => InsD C "" x I2 ∧ S I2 [x, y] P R)
    (hsl : ∀ v i, subscripted b true v i = runValue (.builtin "lifetime.subscript" ⟨[v, i], []⟩) := by intro _ _; with_unfolding_all rfl) : EvX X W R (.Subscript a b pos) δ I P := fun σ G H Q hE s hI qx q => by
  refine ⟨fun pins st J => Subscript_ (binT peC peC J (R := fun x y H2 => ∃ c, x = .ref c ∧ IsI H2 c C "" ∧ spD X.K S [x, y] H2 Q (WE W σ)) (h σ G H _ hE s hI qx fun v x G1 H1 I1 s1 t1 h1 r1 k1 => k1 σ G1 H1 _ (hE.mono s1) t1 h1 (qx.mono s1) fun w y G2 H2 I2 s2 t2 h2 r2 ⟨hx, k2⟩ => ?_) fun v u s2 x y H2 J2 rx ry ⟨c, ec, hic, q2⟩ => ?_)⟩
  · obtain ⟨c, ec, hic⟩ := hx G2 H2 v t2 h2 (r1.mono s2)
    exact ⟨c, ec, hic, spD_at t2 h2 (.cons (r1.mono s2) (.cons r2 .nil)) k2 (q.mono (s1.trans s2)) (qx.mono (s1.trans s2))⟩
  · subst ec
    obtain rfl : v = Value.ref c := rx
    obtain ⟨ox, od, O, _⟩ := isi_inst J2 hic
    obtain ⟨mm, hF⟩ := J2.fr
    exact PySem.W.sub_K hF J2.ok.mod.kin O hf hn hi (wpAny_call (run_own tk F hr.in1 J2.env0.in1 J2 (us := [.ref c, u]) (ws := [.ref c, y]) (.cons rfl (.cons ry .nil)) q2)) (hsl _ _)
end
end DL
set_option Elab.async false
set_option linter.all false
set_option maxRecDepth 100000
set_option maxHeartbeats 4000000
namespace DL
open PySem PySem.Spec PyProof.Rows L2
section
variable {K : PySem.W.Frag} {I : Iv K} {y : D} {p : Addr} {ds : List D} {c : Rc K}
end
section
variable {X : Cx} {I : Iv X.K} {a b e : Expr} {δ : DEnv} {pos pos2 : Pos} {y : D} {p : Addr} {ds : List D}
end
end DL
set_option Elab.async false
set_option linter.all false
set_option maxRecDepth 100000
set_option maxHeartbeats 4000000
namespace DL
open PySem PySem.Spec PyProof.Rows L2
section
variable {X : Cx} {W : WX} {R : Rx X.K} {a b e iter tg : Expr} {lo hi : Option Expr} {δ : DEnv} {I : Iv X.K} {pos p2 : Pos} {ds : List D} {P : D → Iv X.K → Prop} {κ : Ko X.K} {st : Stmt} {body : List Stmt}
theorem s_joint (M : DEnv → Iv X.K → Prop) (h : S1 X W st δ I { κ with nx := M }) (k : ∀ δ' I', M δ' I' → κ.nx δ' I') : S1 X W st δ I κ := S1.imp h k (fun _ _ x => x) (fun _ _ x => x) (fun _ _ x => x) (fun _ _ _ _ x => x)
theorem s_whileP {c : Expr} (po : PassesOwn (model X.prog X.w) X.A X.env X.xe) (Nv : Nat → DEnv → Iv X.K → Prop) (m : Nat) (i0 : Nv m δ I)
    (step : ∀ m δ' I', Nv m δ' I' → ∃ b, PVT X I' c δ' b ∧ (b = true → SX X W body δ' I' { κ with nx := fun δ'' I'' => ∃ m', m' < m ∧ Nv m' δ'' I'', ct := fun δ'' I'' => ∃ m', m' < m ∧ Nv m' δ'' I'', bk := κ.nx }) ∧ (b = false → κ.nx δ' I')) : S1 X W (.While c body [] pos) δ I κ :=
  s_while po Nv m i0 fun m δ' I' h => by
    obtain ⟨b, pt, h1, h2⟩ := step m δ' I' h
    refine pt W _ _ ?_
    cases b with
    | true => exact h1 rfl
    | false => exact h2 rfl
theorem s_forE (po : PassesOwn (model X.prog X.w) X.A X.env X.xe) (h : EvI X W (κ.r δ) tg iter δ I fun ds I1 => ∃ (α : Type) (xs : List α) (g : α → D) (Nv : List α → DEnv → Iv X.K → Prop), ds = xs.map g ∧ Nv [] δ I1 ∧
      (∀ p x r δ' I', xs = p ++ x :: r → Nv p δ' I' → ∃ δ'' vs, BindD X tg (g x) δ' δ'' vs ∧ SX X W body δ'' I' { κ with nx := Nv (p ++ [x]), ct := Nv (p ++ [x]), bk := κ.nx }) ∧ ∀ δ' I', Nv xs δ' I' → κ.nx δ' I')
    (hc : X.calm = true := by rfl) (hs : ∀ x, foldedSetIterable iter X.env x = pure x := by intro _; rfl) : S1 X W (.For tg iter body [] pos) δ I κ :=
  s_for po (fun σ G H RR hE s hI qx q => h σ G H RR hE s hI qx fun J ds G' H' I' s1 t1 h1 wd ⟨α, xs, g, Nv, ed, h0, step, fin⟩ => q J ds G' H' I' s1 t1 h1 wd (by
    subst ed
    exact ⟨fun i => Nv (xs.take i), h0, fun i d δ' I' hd nv => by
      obtain ⟨x, hx, rfl⟩ := get_map hd
      have hl := (List.getElem?_eq_some_iff.mp hx).1
      have e : xs = xs.take i ++ x :: xs.drop (i + 1) := by
        rw [← (List.getElem?_eq_some_iff.mp hx).2, List.getElem_cons_drop hl, List.take_append_drop]
      have e2 : xs.take (i + 1) = xs.take i ++ [x] := take_snoc hx
      obtain ⟨δ'', vs, b, q⟩ := step _ x _ δ' I' e nv
      rw [← e2] at q
      exact ⟨δ'', vs, b, q⟩, fun δ' I' nv => fin δ' I' (by rw [List.length_map, List.take_length] at nv; exact nv)⟩)) hc hs
end
end DL
set_option Elab.async false
set_option linter.all false
set_option maxRecDepth 100000
set_option maxHeartbeats 4000000
namespace DL
open PySem PySem.Spec PyProof.Rows L2
def iIns (K : PySem.W.Frag) (x C dx : Addr) (fs : List (Str × D)) : Iv K where
  F := fun a => a = x ∨ a = dx
  φ := fun G H => H dx = some (.own x) ∧ dx ≠ x ∧ ∃ vs, H x = some (.ins C dx vs) ∧ FRep K G fs vs
  loc := fun G G' H H' s k ⟨h1, h0, vs, h2, h3⟩ => ⟨by rw [k dx (.inr rfl)]; exact h1, h0, vs, by rw [k x (.inl rfl)]; exact h2, h3.mono s⟩
  dom := fun G H ⟨h1, _, vs, h2, _⟩ a ha => by
    rcases ha with e | e
    · subst e; rw [h2]; simp
    · subst e; rw [h1]; simp
def putA (f : Str) (d : D) : List (Str × D) → List (Str × D)
  | [] => [(f, d)]
  | (g, x) :: r => if g = f then (g, d) :: r else (g, x) :: putA f d r
theorem FRep.put {K : PySem.W.Frag} {G : Hp} {f : Str} {d : D} {v : V} (r : Rep K G d v) : ∀ {fs : List (Str × D)} {vs : List (Str × V)}, FRep K G fs vs → FRep K G (putA f d fs) (putF f v vs)
  | [], l, h => by
    rw [show l = [] from h]
    exact ⟨v, [], rfl, r, rfl⟩
  | (g, x) :: ps, l, ⟨u, m, e, r1, r2⟩ => by
    rw [e]
    show FRep K G (if g = f then _ else _) (if g = f then _ else _)
    by_cases hg : g = f
    · rw [if_pos hg, if_pos hg]
      exact ⟨v, m, rfl, r, r2⟩
    · rw [if_neg hg, if_neg hg]
      exact ⟨u, _, rfl, r1, FRep.put r r2⟩
theorem FRep.none {K : PySem.W.Frag} {G : Hp} {f : Str} : ∀ {fs : List (Str × D)} {vs : List (Str × V)}, FRep K G fs vs → fs.lookup f = none → vs.lookup f = none
  | [], l, h, _ => by rw [show l = [] from h]; rfl
  | (g, x) :: ps, l, ⟨u, m, e, r1, r2⟩, hn => by
    rw [e]
    simp only [List.lookup] at hn ⊢
    split at hn
    · cases hn
    · exact FRep.none r2 hn
theorem FRep.len {K : PySem.W.Frag} {G : Hp} {fs : List (Str × D)} {vs : List (Str × V)} (h : FRep K G fs vs) : vs.length = fs.length := by
  have := congrArg List.length (FRep.of h).1
  simpa using this
section
variable {K : PySem.W.Frag} {G H : Hp} {x C dx : Addr} {fs : List (Str × D)} {c : Rc K} {I : Iv K} {f m : Str} {d : D}
theorem Hd.ins (h : Hd (c.fill (iIns K x C dx fs)) G H) : ∃ vs, H x = some (.ins C dx vs) ∧ FRep K G fs vs ∧ G x = none := by
  obtain ⟨h1, h0, vs, h2, h3⟩ := h.inner.ph
  exact ⟨vs, h2, h3, h.inner.fr x (.inl rfl)⟩
theorem Hd.insSet {v : V} (h : Hd (c.fill (iIns K x C dx fs)) G H) (r : Rep K G d v) {vs : List (Str × V)} (hx : H x = some (.ins C dx vs)) (rf : FRep K G fs vs) : Hd (c.fill (iIns K x C dx (putA f d fs))) G (upd H x (.ins C dx (putF f v vs))) :=
  Hd.change (I := iIns K x C dx fs) (I' := iIns K x C dx (putA f d fs)) (fun _ => Iff.rfl) (fun a ha => upd_ne fun e => ha (.inl e)) ⟨by
    obtain ⟨h1, h0, _⟩ := h.inner.ph
    exact ⟨(upd_ne h0).trans h1, h0, _, upd_same, rf.put r⟩, h.inner.fr⟩ h
theorem insD_ins (c : Rc K) (hm : fs.lookup m = none) (eI : I = c.fill (iIns K x C dx fs) := by rfl) : InsD C m (.adr x) I := fun G H v s h r => by
  subst eI
  obtain ⟨vs, h2, h3, _⟩ := h.ins
  exact ⟨x, r, .inr ⟨dx, vs, h2, h3.none hm⟩⟩
end
section
variable {X : Cx} {W : WX} {R : Rx X.K} {a b e o : Expr} {es : List Expr} {δ : DEnv} {I : Iv X.K} {P : D → Iv X.K → Prop} {pos p q' : Pos} {f : Str} {d z : D} {x C dx : Addr} {fs : List (Str × D)} {κ : Ko X.K}
theorem ev_fld (k : Rc X.K) (c : Cls X.K C) (n : NoAttr X.K C f) (hd : fs.lookup f = some d) (h : EvX X W R o δ I fun y I1 => y = .adr x ∧ I1 = k.fill (iIns X.K x C dx fs) ∧ P d I1) (hb : attributeBase o f X.env (eval o X.env) = eval o X.env := by rfl) : EvX X W R (.Attribute o f pos) δ I P := fun σ G H Q hE s hI qx q =>
  PE.wp (pe_fld peC hb) (h σ G H _ hE s hI qx fun v y G1 H1 I1 s1 t1 h1 r1 ⟨ey, ei, pp⟩ => by
    subst ey ei
    obtain ⟨vs, h2, h3, _⟩ := h1.ins
    obtain ⟨u, hu, ru⟩ := (FRep.of h3).2 f d hd
    exact ⟨x, C, dx, vs, u, r1, h2, c, n, hu, q u d G1 H1 _ s1 t1 h1 ru pp⟩)
theorem pv_fld (k : Rc X.K) (c : Cls X.K C) (n : NoAttr X.K C f) (ho : PV X I o δ (.adr x)) (hd : fs.lookup f = some d) (hb : attributeBase o f X.env (eval o X.env) = eval o X.env := by rfl) (eI : I = k.fill (iIns X.K x C dx fs) := by rfl) : PV X I (.Attribute o f pos) δ d := fun W R P pp =>
  ev_fld k c n hd (ho W R _ ⟨rfl, eI, pp⟩) hb
theorem s_fld (c : Cls X.K C) (n : NoAttr X.K C f) (h : EvX X W (κ.r δ) e δ I fun d I1 => ∃ (k : Rc X.K) (x dx : Addr) (fs : List (Str × D)), I1 = k.fill (iIns X.K x C dx fs) ∧ PV X I1 o δ (.adr x) ∧ fs.length < 1000 ∧ κ.nx δ (k.fill (iIns X.K x C dx (putA f d fs))))
    (hs : swapsWith e (some (.Attribute o f q')) pos.line X.env = pure false := by rfl) : S1 X W (.Assign [.Attribute o f q'] e pos) δ I κ := fun σ G H E hE s hI kk =>
  PS.wp (ps_fld peC peC hs) (h σ G H _ hE s hI (kk.kx hE) fun v d1 G1 H1 I1 s1 t1 h1 r1 ⟨k, x, dx, fs, ei, ho, hl, nx⟩ => by
    subst ei
    refine ho W (κ.r δ) (fun z J => z = .adr x ∧ J = k.fill (iIns X.K x C dx fs)) ⟨rfl, rfl⟩ σ G1 H1 _ (hE.mono s1) t1 h1 ((kk.kx hE).mono s1) fun v2 d2 G2 H2 I2 s2 t2 h2 r2 ⟨ed2, ei2⟩ => ?_
    subst ed2 ei2
    obtain ⟨vs, h3, h4, h5⟩ := h2.ins
    refine ⟨x, C, dx, vs, r2, h3, c, n, by rw [h4.len]; exact hl, ?_⟩
    exact kk.nx δ σ G2 _ _ (s1.trans s2) (same_upd t2 h5) (h2.insSet (r1.mono s2) h3 h4) (hE.mono (s1.trans s2)) nx)
theorem s_fldP (k : Rc X.K) (c : Cls X.K C) (n : NoAttr X.K C f) (ho : PV X I o δ (.adr x)) (h : PV X I e δ d) (nx : κ.nx δ (k.fill (iIns X.K x C dx (putA f d fs))))
    (hs : swapsWith e (some (.Attribute o f q')) pos.line X.env = pure false := by rfl) (eI : I = k.fill (iIns X.K x C dx fs) := by rfl) (hl : decide (fs.length < 1000) = true := by rfl) : S1 X W (.Assign [.Attribute o f q'] e pos) δ I κ := by
  subst eI
  exact s_fld c n (h W _ _ ⟨k, x, dx, fs, rfl, ho, of_decide_eq_true hl, nx⟩) hs
theorem s_fldaug {op : Operator} {rd : V → V → Hp → VK → Prop} (k : Rc X.K) (c : Cls X.K C) (n : NoAttr X.K C f) (hop : InOp X op rd) (ho : PV X I o δ (.adr x)) (hd : fs.lookup f = some d) (he : PV X I e δ z) {y : D} (h2 : P2 X.K I rd d z y) (nx : κ.nx δ (k.fill (iIns X.K x C dx (putA f y fs)))) (eI : I = k.fill (iIns X.K x C dx fs) := by rfl) (hl0 : decide (fs.length < 1000) = true := by rfl) : S1 X W (.AugAssign (.Attribute o f p) op e pos) δ I κ := fun σ G H E hE s hI kk => by
  subst eI
  have hl : fs.length < 1000 := of_decide_eq_true hl0
  exact PS.wp (ps_fldaug peC peC hop) (ho W (κ.r δ) (fun z J => z = .adr x ∧ J = k.fill (iIns X.K x C dx fs)) ⟨rfl, rfl⟩ σ G H _ hE s hI (kk.kx hE) fun v1 d1 G1 H1 I1 s1 t1 h1 r1 ⟨ed1, ei1⟩ => by
    subst ed1 ei1
    obtain ⟨vs, h3, h4, h5⟩ := h1.ins
    obtain ⟨u, hu, ru⟩ := (FRep.of h4).2 f d hd
    refine ⟨x, C, dx, vs, u, r1, h3, c, n, hu, ?_⟩
    refine he W (κ.r δ) (fun w J => w = z ∧ J = k.fill (iIns X.K x C dx fs)) ⟨rfl, rfl⟩ σ G1 H1 _ (hE.mono s1) t1 h1 ((kk.kx hE).mono s1) fun v2 d2 G2 H2 I2 s2 t2 g2 r2 ⟨ed2, ei2⟩ => ?_
    subst ed2 ei2
    refine h2 (fun w J => w = y ∧ J = k.fill (iIns X.K x C dx fs)) ⟨rfl, rfl⟩ G2 H2 u v2 _ t2 g2 (ru.mono s2) r2 fun v3 d3 G3 H3 I3 s3 t3 g3 r3 ⟨ed3, ei3⟩ => ?_
    subst ed3 ei3
    obtain ⟨vs', h3', h4', h5'⟩ := g3.ins
    refine ⟨dx, vs', h3', by rw [h4'.len]; exact hl, ?_⟩
    exact kk.nx δ σ G3 _ _ ((s1.trans s2).trans s3) (same_upd t3 h5') (g3.insSet r3 h3' h4') (hE.mono ((s1.trans s2).trans s3)) nx)
theorem ev_makeI {x' : Str} {g : Addr} {fd : FuncData} {ps : List Str} {j : Nat} {S : Spec X.K} (tk : Takes X W) (M : Mk X.K C g) (F : FnOk X.prog X.w X.K X.mg X.base (L2.CX X.prog X.w) j g fd ps (spD X.K S)) (hr : Room (j + 1) X.A) (hm : X.mg x' = some (.ref C)) (hb : L2.Binds X.K fd ps [])
    (h : EvA X W R (e :: es) δ I fun ds I1 => ∀ y dy, (∀ a, ¬ (I1.F a ∧ (a = y ∨ a = dy))) → S (I1.and (iIns X.K y C dy [])) (.adr y :: ds) (fun v I3 => v = .non ∧ P (.adr y) I3) (fun C' fs I3 => R C' fs I3))
    (hg : Gl X x' := by rfl) (hdb : (x' == ("__debug__" : Str)) = false := by decide)
    (he : starEach (e :: es) X.env = (false, eval e X.env) :: starEach es X.env := by rfl) (hpl : (backTo pos (starEach es X.env)).any (·.1) = false := by rfl) : EvX X W R (.Call (.Name x' p) (e :: es) [] pos) δ I P := fun σ G H Q hE s hI qx q => ⟨fun pins s0 J0 => by
  refine wpAny_Call_Name_kw (ld_glob J0 hg hm ?_ hdb)
  refine PySem.W.callWith_K (h₀ := X.base) J0.ok.mod.kin M.kp (thn (paC.run pos pins s0 σ H _ J0 (h σ G H (fun vs H1 => ∀ x dx, H1 x = none → H1 dx = none → dx ≠ x → spD X.K S (.ref x :: vs) (upd (upd H1 dx (.own x)) x (.ins C dx [])) (fun v H2 => v = .non ∧ Q (.ref x) H2) (WE W σ)) hE s hI qx ?_)) fun us s1 ⟨vs, H1, J1, r, q1⟩ => ⟨J1.kIn, ?_⟩) he hpl
  · intro vs ds G1 H1 I1 s1 t1 h1 r1 hS y dy ny nd dn
    have gd : G1 dy = none := t1.free nd
    have gy : G1 y = none := t1.free ny
    have ny2 : upd H1 dy (.own y) y = none := by rw [upd_ne (Ne.symm dn)]; exact ny
    have na : ∀ a, ¬ (I1.F a ∧ (a = y ∨ a = dy)) := fun a ha => ha.2.elim (fun e => h1.dom ha.1 (by rw [e]; exact ny)) (fun e => h1.dom ha.1 (by rw [e]; exact nd))
    have hd3 : Hd (I1.and (iIns X.K y C dy [])) G1 (upd (upd H1 dy (.own y)) y (.ins C dy [])) := by
      refine Hd.mk2 ((h1.newp nd).newp ny2) ⟨⟨by rw [upd_ne dn, upd_same], dn, [], upd_same, rfl⟩, fun a ha => ?_⟩ na
      rcases ha with e | e
      · subst e; exact gy
      · subst e; exact gd
    refine spD_at (ds := .adr y :: ds) (same_upd (same_upd t1 gd) gy) hd3 (.cons rfl r1) (hS y dy na) ?_ ?_
    · intro v d G' H' I' s3 t3 h3 r3 ⟨ed, pp⟩
      subst ed
      exact ⟨r3, q (.ref y) (.adr y) G' H' I' (s1.trans s3) t3 h3 rfl pp⟩
    · exact fun C' dd fs l G' H' I' s3 t3 h3 r3 hx pp => qx C' dd fs l G' H' I' (s1.trans s3) t3 h3 r3 hx pp
  · have hq := q1 (s1.heap.objs.size + 1) s1.heap.objs.size (J1.hok.fresh (Nat.le_succ _)) (J1.hok.fresh (Nat.le_refl _)) (Nat.ne_of_lt (Nat.lt_succ_self _))
    have J2 := Inv.made (C := C) J1
    have r2 : Vals (V.ref (s1.heap.objs.size + 1) :: vs) (Value.ref (s1.heap.objs.size + 1) :: us) := .cons rfl r
    have hl : ((Value.ref (s1.heap.objs.size + 1) :: us) ++ []).length = ps.length := by
      rw [List.append_nil, ← r2.length]
      exact F.len _ _ _ _ hq
    refine wpAny_call (make_map (f := g) J1.kIn M.makes M.init (beq_iff_eq.mp M.fn) (codeAny_mono (F.run _ X.stack _ _ ⟨Value.ref (s1.heap.objs.size + 1) :: us, []⟩ ((Value.ref (s1.heap.objs.size + 1) :: us) ++ []) _ _ (WE W σ) (hr.make C us [])
      (J2.env0.make C us []) (hb _ (Value.ref (s1.heap.objs.size + 1) :: us) J2.kIn hl) (by rw [List.append_nil]; exact r2) hq) fun r s' hq' => ?_))
    cases r with
    | error e => exact passAt tk σ pins _ _ e s' J2 hq'
    | ok fl =>
      cases fl with
      | ret u =>
        obtain ⟨v, H', J4, rv', ev, q3⟩ := J2.after hq'
        subst ev
        exact ⟨rv', ⟨V.ref (s1.heap.objs.size + 1), H', J4, rfl, q3⟩⟩
      | next => exact False.elim hq'
      | brk => exact False.elim hq'
      | cont => exact False.elim hq'⟩
end
end DL
set_option Elab.async false
set_option linter.all false
set_option maxRecDepth 100000
set_option maxHeartbeats 4000000
namespace L2
open PySem PySem.Spec PyProof.Rows
section
variable {prog : Program} {w : World} {A : Around} {E : Value → Shared → Prop} {s : Shared} {l : Addr} {its : List Value} {ns : List Int} {Q : Value → Shared → Prop}
end
section
variable {X : Cx}
end
end L2
namespace DL
open PySem PySem.Spec PyProof.Rows L2
section
variable {X : Cx} {W : WX} {R : Rx X.K} {a b o e : Expr} {es : List Expr} {δ : DEnv} {I : Iv X.K} {P : D → Iv X.K → Prop} {pos p apos ep : Pos} {d x y z : D} {ds : List D} {κ : Ko X.K} {ns : List Int} {ss : List Str} {k : Str} {q : Addr} {n : Nat}
theorem reps_rep {K : PySem.W.Frag} {G : Hp} {vs : List V} (r : Reps K G ds vs) : ∀ n : Nat, Reps K G (List.replicate n ds).flatten (List.replicate n vs).flatten
  | 0 => rfl
  | n + 1 => by rw [List.replicate_succ, List.replicate_succ, List.flatten_cons, List.flatten_cons]; exact r.append (reps_rep r n)
end
end DL
set_option Elab.async false
set_option linter.all false
set_option maxRecDepth 100000
set_option maxHeartbeats 4000000
namespace L2
open PySem PySem.Spec PyProof.Rows
section
variable {X : Cx} {a b o e : Expr} {es : List Expr} {ta tb to : TE} {t : TA} {pos cpos apos : Pos} {name : Str} {id : String} {r : V → List V → Hp → VK → Prop}
end
end L2
namespace DL
open PySem PySem.Spec PyProof.Rows L2
section
variable {X : Cx} {W : WX} {R : Rx X.K} {a b o e : Expr} {es : List Expr} {δ : DEnv} {I : Iv X.K} {P : D → Iv X.K → Prop} {pos p apos ep : Pos} {d x y z : D} {ds : List D} {κ : Ko X.K} {ns : List Int} {ss : List Str} {k : Str} {q : Addr} {n : Nat}
end
end DL
set_option Elab.async false
set_option linter.all false
set_option maxRecDepth 100000
set_option maxHeartbeats 4000000
namespace DL
open PySem PySem.Spec PyProof.Rows L2
section
variable {X : Cx} {W : WX} {R : Rx X.K} {elt tg iter tg1 iter1 e a : Expr} {scope : Scope} {δ : DEnv} {I : Iv X.K} {P : D → Iv X.K → Prop} {pos p : Pos} {κ : Ko X.K} {d z : D} {ds : List D}
end
end DL
set_option Elab.async false
set_option linter.all false
set_option maxRecDepth 100000
set_option maxHeartbeats 4000000
namespace DL
open PySem PySem.Spec PyProof.Rows L2
section
variable {X : Cx} {W : WX} {R : Rx X.K} {a b o e : Expr} {es : List Expr} {δ : DEnv} {I : Iv X.K} {P : D → Iv X.K → Prop} {pos p : Pos} {κ : Ko X.K} {d z : D} {ds : List D} {x' : Str} {n m : Int}
end
section
variable {X : Cx} {W : WX} {R : Rx X.K} {a b o e i : Expr} {δ : DEnv} {I : Iv X.K} {pos p : Pos} {y z : D} {kds : List (Key × D)} {k : Key}
end
end DL
set_option Elab.async false
set_option linter.all false
set_option maxRecDepth 100000
set_option maxHeartbeats 4000000
namespace DL
open PySem PySem.Spec PyProof.Rows L2
section
variable {X : Cx} {W : WX} {R : Rx X.K} {e : Expr} {sts : List Stmt} {st : Stmt} {δ : DEnv} {I J : Iv X.K} {κ : Ko X.K} {P : D → Iv X.K → Prop}
theorem SX.drop (h : SX X W sts δ I κ) : SX X W sts δ (I.and J) κ := fun σ G H E hE s hI k => h σ G H E hE s hI.left k
theorem S1.drop (h : S1 X W st δ I κ) : S1 X W st δ (I.and J) κ := fun σ G H E hE s hI k => h σ G H E hE s hI.left k
theorem EvX.drop (h : EvX X W R e δ I fun d I1 => ∃ I2 J2, I1 = I2.and J2 ∧ P d I2) : EvX X W R e δ I P := fun σ G H Q hE s hI qx q => h σ G H Q hE s hI qx fun v d G1 H1 I1 s1 t1 h1 r1 ⟨I2, J2, ei, pp⟩ => by
  subst ei
  exact q v d G1 H1 I2 s1 t1 h1.left r1 pp
end
end DL
set_option Elab.async false
set_option linter.all false
set_option maxRecDepth 100000
set_option maxHeartbeats 4000000
namespace L2
open PySem PySem.Spec PyProof.Rows
abbrev MX := List (NestedKey × Addr × Value)
section
variable {X : Cx} {pins : List (Addr × Obj)} {σ : St} {H H' : Hp} {s : Shared} {P : Program} {w : World} {q : Addr} {xs : MX} {h : Heap}
end
end L2
namespace DL
open PySem PySem.Spec PyProof.Rows L2
mutual
def keyN : NestedKey → D
  | .none => .non
  | .num i => .int i
  | .text x => .str x
  | .tup ks => .tup (keyNs ks)
def keyNs : List NestedKey → List D
  | [] => []
  | k :: ks => keyN k :: keyNs ks
end
mutual
theorem nested_of {X : Cx} {pins : List (Addr × Obj)} {σ : L2.St} {G H : Hp} {s : Shared} (I : Inv X pins σ H s) (sm : Same G H) : ∀ (k : NestedKey) (v : V) (u : Value), Rep X.K G (keyN k) v → RelV v u → NestedIs s.heap k u
  | .none, v, u, r, h => by
    rw [show v = .non from r] at h
    rw [show u = .none from h]; exact .none
  | .num i, v, u, r, h => by
    rw [show v = .int i from r] at h
    obtain ⟨t, rfl⟩ := (show ∃ t, u = Value.int i t from h)
    exact .int i t
  | .text x, v, u, r, h => by
    rw [show v = .str x from r] at h
    obtain ⟨t, rfl⟩ := (show ∃ t, u = Value.str x t from h)
    exact .text x t
  | .tup ks, v, u, ⟨a, vs, e1, e2, e3⟩, h => by
    rw [e1] at h
    obtain rfl : u = Value.ref a := h
    obtain ⟨its, r, ⟨o, ho, hc, n, hd⟩, _⟩ := I.tuple (sqT_mono sm e2)
    exact .tup ho hc hd (nesteds_of I sm ks vs its e3 r)
theorem nesteds_of {X : Cx} {pins : List (Addr × Obj)} {σ : L2.St} {G H : Hp} {s : Shared} (I : Inv X pins σ H s) (sm : Same G H) : ∀ (ks : List NestedKey) (vs : List V) (us : List Value), Reps X.K G (keyNs ks) vs → Vals vs us → NestedAll s.heap ks us
  | [], vs, us, r, h => by
    rw [show vs = [] from r] at h
    cases h; exact .nil
  | k :: ks, vs, us, ⟨v, vr, e, r1, r2⟩, h => by
    rw [e] at h
    cases h with
    | cons a b => exact .cons (nested_of I sm k _ _ r1 a) (nesteds_of I sm ks _ _ r2 b)
end
def MR (K : PySem.W.Frag) (G : Hp) : List (NestedKey × D) → MX → Prop
  | [], xs => xs = []
  | p :: r, xs => ∃ (a : Addr) (v : V) (u : Value) (rest : MX), xs = (p.1, a, u) :: rest ∧ Rep K G (keyN p.1) (.ref a) ∧ p.1.depth ≤ 8 ∧ RelV v u ∧ Rep K G p.2 v ∧ MR K G r rest
theorem MR.mono {K : PySem.W.Frag} {G G' : Hp} (s : Same G G') : ∀ {kds : List (NestedKey × D)} {xs : MX}, MR K G kds xs → MR K G' kds xs
  | [], _, h => h
  | _ :: _, _, ⟨a, v, u, rest, e, h1, h2, h3, h4, h5⟩ => ⟨a, v, u, rest, e, h1.mono s, h2, h3, h4.mono s, MR.mono s h5⟩
theorem MR.len {K : PySem.W.Frag} {G : Hp} : ∀ {kds : List (NestedKey × D)} {xs : MX}, MR K G kds xs → xs.length = kds.length
  | [], _, h => by rw [show _ = [] from h]; rfl
  | _ :: _, _, ⟨a, v, u, rest, e, _, _, _, _, h⟩ => by rw [e, List.length_cons, List.length_cons, MR.len h]
theorem MR.is {X : Cx} {pins : List (Addr × Obj)} {σ : L2.St} {G H : Hp} {s : Shared} (I : Inv X pins σ H s) (sm : Same G H) : ∀ {kds : List (NestedKey × D)} {xs : MX}, MR X.K G kds xs → ∀ x ∈ xs, (nestedKind X.prog X.w).is s.heap x.1 x.2.1
  | [], _, h, x, hx => by rw [show _ = [] from h] at hx; cases hx
  | _ :: _, _, ⟨a, v, u, rest, e, h1, h2, h3, h4, h5⟩, x, hx => by
    rw [e] at hx
    rcases List.mem_cons.mp hx with rfl | hx
    · exact ⟨nested_of I sm _ _ _ h1 rfl, h2⟩
    · exact MR.is I sm h5 x hx
def getN (kds : List (NestedKey × D)) (k : NestedKey) : Option D := (kds.find? fun p => decide (p.1 = k)).map (·.2)
theorem MR.get {K : PySem.W.Frag} {G : Hp} {k : NestedKey} : ∀ {kds : List (NestedKey × D)} {xs : MX}, MR K G kds xs → (∀ d, getN kds k = some d → ∃ a u v, atKey xs k = some (a, u) ∧ RelV v u ∧ Rep K G d v) ∧ (getN kds k = none → atKey xs k = none)
  | [], _, h => by rw [show _ = [] from h]; exact ⟨(fun d e => nomatch e), fun _ => rfl⟩
  | p :: r, _, ⟨a, v, u, rest, e, h1, h2, h3, h4, h5⟩ => by
    rw [e]
    unfold getN atKey
    rw [List.find?_cons, List.find?_cons]
    by_cases hk : p.1 = k
    · rw [decide_eq_true hk]
      exact ⟨fun d ed => by cases ed; exact ⟨a, u, v, rfl, h3, h4⟩, (fun en => nomatch en)⟩
    · rw [decide_eq_false hk]
      exact MR.get h5
section
variable {P : Program} {w : World} {K : PySem.W.Frag} {G H : Hp} {q : Addr} {kds : List (NestedKey × D)} {c : Rc K} {I : Iv K}
end
section
variable {X : Cx} {W : WX} {R : Rx X.K} {o i e : Expr} {sts : List Stmt} {δ : DEnv} {I : Iv X.K} {pos ps : Pos} {q : Addr} {kds : List (NestedKey × D)} {ks : List NestedKey} {d : D} {κ : Ko X.K}
end
end DL
set_option Elab.async false
set_option linter.all false
set_option maxRecDepth 100000
set_option maxHeartbeats 4000000
namespace L2
open PySem PySem.Spec PyProof.Rows
end L2
namespace DL
open PySem PySem.Spec PyProof.Rows L2
section
variable {X : Cx} {W : WX} {e : Expr} {sts : List Stmt} {δ : DEnv} {I : Iv X.K} {pos : Pos} {q : Addr} {κ : Ko X.K} {x' : Str} {n : Int}
end
end DL
set_option Elab.async false
set_option linter.all false
set_option maxRecDepth 100000
set_option maxHeartbeats 4000000
namespace DL
open PySem PySem.Spec PyProof.Rows L2
structure DefK (P : Program) (w : World) (K : PySem.W.Frag) (mg : Str → Option Value) (base : Heap) (x : Str) (k : Nat) (ps : List Str) (n : Nat) (ks : List Str) (dds : List D) (S : Spec K) : Prop where
  ex : ∃ (f : Addr) (fd : FuncData) (g : List Value → List Value → List Value) (gV : List V → List V → List V) (dv : List V), mg x = some (.ref f) ∧ PySem.W.keepIn K (.ref f) = true ∧ FnOk P w K mg base (L2.CX P w) k f fd ps (spD K S) ∧ KBn K fd ps n ks g gV ∧ (∀ vs zs, zs.length = ks.length → gV vs zs = vs ++ zs ++ dv) ∧ ∀ G, Reps K G dds dv
section
variable {P : Program} {w : World} {K : PySem.W.Frag} {mg : Str → Option Value} {base : Heap} {x qual : Str} {params : Arguments} {body : List Stmt} {scope : Scope} {f : Addr} {fd : FuncData} {ps ks : List Str} {k n : Nat} {S : Spec K} {kws : List (Str × V)}
theorem DefK.of (g : mg x = some (.ref f)) (F : FunD K x qual params body scope [] kws f fd) (ok : FnOk P w K mg base (L2.CX P w) k f fd ps (spD K S)) (hk : kws ≠ [])
    (h : ∀ (D : Addr) (doc pm : Value) (an : Option Addr) (cdv ct : Value) (us ws : List Value), us.length = n → ws.length = ks.length → KwChain D [] (bindArgs (PySem.W.fnOf x qual params body scope .none (.ref D) doc pm an cdv ct) ⟨us, ks.zip ws⟩) (ps.zip (us ++ ws))) : DefK P w K mg base x k ps n ks [] S := by
  obtain ⟨_, b⟩ := FunD.kbinds0 (ps := ps) F n ks [] (fun us _ ws => us ++ ws) hk (fun q hq => by cases hq) (fun r1 _ r3 => r1.append r3) fun D doc pm an cdv ct us mv ws h1 h2 h3 => by
    have e : mv = [] := List.length_eq_zero_iff.mp h2
    subst e
    exact h D doc pm an cdv ct us ws h1 h3
  exact ⟨f, fd, _, _, [], g, F.kp, ok, b, fun vs zs _ => (List.append_nil _).symm, fun _ => rfl⟩
end
section
variable {X : Cx} {W : WX} {R : Rx X.K} {e : Expr} {es : List Expr} {δ : DEnv} {I : Iv X.K} {P : D → Iv X.K → Prop} {pos p : Pos} {x : Str} {ps ks : List Str} {k n : Nat} {S : Spec X.K} {d : D} {kws : List Keyword}
end
end DL
set_option Elab.async false
set_option linter.all false
set_option maxRecDepth 100000
set_option maxHeartbeats 4000000
namespace L2
open PySem PySem.Spec PyProof.Rows
section
variable {X : Cx} {a b : Expr} {ta : TE} {t : TEw} {pos : Pos}
end
end L2
set_option Elab.async false
set_option linter.all false
set_option maxRecDepth 100000
set_option maxHeartbeats 400000
namespace DL
open PySem PySem.Spec PyProof.Rows L2
section
variable {X : Cx} {W : WX} {a e : Expr} {op : CmpOp} {sts els : List Stmt} {δ : DEnv} {I : Iv X.K} {pos p1 p2 p3 : Pos} {κ : Ko X.K} {x' : Str}
end
end DL
set_option Elab.async false
set_option linter.all false
set_option maxRecDepth 100000
set_option maxHeartbeats 4000000
namespace L2
open PySem PySem.Spec PyProof.Rows
section
variable {X : Cx} {es : List Expr} {t : TA} {pos : Pos}
end
end L2
namespace DL
open PySem PySem.Spec PyProof.Rows L2
section
variable {X : Cx} {W : WX} {R : Rx X.K} {a b o e : Expr} {es : List Expr} {δ : DEnv} {I : Iv X.K} {P : D → Iv X.K → Prop} {pos p apos : Pos} {d z : D} {ds fs : List D} {ss : List Str} {k : Str}
end
end DL
set_option Elab.async false
set_option linter.all false
set_option maxRecDepth 100000
set_option maxHeartbeats 4000000
namespace L2
open PySem PySem.Spec PyProof.Rows
section
variable {X : Cx}
end
end L2
namespace DL
open PySem PySem.Spec PyProof.Rows L2
section
variable {X : Cx} {W : WX} {R : Rx X.K} {a b e : Expr} {δ : DEnv} {I : Iv X.K} {P : D → Iv X.K → Prop} {pos p : Pos} {d x y : D} {ds : List D} {q : Addr}
end
end DL
set_option Elab.async false
set_option linter.all false
set_option maxRecDepth 100000
set_option maxHeartbeats 4000000
namespace DL
open PySem PySem.Spec PyProof.Rows L2
structure Wk {K : PySem.W.Frag} (I I' : Iv K) : Prop where
  F : ∀ a, I'.F a → I.F a
  φ : ∀ G H, I.φ G H → I'.φ G H
section
variable {K : PySem.W.Frag} {I I' J J' L : Iv K} {G H : Hp}
theorem Hd.wk (w : Wk I I') (h : Hd I G H) : Hd I' G H := ⟨w.φ _ _ h.ph, fun a ha => h.fr a (w.F a ha)⟩
theorem Wk.refl : Wk I I := ⟨fun _ h => h, fun _ _ h => h⟩
theorem Wk.trans (a : Wk I J) (b : Wk J L) : Wk I L := ⟨fun x h => a.F x (b.F x h), fun G H h => b.φ G H (a.φ G H h)⟩
theorem Wk.of (s : Sub I I') : Wk I I' := ⟨fun a h => (s.F a).mp h, s.φ⟩
theorem Wk.eq (e : I = I') : Wk I I' := e ▸ Wk.refl
theorem Wk.and (a : Wk I I') (b : Wk J J') : Wk (I.and J) (I'.and J') := ⟨fun x h => h.imp (a.F x) (b.F x), fun G H h => ⟨a.φ _ _ h.1, b.φ _ _ h.2.1, fun x hx => h.2.2 x ⟨a.F x hx.1, b.F x hx.2⟩⟩⟩
theorem Wk.andL (a : Wk I I') : Wk (I.and J) (I'.and J) := a.and .refl
theorem Wk.andR (a : Wk I I') : Wk (J.and I) (J.and I') := Wk.refl.and a
theorem Wk.fill (s : Wk I I') : ∀ c : Rc K, Wk (c.fill I) (c.fill I')
  | .here => s
  | .l c J => (Wk.fill s c).andL
  | .r J c => (Wk.fill s c).andR
theorem Wk.dropR : Wk (I.and J) I := ⟨fun _ h => .inl h, fun _ _ h => h.1⟩
theorem Wk.dropL : Wk (I.and J) J := ⟨fun _ h => .inr h, fun _ _ h => h.2.1⟩
theorem Wk.comm : Wk (I.and J) (J.and I) := ⟨fun _ h => h.symm, fun _ _ h => ⟨h.2.1, h.1, fun a ha => h.2.2 a ⟨ha.2, ha.1⟩⟩⟩
theorem Wk.assoc : Wk ((I.and J).and L) (I.and (J.and L)) := .of .assoc
theorem Wk.assoc' : Wk (I.and (J.and L)) ((I.and J).and L) := ⟨fun a h => h.elim (fun h => h.elim .inl fun h => .inr (.inl h)) fun h => .inr (.inr h), fun G H ⟨h1, ⟨h2, h3, h4⟩, h5⟩ => ⟨⟨h1, h2, fun a ha => h5 a ⟨ha.1, .inl ha.2⟩⟩, h3, fun a ha => ha.1.elim (fun q => h5 a ⟨q, .inr ha.2⟩) fun q => h4 a ⟨q, ha.2⟩⟩⟩
theorem Wk.swapR : Wk ((I.and J).and L) ((I.and L).and J) := Wk.assoc.trans (Wk.comm.andR.trans Wk.assoc')
theorem Wk.pull : ∀ c : Rc K, Wk ((c.fill I).and J) (c.fill (I.and J))
  | .here => .refl
  | .l c L => Wk.swapR.trans (Wk.pull c).andL
  | .r L c => Wk.assoc.trans (Wk.pull c).andR
theorem Wk.push : ∀ c : Rc K, Wk (c.fill (I.and J)) ((c.fill I).and J)
  | .here => .refl
  | .l c L => (Wk.push c).andL.trans Wk.swapR
  | .r L c => (Wk.push c).andR.trans Wk.assoc'
theorem Wk.inner : ∀ c : Rc K, Wk (c.fill I) I
  | .here => .refl
  | .l c J => Wk.dropR.trans (Wk.inner c)
  | .r J c => Wk.dropL.trans (Wk.inner c)
end
section
variable {X : Cx} {W : WX} {R : Rx X.K} {e : Expr} {es : List Expr} {sts : List Stmt} {st : Stmt} {δ : DEnv} {I I' : Iv X.K} {κ : Ko X.K} {P P' : D → Iv X.K → Prop}
theorem SX.wk (w : Wk I I') (h : SX X W sts δ I' κ) : SX X W sts δ I κ := fun σ G H E hE s hI k => h σ G H E hE s (hI.wk w) k
theorem S1.wk (w : Wk I I') (h : S1 X W st δ I' κ) : S1 X W st δ I κ := fun σ G H E hE s hI k => h σ G H E hE s (hI.wk w) k
theorem EvX.wk (w : Wk I I') (h : EvX X W R e δ I' P) : EvX X W R e δ I P := fun σ G H Q hE s hI qx q => h σ G H Q hE s (hI.wk w) qx q
theorem EvX.wkP (h : EvX X W R e δ I fun d I1 => ∃ I2, Wk I1 I2 ∧ P d I2) : EvX X W R e δ I P := fun σ G H Q hE s hI qx q =>
  h σ G H Q hE s hI qx fun v d G' H' I' s1 s2 h1 r ⟨I2, w, pp⟩ => q v d G' H' I2 s1 s2 (h1.wk w) r pp
def Ko.k {K : PySem.W.Frag} (κ : Ko K) : Ko K := ⟨fun δ I => ∃ I', Wk I I' ∧ κ.nx δ I', fun d I => ∃ I', Wk I I' ∧ κ.rt d I', fun δ I => ∃ I', Wk I I' ∧ κ.bk δ I', fun δ I => ∃ I', Wk I I' ∧ κ.ct δ I', fun C fs δ I => ∃ I', Wk I I' ∧ κ.ex C fs δ I'⟩
theorem KoLe.k {E : Ends} {G : Hp} (h : KoLe X.K W E G κ) : KoLe X.K W E G κ.k where
  nx := fun δ σ G' H' I' s1 s2 h1 r ⟨I2, w, p⟩ => h.nx δ σ G' H' I2 s1 s2 (h1.wk w) r p
  rt := fun v d G' H' I' s1 s2 h1 r ⟨I2, w, p⟩ => h.rt v d G' H' I2 s1 s2 (h1.wk w) r p
  bk := fun δ σ G' H' I' s1 s2 h1 r ⟨I2, w, p⟩ => h.bk δ σ G' H' I2 s1 s2 (h1.wk w) r p
  ct := fun δ σ G' H' I' s1 s2 h1 r ⟨I2, w, p⟩ => h.ct δ σ G' H' I2 s1 s2 (h1.wk w) r p
  ex := fun C dd fs l δ σ G' H' I' s1 s2 h1 r q hd ⟨I2, w, p⟩ => h.ex C dd fs l δ σ G' H' I2 s1 s2 (h1.wk w) r q hd p
theorem SX.k (h : SX X W sts δ I κ.k) : SX X W sts δ I κ := fun σ G H E hE s hI k => h σ G H E hE s hI k.k
theorem S1.k (h : S1 X W st δ I κ.k) : S1 X W st δ I κ := fun σ G H E hE s hI k => h σ G H E hE s hI k.k
end
def iRows (K : PySem.W.Frag) : List Addr → List (List D) → Iv K
  | q :: qs, r :: rs => (iLst K q r).and (iRows K qs rs)
  | _, _ => iEmp K
section
variable {K : PySem.W.Frag}
theorem iRows_at : ∀ {qs : List Addr} {rs : List (List D)} {i : Nat} {q : Addr} {r : List D}, qs.length = rs.length → qs[i]? = some q → rs[i]? = some r → ∃ c : Rc K, iRows K qs rs = c.fill (iLst K q r) ∧ ∀ r', c.fill (iLst K q r') = iRows K qs (rs.set i r')
  | q :: qs, r :: rs, 0, _, _, _, hq, hr => by
    cases hq
    cases hr
    exact ⟨.l .here (iRows K qs rs), rfl, fun r' => rfl⟩
  | q :: qs, r :: rs, i + 1, q', r', hl, hq, hr => by
    obtain ⟨c, h1, h2⟩ := iRows_at (qs := qs) (rs := rs) (i := i) (by simpa using hl) (by simpa using hq) (by simpa using hr)
    refine ⟨.r (iLst K q r) c, by show (iLst K q r).and (iRows K qs rs) = _; rw [h1]; rfl, fun r'' => ?_⟩
    show (iLst K q r).and (c.fill (iLst K q' r'')) = _
    rw [h2]; rfl
  | [], _, i, _, _, _, hq, _ => by cases hq
  | _ :: _, [], _, _, _, hl, _, _ => by simp at hl
theorem Wk.rows_app : ∀ {qs qs' : List Addr} {rs rs' : List (List D)}, qs.length = rs.length → Wk ((iRows K qs rs).and (iRows K qs' rs')) (iRows K (qs ++ qs') (rs ++ rs'))
  | [], qs', [], rs', _ => Wk.dropL
  | q :: qs, qs', r :: rs, rs', hl => by
    have ih := Wk.rows_app (qs := qs) (qs' := qs') (rs := rs) (rs' := rs') (by simpa using hl)
    exact Wk.assoc.trans ih.andR
  | [], _, _ :: _, _, hl => by simp at hl
  | _ :: _, _, [], _, hl => by simp at hl
theorem Wk.rows_split : ∀ {qs qs' : List Addr} {rs rs' : List (List D)}, qs.length = rs.length → Wk (iRows K (qs ++ qs') (rs ++ rs')) ((iRows K qs rs).and (iRows K qs' rs'))
  | [], qs', [], rs', _ => ⟨fun a h => h.elim (fun h => h.elim) id, fun G H h => ⟨trivial, h, fun a ha => ha.1.elim⟩⟩
  | q :: qs, qs', r :: rs, rs', hl => by
    have ih := Wk.rows_split (qs := qs) (qs' := qs') (rs := rs) (rs' := rs') (by simpa using hl)
    exact ih.andR.trans Wk.assoc'
  | [], _, _ :: _, _, hl => by simp at hl
  | _ :: _, _, [], _, hl => by simp at hl
theorem Wk.row1 {q : Addr} {r : List D} : Wk (iLst K q r) (iRows K [q] [r]) := ⟨fun a h => h.elim id fun h => h.elim, fun G H h => ⟨h, trivial, fun a ha => ha.2.elim⟩⟩
theorem Wk.emp {I : Iv K} : Wk I (iEmp K) := ⟨fun _ h => h.elim, fun _ _ _ => trivial⟩
end
structure LsI {K : PySem.W.Frag} (I : Iv K) (d : D) (ds : List D) : Prop where
  h : ∀ (G H : Hp) (v : V), Same G H → Hd I G H → Rep K G d v → ∃ a vs, v = .ref a ∧ H a = some (.lst vs) ∧ Reps K G ds vs
section
variable {K : PySem.W.Frag} {I J : Iv K} {d x y z : D} {ds es : List D} {p : Addr} {c : Rc K} {i : Int}
theorem LsI.k : LsI I (.lst ds) ds := ⟨fun G H v s _ ⟨a, vs, e, h1, h2⟩ => ⟨a, vs, e, s _ _ h1, h2⟩⟩
theorem LsI.m (c : Rc K) (eI : I = c.fill (iLst K p ds) := by rfl) : LsI I (.adr p) ds := ⟨fun G H v s hI r => by
  subst eI
  obtain ⟨vs, ho, rr, _⟩ := hI.lst
  exact ⟨p, vs, r, ho, rr⟩⟩
theorem LsI.wk (w : Wk I J) (h : LsI J d ds) : LsI I d ds := ⟨fun G H v s hI r => h.h G H v s (hI.wk w) r⟩
theorem p2_ixI (l : LsI I x ds) (h : atI ds i = some d) : P2 K I (rIxL K) x (.int i) d := fun P pp G H v w Q s hI r1 r2 q => by
  obtain ⟨a, vs, ev, ho, r⟩ := l.h G H v s hI r1
  obtain ⟨u, h1, h2⟩ := atI_rep r h
  exact ⟨a, vs, i, u, ev, r2, SqL.of ho, h1, q u d G H _ (Same.refl G) s hI h2 pp⟩
theorem pn_lenI (l : LsI I d ds) : PN K I (fun xs H Q => ∃ p ys, xs = [.ref p] ∧ (SqL K H p ys ∨ SqT K H p ys) ∧ Q (.int ys.length) H) [d] (.int ds.length) := fun P pp G H vs Q s hI ⟨v, r, e1, e2, e3⟩ q => by
  obtain ⟨a, ws, ev, ho, rr⟩ := l.h G H v s hI e2
  exact ⟨a, ws, by rw [e1, ev, show r = [] from e3], .inl (SqL.of ho), by rw [rr.length]; exact q _ (.int ds.length) G H _ (Same.refl G) s hI rfl pp⟩
theorem on_listI {P : D → Iv K → Prop} (l : LsI I d ds) (pp : ∀ n, P (.adr n) (I.and (iLst K n ds))) : OpN K (fun xs H Q => ∃ p ys, xs = [.ref p] ∧ (SqL K H p ys ∨ SqT K H p ys) ∧ ∀ l, H l = none → Q (.ref l) (upd H l (.lst ys))) [d] I P := fun G H vs Q s hI ⟨v, r, e1, e2, e3⟩ q => by
  obtain ⟨a, ws, ev, ho, rr⟩ := l.h G H v s hI e2
  refine ⟨a, ws, by rw [e1, ev, show r = [] from e3], .inl (SqL.of ho), fun n hn => ?_⟩
  have hg : G n = none := s.free hn
  have na : ∀ a, ¬ (I.F a ∧ a = n) := fun a ha => hI.dom ha.1 (by rw [ha.2]; exact hn)
  exact q (.ref n) (.adr n) G _ (I.and (iLst K n ds)) (Same.refl G) (same_upd s hg) (Hd.mk2 (hI.newp hn) ⟨⟨_, upd_same, ws, rfl, rr⟩, fun a ha => by rw [show a = n from ha]; exact hg⟩ na) rfl (pp n)
end
section
variable {X : Cx} {W : WX} {R : Rx X.K} {a b e o elt tg iter : Expr} {es : List Expr} {ifs : List Expr} {scope : Scope} {lo hi : Option Expr} {δ : DEnv} {I : Iv X.K} {P : D → Iv X.K → Prop} {pos p2 : Pos} {d z x : D} {ds : List D} {l h : Option Int} {κ : Ko X.K} {p : Addr} {i : Int}
theorem s_appendE {apos ep : Pos} (ho : PV X I o δ (.adr p)) (li : LsI I (.adr p) ds) (h : EvX X W (κ.r δ) e δ I fun d I1 => ∃ (c : Rc X.K) (ds : List D), I1 = c.fill (iLst X.K p ds) ∧ ds.length < 1000000 ∧ κ.nx δ (c.fill (iLst X.K p (ds ++ [d]))))
    (hbase : attributeBase o "append" X.env (eval o X.env) = eval o X.env := by rfl)
    (hfew : ((backTo pos (starEach [e] X.env)).all (fun x => !x.1) && (backToKw pos (keywordEach [] X.env)).all (fun x => x.1.isSome) && decide ([e].length + ([] : List Keyword).length + (if ([] : List Keyword).isEmpty then 0 else 1) < 30)) = true := by rfl)
    (hline : (apos.endLine == pos.line) = true := by rfl) (hst : starEach [e] X.env = (false, eval e X.env) :: starEach [] X.env := by rfl) (hpl : (backTo pos (starEach [] X.env)).any (·.1) = false := by rfl)
    (hs : swapsWith (.Call (.Attribute o "append" apos) [e] [] pos) none ep.line X.env = pure false := by rfl) : S1 X W (.Expr (.Call (.Attribute o "append" apos) [e] [] pos) ep) δ I κ := fun σ G H E hE s hI k =>
  PS.wp (ps_expr (pe_bm PySem.F.plainAttrs_list PySem.F.slot_list_append PySem.F.type_list_append mt_append peC (pa_cons peC pa_nil hst) hbase hfew hline hst hpl) hs) (ho W (κ.r δ) (fun z I1 => z = .adr p ∧ I1 = I) ⟨rfl, rfl⟩ σ G H _ hE s hI (k.kx hE) fun v d1 G1 H1 I1 s1 t1 h1 r1 ⟨ed, ei⟩ => by
    subst ed ei
    obtain ⟨a, vs, ev, hp, rv⟩ := li.h G1 H1 v t1 h1 r1
    obtain rfl : v = .ref p := r1
    cases ev
    refine ⟨.inl ⟨rfl, _, .inl (.inl hp)⟩, ?_⟩
    refine h σ G1 H1 _ (hE.mono s1) t1 h1 ((k.kx hE).mono s1) fun w d2 G2 H2 I2 s2 t2 h2 r2 ⟨c, ds2, ei, hz, nx⟩ => ?_
    subst ei
    obtain ⟨vs2, hp2, rv2, gp2⟩ := h2.lst
    refine ⟨p, vs2, w, rfl, rfl, hp2, by rw [rv2.length, sizeLine_eq]; omega, ?_⟩
    exact k.nx δ σ G2 _ _ (s1.trans s2) (same_upd t2 gp2) (h2.lstSet (rv2.append (Reps.one r2))) (hE.mono (s1.trans s2)) nx)
end
end DL
set_option Elab.async false
set_option linter.all false
set_option maxRecDepth 100000
set_option maxHeartbeats 4000000
namespace DL
open PySem PySem.Spec PyProof.Rows L2
structure WalkR (K : PySem.W.Frag) (J : It) (ds : List D) (Ok : Iv K → Prop) (G : Hp) : Prop where
  go : ∀ i G' H' I', Same G G' → Same G' H' → Hd I' G' H' → Ok I' → i < ds.length → J.go i H'
  stop : ∀ G' H' I', Same G G' → Same G' H' → Hd I' G' H' → Ok I' → J.stop ds.length H'
  yld : ∀ i G' H' I' x H'', Same G G' → Same G' H' → Hd I' G' H' → Ok I' → i < ds.length → J.yld i H' x H'' → ∃ G'', Same G' G'' ∧ Same G'' H'' ∧ Hd I' G'' H'' ∧ ∃ d, ds[i]? = some d ∧ Rep K G'' d x
theorem WalkR.mono {K : PySem.W.Frag} {J : It} {ds : List D} {Ok : Iv K → Prop} {G G1 : Hp} (h : WalkR K J ds Ok G) (s : Same G G1) : WalkR K J ds Ok G1 :=
  ⟨fun i G' H' I' s1 => h.go i G' H' I' (s.trans s1), fun G' H' I' s1 => h.stop G' H' I' (s.trans s1), fun i G' H' I' x H'' s1 => h.yld i G' H' I' x H'' (s.trans s1)⟩
theorem WalkD.r {K : PySem.W.Frag} {J : It} {ds : List D} {G : Hp} (h : WalkD K J ds G) : WalkR K J ds (fun _ => True) G :=
  ⟨fun i G' H' _ s1 s2 _ _ => h.go i G' H' s1 s2, fun G' H' _ s1 s2 _ _ => h.stop G' H' s1 s2, fun i G' H' I' x H'' s1 s2 hI _ hi y => by
    obtain ⟨G3, a, b, c, _, d⟩ := h.yld i G' H' I' x H'' s1 s2 hI hi y
    exact ⟨G3, a, b, c, d⟩⟩
theorem walk_mL {K : PySem.W.Frag} {a : Addr} {ds : List D} {G : Hp} : WalkR K (Itl K a) ds (fun I' => LsI I' (.adr a) ds) G := by
  have k : ∀ {G' H' : Hp} {I' : Iv K}, Same G' H' → Hd I' G' H' → LsI I' (.adr a) ds → ∃ vs, H' a = some (.lst vs) ∧ Reps K G' ds vs := fun {G' H' I'} s hI l => by
    obtain ⟨b, vs, e, h1, h2⟩ := l.h G' H' (.ref a) s hI rfl
    cases e
    exact ⟨vs, h1, h2⟩
  refine ⟨fun i G' H' I' _ s2 hI l hi => ?_, fun G' H' I' _ s2 hI l => ?_, fun i G' H' I' x H'' _ s2 hI l hi y => ?_⟩
  · obtain ⟨vs, h1, h2⟩ := k s2 hI l
    exact (walk_list (K := K) (a := a) (xs := vs)).goes i H' (by rw [h2.length]; exact hi) (SqL.of h1)
  · obtain ⟨vs, h1, h2⟩ := k s2 hI l
    rw [← h2.length]; exact walk_list.stops H' (SqL.of h1)
  · obtain ⟨vs, h1, h2⟩ := k s2 hI l
    obtain ⟨eH, ex⟩ := (walk_list (K := K) (a := a) (xs := vs)).yields i H' x H'' (by rw [h2.length]; exact hi) (SqL.of h1) y
    subst eH
    obtain ⟨d, hd⟩ : ∃ d, ds[i]? = some d := ⟨ds[i], by simp [hi]⟩
    obtain ⟨v, g1, g2⟩ := h2.get hd
    rw [ex] at g1
    cases g1
    exact ⟨G', Same.refl _, s2, hI, d, hd, g2⟩
def EvIR (X : Cx) (W : WX) (R : Rx X.K) (tg iter : Expr) (δ : DEnv) (I : Iv X.K) (P : List D → (Iv X.K → Prop) → Iv X.K → Prop) : Prop := ∀ (σ : L2.St) (G H : Hp) (RR : It → Hp → Prop), EnvR X.K G δ σ → Same G H → Hd I G H → Kx X.K W σ G R →
  (∀ (J : It) (ds : List D) (Ok : Iv X.K → Prop) (G' H' : Hp) (I' : Iv X.K), (∀ I J, Ok I → Ok (I.and J)) → Same G G' → Same G' H' → Hd I' G' H' → WalkR X.K J ds Ok G' → P ds Ok I' → RR J H') → wpI X tg iter σ H RR
section
variable {X : Cx} {W : WX} {R : Rx X.K} {elt tg iter e a : Expr} {ifs : List Expr} {es : List Expr} {scope : Scope} {body sts : List Stmt} {δ : DEnv} {I : Iv X.K} {κ : Ko X.K} {P : D → Iv X.K → Prop} {pos : Pos} {d z : D} {ds : List D} {p : Addr} {PP : List D → (Iv X.K → Prop) → Iv X.K → Prop}
theorem eir_d (h : EvI X W R tg iter δ I fun ds I1 => PP ds (fun _ => True) I1) : EvIR X W R tg iter δ I PP := fun σ G H RR hE s hI qx q =>
  h σ G H RR hE s hI qx fun J ds G' H' I' s1 s2 h1 wk pp => q J ds _ G' H' I' (fun _ _ _ => trivial) s1 s2 h1 wk.r pp
theorem eir_m (h : PV X I iter δ (.adr p)) (l : LsI I (.adr p) ds) (pp : PP ds (fun I' => LsI I' (.adr p) ds) I) : EvIR X W R tg iter δ I PP := fun σ G H RR hE s hI qx q =>
  PI.wp (pi_list peC) (h W R (fun z J => z = .adr p ∧ J = I) ⟨rfl, rfl⟩ σ G H _ hE s hI qx fun v d1 G1 H1 I1 s1 t1 h1 r1 ⟨ed, ei⟩ => by
    subst ed ei
    obtain rfl : v = .ref p := r1
    obtain ⟨b, vs, e, g1, g2⟩ := l.h G1 H1 (.ref p) t1 h1 rfl
    cases e
    exact ⟨p, rfl, ⟨vs, SqL.of g1⟩, q (Itl X.K p) ds _ G1 H1 _ (fun _ _ l => l.wk .dropR) s1 t1 h1 walk_mL pp⟩)
theorem s_forR (po : PassesOwn (model X.prog X.w) X.A X.env X.xe) (h : EvIR X W (κ.r δ) tg iter δ I fun ds Ok I1 => ∃ Nv : Nat → DEnv → Iv X.K → Prop, Nv 0 δ I1 ∧ (∀ i δ' I', Nv i δ' I' → Ok I') ∧
      (∀ i d δ' I', ds[i]? = some d → Nv i δ' I' → ∃ δ'' vs, BindD X tg d δ' δ'' vs ∧ SX X W body δ'' I' { κ with nx := Nv (i + 1), ct := Nv (i + 1), bk := κ.nx }) ∧ ∀ δ' I', Nv ds.length δ' I' → κ.nx δ' I')
    (hc : X.calm = true := by rfl) (hs : ∀ x, foldedSetIterable iter X.env x = pure x := by intro _; rfl) : S1 X W (.For tg iter body [] pos) δ I κ := fun σ G H E hE s hI k =>
  PS.wp (ps_for po hc piC pgC pssC hs) (h σ G H _ hE s hI (k.kx hE) fun J ds Ok G1 H1 I1 okA s1 t1 h1 wk ⟨Nv, i0, hok, step, fin⟩ => by
    refine ⟨fun i m σ' H' => m = ds.length - i ∧ i ≤ ds.length ∧ ∃ δ' G' I', Same G1 G' ∧ Same G' H' ∧ Hd I' G' H' ∧ EnvR X.K G' δ' σ' ∧ Nv i δ' I', ⟨_, rfl, Nat.zero_le _, δ, G1, I1, Same.refl G1, t1, h1, hE.mono s1, i0⟩, ?_⟩
    rintro i m σ' H' ⟨rfl, hi, δ', G', I', s2, t2, h2, e2, iv⟩
    by_cases hlt : i < ds.length
    · refine .inr ⟨wk.go i G' H' I' s2 t2 h2 (hok _ _ _ iv) hlt, fun σ3 H3 => ∃ δ3 G3 I3, Same G1 G3 ∧ Same G3 H3 ∧ Hd I3 G3 H3 ∧ EnvR X.K G3 δ3 σ3 ∧ Nv (i + 1) δ3 I3, fun σ3 H3 ⟨δ3, G3, I3, q1, q2, q3, q4, q5⟩ => ⟨ds.length - (i + 1), by omega, rfl, hlt, δ3, G3, I3, q1, q2, q3, q4, q5⟩, fun x H3 hy => ?_⟩
      obtain ⟨G3, s3, t3, h3, d, hd, rd⟩ := wk.yld i G' H' I' x H3 s2 t2 h2 (hok _ _ _ iv) hlt hy
      obtain ⟨δ'', vs, bd, bs⟩ := step i d δ' I' hd iv
      refine bd x σ' G3 H3 _ (e2.mono s3) t3 rd fun σ4 e4 _ => ?_
      have s13 : Same G1 G3 := s2.trans s3
      exact bs σ4 G3 H3 _ e4 t3 h3 ⟨fun δ5 σ5 G5 H5 I5 s5 t5 h5 r5 p5 => ⟨δ5, G5, I5, s13.trans s5, t5, h5, r5, p5⟩, k.rt.mono (s1.trans s13), k.nx.mono (s1.trans s13), fun δ5 σ5 G5 H5 I5 s5 t5 h5 r5 p5 => ⟨δ5, G5, I5, s13.trans s5, t5, h5, r5, p5⟩, k.ex.mono (s1.trans s13)⟩
    · have ei : i = ds.length := by omega
      subst ei
      exact .inl ⟨wk.stop G' H' I' s2 t2 h2 (hok _ _ _ iv), k.nx δ' σ' G' H' I' (s1.trans s2) t2 h2 e2 (fin δ' I' iv)⟩)
def LcR (X : Cx) (W : WX) (R : Rx X.K) (elt tg iter : Expr) (ifs : List Expr) (scope : Scope) (own : List (Str × Nat)) (δ : DEnv) (I : Iv X.K) (P : D → Iv X.K → Prop) : Prop := EvIR X W R tg iter δ I fun ds Ok I1 => ds.length ≤ 1000000 ∧ ∃ (Nv : Nat → List D → Iv X.K → Prop), Nv 0 [] I1 ∧ (∀ i ys I', Nv i ys I' → Ok I') ∧
      (∀ i d ys I', ds[i]? = some d → Nv i ys I' → ∃ (T : Bool → Prop) (δ' : DEnv), (∀ (J : Iv X.K) (s : Shared) (H : Hp) (C : Addr) (cl : List (Str × Addr)) (fp : List Addr),
        BindD (X.blk s H scope (compEnvC scope cl C X.env) fp) tg d (wipeD δ (own.map (·.2))) δ' (own.map (·.2)) ∧
        EvTs (X.blk s H scope (compEnvC scope cl C X.env) fp) W0 R0 ifs δ' (I'.and J) fun b I2 => I2 = I'.and J ∧ T b) ∧
        (T true → ∀ (J : Iv X.K) (s : Shared) (H : Hp) (C : Addr) (cl : List (Str × Addr)) (fp : List Addr), EvX (X.blk s H scope (compEnvC scope cl C X.env) fp) W0 R0 elt δ' (I'.and J) fun y I3 => ∃ I'', Wk I3 (I''.and J) ∧ Nv (i + 1) (ys ++ [y]) I'') ∧ (T false → Nv (i + 1) ys I')) ∧
      ∀ ys I', Nv ds.length ys I' → ∀ p, P (.adr p) (I'.and (iLst X.K p ys))
theorem lcR_t {own : List (Str × Nat)} (h : LcR X W R elt tg iter ifs scope own δ I P) {σ : L2.St} {G H : Hp} {Q : VK} (hE : EnvR X.K G δ σ) (s : Same G H) (hI : Hd I G H) (qx : Kx X.K W σ G R) (q : Kv X.K Q G P) :
    tLc (wpI X tg iter) (fun v σ H Q => ∀ s0 H0 C cl fp, wpG (X.blk s0 H0 scope (compEnvC scope cl C X.env) fp) tg v σ H Q) (fun σ H Q => ∀ s0 H0 C cl fp, wpTs (X.blk s0 H0 scope (compEnvC scope cl C X.env) fp) ifs σ H Q)
      (fun σ H Q => ∀ s0 H0 C cl fp, wpE (X.blk s0 H0 scope (compEnvC scope cl C X.env) fp) elt σ H Q) (own.map (·.2)) σ H Q := by
  refine h σ G H _ hE s hI qx fun J ds Ok G1 H1 I1 okA s1 t1 h1 wk ⟨hz, Nv, n0, hok, step, fin⟩ D hD => ?_
  have gD : G1 D = none := t1.free hD
  have apart0 : ∀ a, ¬ (I1.F a ∧ a = D) := fun a ha => h1.dom ha.1 (by rw [ha.2]; exact hD)
  refine ⟨fun i m H' => m = ds.length - i ∧ i ≤ ds.length ∧ ∃ ys G' I', Nv i ys I' ∧ ys.length ≤ i ∧ Same G1 G' ∧ Same G' H' ∧ Hd (I'.and (iLst X.K D ys)) G' H', ⟨_, rfl, Nat.zero_le _, [], G1, I1, n0, Nat.le_refl _, Same.refl _, same_upd t1 gD, ?_⟩, ?_⟩
  · exact Hd.mk2 (h1.newp hD) ⟨⟨_, upd_same, [], rfl, rfl⟩, fun a ha => by rw [show a = D from ha]; exact gD⟩ apart0
  · rintro i m H' ⟨rfl, hi, ys, G', I', nv, hy, s2, t2, hd2⟩
    have okJ := okA I' (iLst X.K D ys) (hok _ _ _ nv)
    by_cases hlt : i < ds.length
    · refine .inr ⟨wk.go i G' H' _ s2 t2 hd2 okJ hlt, fun H3 => ∃ ys3 G3 I3, Nv (i + 1) ys3 I3 ∧ ys3.length ≤ i + 1 ∧ Same G1 G3 ∧ Same G3 H3 ∧ Hd (I3.and (iLst X.K D ys3)) G3 H3, fun H3 ⟨ys3, G3, I3, q1, q2, q3, q4, q5⟩ => ⟨ds.length - (i + 1), by omega, rfl, hlt, ys3, G3, I3, q1, q2, q3, q4, q5⟩, fun x H3 hyl => ?_⟩
      obtain ⟨G3, s3, t3, h3, d, hd, rd⟩ := wk.yld i G' H' _ x H3 s2 t2 hd2 okJ hlt hyl
      obtain ⟨T, δ', stA, stB, stC⟩ := step i d ys I' hd nv
      intro s0 H0 C cl fp
      refine (stA (iLst X.K D ys) s0 H0 C cl fp).1 x _ G3 H3 _ (((hE.mono s1).mono (s2.trans s3)).wipe _) t3 rd fun σ4 e4 ew => ⟨by rw [ew, wipe_wipe], ?_⟩
      intro s0 H0 C cl fp
      refine (stA (iLst X.K D ys) s0 H0 C cl fp).2 σ4 G3 H3 _ e4 t3 h3 kx0 fun b G4 H4 I4 s4 t4 h4 ⟨eI, pb⟩ => ?_
      subst eI
      cases b with
      | false => exact ⟨ys, G4, I', stC pb, by omega, (s2.trans s3).trans s4, t4, h4⟩
      | true =>
        intro s0 H0 C cl fp
        refine stB pb (iLst X.K D ys) s0 H0 C cl fp σ4 G4 H4 _ (e4.mono s4) t4 h4 kx0 fun y dy G5 H5 I5 s5 t5 h5 r5 ⟨I6, w6, nv5⟩ => ?_
        have h6 := h5.wk w6
        obtain ⟨o, ho, vs, ev, rv⟩ := h6.right.ph
        subst ev
        have g5 : G5 D = none := h6.right.fr D rfl
        refine ⟨vs, ho, ?_, ys ++ [dy], G5, I6, nv5, by simp; omega, ((s2.trans s3).trans s4).trans s5, same_upd t5 g5, ?_⟩
        · rw [rv.length, sizeLine_eq]; omega
        · refine Hd.mk2 (h6.left.chg fun hf => h6.apart D ⟨hf, rfl⟩) ⟨⟨_, upd_same, _, rfl, rv.append (Reps.one r5)⟩, h6.right.fr⟩ h6.apart
    · have ei : i = ds.length := by omega
      subst ei
      exact .inl ⟨wk.stop G' H' _ s2 t2 hd2 okJ, q (.ref D) (.adr D) G' H' _ (s1.trans s2) t2 hd2 rfl (fin ys I' nv D)⟩
theorem ev_lcR (own : List (Str × Nat)) (hN : X.N.Nodup) (ok : BlkOk X.N X.env.scope scope own) (h : LcR X W R elt tg iter ifs scope own δ I P)
    (hc : X.calm = true := by rfl) (hs : ∀ x, foldedSetIterable iter X.env x = pure x := by intro _; rfl) : EvX X W R (.ListComp elt [⟨tg, iter, ifs, 0⟩] scope pos) δ I P := fun σ G H Q hE s hI qx q =>
  PE.wp (pe_lc hc hN piC ok (fun s0 H0 C cl fp => ⟨fun pins s σ H v u Q J r k => (k s0 H0 C cl fp).run pins s u J r⟩) (fun s0 H0 C cl fp => ⟨fun pins s σ H Q J k => (k s0 H0 C cl fp).run pins s J⟩) (fun s0 H0 C cl fp => ⟨fun pins s σ H Q J k => (k s0 H0 C cl fp).run pins s J⟩) hs) (lcR_t h hE s hI qx q)
theorem lcRM {α : Type} {xs : List α} {g : α → D} (f : α → D) (own : List (Str × Nat)) (δ' : α → DEnv) (hi : PVI X I tg iter δ (xs.map g)) (hz : xs.length ≤ 1000000)
    (hb : ∀ (x : α) (s : Shared) (H : Hp) (C : Addr) (cl : List (Str × Addr)) (fp : List Addr), BindD (X.blk s H scope (compEnvC scope cl C X.env) fp) tg (g x) (wipeD δ (own.map (·.2))) (δ' x) (own.map (·.2)))
    (he : ∀ x, x ∈ xs → ∀ (J : Iv X.K) (s : Shared) (H : Hp) (C : Addr) (cl : List (Str × Addr)) (fp : List Addr), PV (X.blk s H scope (compEnvC scope cl C X.env) fp) (I.and J) elt (δ' x) (f x)) (pp : ∀ p, P (.adr p) (I.and (iLst X.K p (xs.map f)))) : LcR X W R elt tg iter [] scope own δ I P := by
  refine eir_d (hi W R _ ⟨by simpa using hz, fun i ys I' => ys = (xs.take i).map f ∧ I' = I, ⟨rfl, rfl⟩, fun _ _ _ _ => trivial, ?_, fun ys I' e p => ?_⟩)
  · rintro i d ys I' hd ⟨rfl, rfl⟩
    obtain ⟨x, hx, rfl⟩ := get_map hd
    refine ⟨fun b => b = true, δ' x, fun J s H C cl fp => ⟨hb x s H C cl fp, ets_nil ⟨rfl, rfl⟩⟩, fun _ J s H C cl fp => he x (List.mem_of_getElem? hx) J s H C cl fp _ _ _ ⟨I', .refl, ?_, rfl⟩, fun h => nomatch h⟩
    rw [take_snoc hx, List.map_append]; rfl
  · obtain ⟨rfl, rfl⟩ := e
    rw [List.length_map, List.take_length]
    exact pp p
end
end DL
set_option Elab.async false
set_option linter.all false
set_option maxRecDepth 100000
set_option maxHeartbeats 1000000
namespace LK
open PySem PySem.Spec PyProof.Rows L2 DL
structure Scr (α : Type) where
  up : List (List α)
  cur : List α
  jo : List Bool
  co : Nat
section
variable {α : Type} {w : Nat} {e x : α} {s : Scr α} {b : Bool} {wd : Str} {xs : List α}
def Scr.rows (s : Scr α) : List (List α) := s.up ++ [s.cur]
def sNew (w : Nat) (e : α) : Scr α := ⟨[], List.replicate w e, [false], 0⟩
def sDown (w : Nat) (e : α) (b : Bool) (s : Scr α) : Scr α := ⟨s.up ++ [s.cur], List.replicate w e, s.jo ++ [b], 0⟩
def sErase (e : α) (s : Scr α) : Scr α := { s with cur := s.cur.take s.co ++ List.replicate (s.cur.length - s.co) e }
def sWord1 (wd : Str) (s : Scr α) : Scr α := if wd = "return" ∨ wd = "wipe" then { s with co := 0 } else s
def sWord2 (e : α) (wd : Str) (s : Scr α) : Scr α := if wd = "wipe" ∨ wd = "erase" then sErase e s else s
def sWord3 (w : Nat) (e : α) (wd : Str) (s : Scr α) : Scr α := if wd = "newline" ∨ (wd = "fresh" ∧ 0 < s.co) then sDown w e false s else s
def sWord (w : Nat) (e : α) (wd : Str) (s : Scr α) : Scr α := sWord3 w e wd (sWord2 e wd (sWord1 wd s))
def sWrap (w : Nat) (e : α) (s : Scr α) : Scr α := if s.co = w then sDown w e true s else s
def sPut1 (x : α) (s : Scr α) : Scr α := { s with cur := s.cur.set s.co x, co := s.co + 1 }
def sPut (w : Nat) (e : α) (s : Scr α) (x : α) : Scr α := sPut1 x (sWrap w e s)
def sType (w : Nat) (e : α) (s : Scr α) (xs : List α) : Scr α := xs.foldl (sPut w e) s
def lineAt (jo : List Bool) : Nat := jo.length - 1 - (jo.reverse.takeWhile id).length
def sAbove (w : Nat) (e : α) (s : Scr α) (xs : List α) : Scr α :=
  { s with up := s.up.take (lineAt s.jo) ++ (sType w e (sNew w e) xs).rows ++ s.up.drop (lineAt s.jo), jo := s.jo.take (lineAt s.jo) ++ (sType w e (sNew w e) xs).jo ++ s.jo.drop (lineAt s.jo) }
structure SOk (w : Nat) (s : Scr α) : Prop where
  w1 : 1 ≤ w
  w99 : w ≤ 99
  cl : s.cur.length = w
  ul : ∀ r ∈ s.up, r.length = w
  jl : s.jo.length = s.up.length + 1
  j0 : s.jo[0]? = some false
  cw : s.co ≤ w
theorem SOk.new (h1 : 1 ≤ w) (h2 : w ≤ 99) : SOk w (sNew w e) := ⟨h1, h2, by simp [sNew], (fun r hr => nomatch hr), rfl, rfl, Nat.zero_le _⟩
theorem SOk.down (h : SOk w s) : SOk w (sDown w e b s) := ⟨h.w1, h.w99, by simp [sDown], fun r hr => by
  rcases List.mem_append.mp hr with hr | hr
  · exact h.ul r hr
  · rw [List.mem_singleton.mp hr]; exact h.cl, by simp [sDown, h.jl], by
  show (s.jo ++ [b])[0]? = _
  rw [List.getElem?_append_left (by rw [h.jl]; omega)]; exact h.j0, Nat.zero_le _⟩
theorem SOk.erase (h : SOk w s) : SOk w (sErase e s) := ⟨h.w1, h.w99, by
  show (s.cur.take s.co ++ List.replicate (s.cur.length - s.co) e).length = w
  rw [List.length_append, List.length_take, List.length_replicate]
  have := h.cl
  have := h.cw
  omega, h.ul, h.jl, h.j0, h.cw⟩
theorem SOk.word1 (h : SOk w s) : SOk w (sWord1 wd s) := by
  unfold sWord1
  split
  · exact ⟨h.w1, h.w99, h.cl, h.ul, h.jl, h.j0, Nat.zero_le _⟩
  · exact h
theorem SOk.word2 (h : SOk w s) : SOk w (sWord2 e wd s) := by
  unfold sWord2
  split
  · exact h.erase
  · exact h
theorem SOk.word (h : SOk w s) : SOk w (sWord w e wd s) := by
  unfold sWord sWord3
  split
  · exact h.word1.word2.down
  · exact h.word1.word2
theorem SOk.wrap (h : SOk w s) : SOk w (sWrap w e s) ∧ (sWrap w e s).co < w := by
  unfold sWrap
  have := h.cw
  have := h.w1
  split
  · exact ⟨h.down, by show 0 < w; omega⟩
  · exact ⟨h, by omega⟩
theorem SOk.put1 (h : SOk w s) (hc : s.co < w) : SOk w (sPut1 x s) := ⟨h.w1, h.w99, by show (s.cur.set s.co x).length = w; rw [List.length_set]; exact h.cl, h.ul, h.jl, h.j0, hc⟩
theorem SOk.put (h : SOk w s) : SOk w (sPut w e s x) := h.wrap.1.put1 h.wrap.2
theorem SOk.type : ∀ {xs : List α} {s : Scr α}, SOk w s → SOk w (sType w e s xs)
  | [], _, h => h
  | x :: xs, s, h => SOk.type (xs := xs) (s := sPut w e s x) h.put
theorem lineAt_lt (h : SOk w s) : lineAt s.jo ≤ s.up.length := by unfold lineAt; have := h.jl; omega
theorem SOk.above (h : SOk w s) : SOk w (sAbove w e s xs) := by
  have ho : SOk w (sType w e (sNew w e) xs) := SOk.type (SOk.new h.w1 h.w99)
  have hl := lineAt_lt h
  refine ⟨h.w1, h.w99, h.cl, fun r hr => ?_, ?_, ?_, h.cw⟩
  · rcases List.mem_append.mp hr with hr | hr
    · rcases List.mem_append.mp hr with hr | hr
      · exact h.ul r (List.mem_of_mem_take hr)
      · rcases List.mem_append.mp hr with hr | hr
        · exact ho.ul r hr
        · rw [List.mem_singleton.mp hr]; exact ho.cl
    · exact h.ul r (List.mem_of_mem_drop hr)
  · show (s.jo.take _ ++ _ ++ s.jo.drop _).length = (s.up.take _ ++ _ ++ s.up.drop _).length + 1
    have h1 := ho.jl
    have h2 := h.jl
    unfold Scr.rows
    simp only [List.length_append, List.length_take, List.length_drop, List.length_cons, List.length_nil]
    omega
  · show (s.jo.take (lineAt s.jo) ++ _ ++ s.jo.drop _)[0]? = _
    rw [List.append_assoc]
    by_cases h0 : lineAt s.jo = 0
    · rw [h0, List.take_zero, List.nil_append, List.getElem?_append_left (by rw [ho.jl]; omega)]
      exact ho.j0
    · rw [List.getElem?_append_left (by rw [List.length_take, h.jl]; omega), List.getElem?_take_of_lt (by omega)]
      exact h.j0
theorem up_put : (sPut w e s x).up.length ≤ s.up.length + 1 := by
  unfold sPut sPut1 sWrap sDown
  show (if s.co = w then _ else s).up.length ≤ _
  split
  · simp
  · omega
theorem up_type : ∀ {xs : List α} {s : Scr α}, (sType w e s xs).up.length ≤ s.up.length + xs.length
  | [], s => Nat.le_refl _
  | x :: xs, s => by
    have h1 := up_type (xs := xs) (s := sPut w e s x)
    have h2 := up_put (w := w) (e := e) (s := s) (x := x)
    show (sType w e (sPut w e s x) xs).up.length ≤ s.up.length + (xs.length + 1)
    omega
theorem up_word : (sWord w e wd s).up.length ≤ s.up.length + 1 := by
  have h1 : (sWord2 e wd (sWord1 wd s)).up = s.up := by
    unfold sWord2 sWord1 sErase
    split <;> split <;> rfl
  unfold sWord sWord3
  split
  · show ((sWord2 e wd (sWord1 wd s)).up ++ _).length ≤ _
    rw [h1]; simp
  · rw [h1]; omega
end
section
variable {α : Type} (K : PySem.W.Frag) (bl bj : Addr) (qs : List Addr) (q : Addr) (g : α → D) (s : Scr α)
def iCore : Iv K := (iLst K bl ((qs ++ [q]).map D.adr)).and ((iLst K bj (s.jo.map D.bl)).and ((iRows K qs (s.up.map fun r => r.map g)).and (iLst K q (s.cur.map g))))
def iScr (a : Addr) (e : α) : Iv K := (iLst K a [.adr bl, .adr bj, .int s.co, g e]).and (iCore K bl bj qs q g s)
end
section
variable {α : Type} {K : PySem.W.Frag} {bl bj a q : Addr} {qs : List Addr} {g : α → D} {s : Scr α} {e : α} {c : Rc K} {I : Iv K}
def cxBl (K : PySem.W.Frag) {α : Type} (bj : Addr) (qs : List Addr) (q : Addr) (g : α → D) (s : Scr α) : Rc K := .l .here ((iLst K bj (s.jo.map D.bl)).and ((iRows K qs (s.up.map fun r => r.map g)).and (iLst K q (s.cur.map g))))
def cxQ (K : PySem.W.Frag) {α : Type} (bl bj : Addr) (qs : List Addr) (q : Addr) (g : α → D) (s : Scr α) : Rc K := .r (iLst K bl ((qs ++ [q]).map D.adr)) (.r (iLst K bj (s.jo.map D.bl)) (.r (iRows K qs (s.up.map fun r => r.map g)) .here))
theorem core_bl : c.fill (iCore K bl bj qs q g s) = (c.comp (cxBl K bj qs q g s)).fill (iLst K bl ((qs ++ [q]).map D.adr)) := (fill_comp (I := iLst K bl ((qs ++ [q]).map D.adr)) (cxBl K bj qs q g s) c).symm
theorem core_q : c.fill (iCore K bl bj qs q g s) = (c.comp (cxQ K bl bj qs q g s)).fill (iLst K q (s.cur.map g)) := (fill_comp (I := iLst K q (s.cur.map g)) (cxQ K bl bj qs q g s) c).symm
theorem core_setq {cur : List α} : (c.comp (cxQ K bl bj qs q g s)).fill (iLst K q (cur.map g)) = c.fill (iCore K bl bj qs q g { s with cur := cur }) := fill_comp (I := iLst K q (cur.map g)) (cxQ K bl bj qs q g s) c
theorem core_row (hq : qs.length = s.up.length) {i : Nat} {p : Addr} {r : List α} (hp : (qs ++ [q])[i]? = some p) (hr : s.rows[i]? = some r) : LsI (c.fill (iCore K bl bj qs q g s)) (.adr p) (r.map g) := by
  refine LsI.wk (Wk.inner c) ?_
  by_cases hi : i < qs.length
  · rw [List.getElem?_append_left hi] at hp
    unfold Scr.rows at hr
    rw [List.getElem?_append_left (by omega)] at hr
    obtain ⟨c2, e1, _⟩ := iRows_at (K := K) (qs := qs) (rs := s.up.map fun r => r.map g) (by simpa using hq) hp (r := r.map g) (by rw [List.getElem?_map, hr]; rfl)
    refine LsI.wk (J := iRows K qs (s.up.map fun r => r.map g)) (Wk.dropL.trans (Wk.dropL.trans Wk.dropR)) ?_
    exact LsI.m c2 e1
  · have hl := (List.getElem?_eq_some_iff.mp hp).1
    rw [List.length_append, List.length_cons, List.length_nil] at hl
    have ei : i = qs.length := by omega
    subst ei
    unfold Scr.rows at hr
    rw [List.getElem?_append_right (Nat.le_refl _), Nat.sub_self] at hp
    rw [List.getElem?_append_right (by omega), hq, Nat.sub_self] at hr
    cases hp
    cases hr
    exact LsI.wk (J := iLst K q (s.cur.map g)) (Wk.dropL.trans (Wk.dropL.trans Wk.dropL)) (LsI.m .here)
theorem scr_core : c.fill (iScr K bl bj qs q g s a e) = (c.comp (.r (iLst K a [.adr bl, .adr bj, .int s.co, g e]) .here)).fill (iCore K bl bj qs q g s) := (fill_comp (I := iCore K bl bj qs q g s) (.r (iLst K a [.adr bl, .adr bj, .int s.co, g e]) .here) c).symm
theorem scr_a : c.fill (iScr K bl bj qs q g s a e) = (c.comp (.l .here (iCore K bl bj qs q g s))).fill (iLst K a [.adr bl, .adr bj, .int s.co, g e]) := (fill_comp (I := iLst K a [.adr bl, .adr bj, .int s.co, g e]) (.l .here (iCore K bl bj qs q g s)) c).symm
end
end LK
set_option Elab.async false
set_option linter.all false
set_option maxRecDepth 100000
set_option maxHeartbeats 1000000
namespace DL
open PySem PySem.Spec PyProof.Rows L2
inductive IT where
  | z (i : Nat)
  | n (a b : IT)
instance (k : Nat) : OfNat IT k := ⟨.z k⟩
instance : Add IT := ⟨.n⟩
def IT.fl : IT → List Nat
  | .z i => [i]
  | .n a b => a.fl ++ b.fl
def IT.iv {K : PySem.W.Frag} (as : List (Iv K)) : IT → Iv K
  | .z i => as.getD i (iEmp K)
  | .n a b => (a.iv as).and (b.iv as)
def noDub : List Nat → Bool
  | [] => true
  | i :: l => !l.contains i && noDub l
section
variable {K : PySem.W.Frag} {as : List (Iv K)} {G H : Hp}
theorem IT.F_iff : ∀ (t : IT) (a : Addr), (t.iv as).F a ↔ ∃ i ∈ t.fl, (as.getD i (iEmp K)).F a
  | .z i, a => ⟨fun h => ⟨i, by simp [IT.fl], h⟩, fun ⟨j, hj, h⟩ => by
    have : j = i := by simpa [IT.fl] using hj
    rw [this] at h; exact h⟩
  | .n l r, a => ⟨fun h => by
    rcases h with h | h
    · obtain ⟨i, h1, h2⟩ := (IT.F_iff l a).mp h
      exact ⟨i, List.mem_append_left _ h1, h2⟩
    · obtain ⟨i, h1, h2⟩ := (IT.F_iff r a).mp h
      exact ⟨i, List.mem_append_right _ h1, h2⟩, fun ⟨i, h1, h2⟩ => by
    rcases List.mem_append.mp h1 with h1 | h1
    · exact .inl ((IT.F_iff l a).mpr ⟨i, h1, h2⟩)
    · exact .inr ((IT.F_iff r a).mpr ⟨i, h1, h2⟩)⟩
theorem IT.φ_to : ∀ (t : IT), (t.iv as).φ G H → (∀ i ∈ t.fl, (as.getD i (iEmp K)).φ G H) ∧ ∀ i ∈ t.fl, ∀ j ∈ t.fl, i ≠ j → ∀ a, ¬ ((as.getD i (iEmp K)).F a ∧ (as.getD j (iEmp K)).F a)
  | .z i, h => ⟨fun j hj => by
    have : j = i := by simpa [IT.fl] using hj
    rw [this]; exact h, fun j hj k hk hne => by
    have e1 : j = i := by simpa [IT.fl] using hj
    have e2 : k = i := by simpa [IT.fl] using hk
    exact absurd (e1.trans e2.symm) hne⟩
  | .n l r, ⟨h1, h2, h3⟩ => by
    obtain ⟨a1, a2⟩ := IT.φ_to l h1
    obtain ⟨b1, b2⟩ := IT.φ_to r h2
    refine ⟨fun i hi => (List.mem_append.mp hi).elim (a1 i) (b1 i), fun i hi j hj hne a ha => ?_⟩
    rcases List.mem_append.mp hi with hi | hi <;> rcases List.mem_append.mp hj with hj | hj
    · exact a2 i hi j hj hne a ha
    · exact h3 a ⟨(IT.F_iff l a).mpr ⟨i, hi, ha.1⟩, (IT.F_iff r a).mpr ⟨j, hj, ha.2⟩⟩
    · exact h3 a ⟨(IT.F_iff l a).mpr ⟨j, hj, ha.2⟩, (IT.F_iff r a).mpr ⟨i, hi, ha.1⟩⟩
    · exact b2 i hi j hj hne a ha
theorem noDub_app : ∀ {l m : List Nat}, noDub (l ++ m) = true → noDub l = true ∧ noDub m = true ∧ ∀ i ∈ l, i ∉ m
  | [], m, h => ⟨rfl, h, fun i hi => nomatch hi⟩
  | x :: l, m, h => by
    have h : (!(l ++ m).contains x && noDub (l ++ m)) = true := h
    obtain ⟨h1, h2⟩ := Bool.and_eq_true_iff.mp h
    obtain ⟨a, b, c⟩ := noDub_app h2
    have h3 : x ∉ l ++ m := by simpa using h1
    refine ⟨?_, b, fun i hi => ?_⟩
    · show (!l.contains x && noDub l) = true
      rw [a]
      have : x ∉ l := fun z => h3 (List.mem_append_left _ z)
      simpa using this
    · rcases List.mem_cons.mp hi with rfl | hi
      · exact fun z => h3 (List.mem_append_right _ z)
      · exact c i hi
theorem IT.φ_of : ∀ (t : IT), noDub t.fl = true → (∀ i ∈ t.fl, (as.getD i (iEmp K)).φ G H) → (∀ i ∈ t.fl, ∀ j ∈ t.fl, i ≠ j → ∀ a, ¬ ((as.getD i (iEmp K)).F a ∧ (as.getD j (iEmp K)).F a)) → (t.iv as).φ G H
  | .z i, _, h, _ => h i (by simp [IT.fl])
  | .n l r, nd, h, h2 => by
    obtain ⟨n1, n2, n3⟩ := noDub_app nd
    refine ⟨IT.φ_of l n1 (fun i hi => h i (List.mem_append_left _ hi)) fun i hi j hj => h2 i (List.mem_append_left _ hi) j (List.mem_append_left _ hj), IT.φ_of r n2 (fun i hi => h i (List.mem_append_right _ hi)) fun i hi j hj => h2 i (List.mem_append_right _ hi) j (List.mem_append_right _ hj), fun a ha => ?_⟩
    obtain ⟨i, hi, h3⟩ := (IT.F_iff l a).mp ha.1
    obtain ⟨j, hj, h4⟩ := (IT.F_iff r a).mp ha.2
    exact h2 i (List.mem_append_left _ hi) j (List.mem_append_right _ hj) (fun e => n3 i hi (e ▸ hj)) a ⟨h3, h4⟩
theorem Wk.re (as : List (Iv K)) (t u : IT) (h : ((u.fl.all fun i => t.fl.contains i || decide (as.length ≤ i)) && noDub u.fl) = true := by rfl) : Wk (t.iv as) (u.iv as) := by
  obtain ⟨h1, h2⟩ := Bool.and_eq_true_iff.mp h
  have sub : ∀ i ∈ u.fl, i ∈ t.fl ∨ as.getD i (iEmp K) = iEmp K := fun i hi => by
    have h3 := List.all_eq_true.mp h1 i hi
    rcases Bool.or_eq_true_iff.mp h3 with h4 | h4
    · exact .inl (by simpa using h4)
    · refine .inr ?_
      rw [List.getD_eq_getElem?_getD, List.getElem?_eq_none (of_decide_eq_true h4)]; rfl
  refine ⟨fun a ha => ?_, fun G H hp => ?_⟩
  · obtain ⟨i, hi, h3⟩ := (IT.F_iff u a).mp ha
    rcases sub i hi with h4 | h4
    · exact (IT.F_iff t a).mpr ⟨i, h4, h3⟩
    · rw [h4] at h3; exact h3.elim
  · obtain ⟨a1, a2⟩ := IT.φ_to t hp
    refine IT.φ_of u h2 (fun i hi => ?_) fun i hi j hj hne a ha => ?_
    · rcases sub i hi with h4 | h4
      · exact a1 i h4
      · rw [h4]; exact trivial
    · rcases sub i hi with h4 | h4
      · rcases sub j hj with h5 | h5
        · exact a2 i h4 j h5 hne a ha
        · rw [h5] at ha; exact ha.2
      · rw [h4] at ha; exact ha.1
end
end DL
set_option Elab.async false
set_option linter.all false
set_option maxRecDepth 100000
set_option maxHeartbeats 4000000
namespace DL
open PySem PySem.Spec PyProof.Rows L2
abbrev tyNs : List String := ["NoneType", "bool", "int", "str", "tuple", "list", "dict"]
theorem raw0 {P : Program} {w : World} {K : PySem.W.Frag} {mg : Str → Option Value} {base : Heap} {CX : CXT} {k : Nat} {f : Addr} {fd : FuncData} {ps : List Str} {sp : Sp} (F : FnOk P w K mg base CX k f fd ps sp) (hb : L2.Binds K fd ps []) : FnR P w K mg base CX k f sp :=
  FnR.imp (F.raw hb .nil) fun vs H Q E h => by rw [List.append_nil]; exact h
def Has (K : PySem.W.Frag) (d : He.DefD) : Prop := ∃ fd, FunD K d.name d.qual d.params d.body d.scope (d.dvs K) (d.kws K) (He.fAd K d.at_) fd
def HasG (K : PySem.W.Frag) (d : He.DefD) : Prop := ∃ fd, FunD K d.name d.qual d.params d.body d.scope (d.dvs K) (d.kws K) (pAd K d.at_) fd
theorem SaysP.has {fn gs : List He.DefD} {ex : PySem.W.Frag → Bool} {w : World} {h : Heap} {K : PySem.W.Frag} (c : SaysP fn gs ex w h K) {d : He.DefD} (hd : d ∈ fn) : Has K d := by
  obtain ⟨i, h1, h2⟩ := List.mem_iff_getElem.mp hd
  exact c.def_ i (by rw [List.getElem?_eq_getElem h1, h2])
theorem SaysP.hasG {fn gs : List He.DefD} {ex : PySem.W.Frag → Bool} {w : World} {h : Heap} {K : PySem.W.Frag} (c : SaysP fn gs ex w h K) {d : He.DefD} (hd : d ∈ gs) : HasG K d := by
  obtain ⟨i, h1, h2⟩ := List.mem_iff_getElem.mp hd
  exact c.get_ i (by rw [List.getElem?_eq_getElem h1, h2])
theorem all_at {bs : List Bool} (h : bs.all id = true) (i : Nat) {b : Bool} (e : bs[i]? = some b) : b = true := List.all_eq_true.mp h b (List.mem_of_getElem? e)
structure TCls (K : PySem.W.Frag) (C : Addr) : Prop where
  sc : SlX.SCls K C
  si : SlX.SIsi K C
  kW : PySem.W.kitOne K (.ref C) (.ref C) = some true
  kT : ∀ t, tyNs.contains t = true → PySem.W.kitOne K (.type t) (.ref C) = some false
  nT : ∀ t, tyNs.contains t = true → PySem.W.notFirst K C (.type t) = true
  nW : PySem.W.notFirst K C (.ref C) = true
def tclB (K : PySem.W.Frag) (C : Addr) : Bool := scB K C && (siB K C && (decide (PySem.W.kitOne K (.ref C) (.ref C) = some true) && ((tyNs.all fun t => decide (PySem.W.kitOne K (.type t) (.ref C) = some false)) && ((tyNs.all fun t => PySem.W.notFirst K C (.type t)) && PySem.W.notFirst K C (.ref C)))))
theorem tclB_ok {K : PySem.W.Frag} {C : Addr} (q : tclB K C = true) : TCls K C := by
  obtain ⟨q0, q⟩ := He.ba q
  obtain ⟨q1, q⟩ := He.ba q
  obtain ⟨q2, q⟩ := He.ba q
  obtain ⟨q3, q⟩ := He.ba q
  obtain ⟨q4, q5⟩ := He.ba q
  exact ⟨scB_ok q0, siB_ok q1, of_decide_eq_true q2, fun t ht => of_decide_eq_true (List.all_eq_true.mp q3 t (List.contains_iff_mem.mp ht)), fun t ht => List.all_eq_true.mp q4 t (List.contains_iff_mem.mp ht), q5⟩
structure TMeth (K : PySem.W.Frag) (C : Addr) (m : Str) : Prop where
  f : PySem.W.findIn K (.ref C) m = some (some (.ref (He.ma K C m)))
  i : PySem.W.isFn K (.ref (He.ma K C m)) = true
  k : PySem.W.keepIn K (.ref (He.ma K C m)) = true
theorem tmeth_ok {K : PySem.W.Frag} {x m : Str} (q : (He.Fa.meth x m).ok K = true) : TMeth K (He.ga K x) m := by
  obtain ⟨c1, c⟩ := He.ba q
  obtain ⟨c2, c3⟩ := He.ba c
  exact ⟨He.eqO_ok c1, c2, c3⟩
section
variable {P : Program} {w : World} {K : PySem.W.Frag} {mg : Str → Option Value} {base : Heap} {f : Addr} {fd : FuncData} {C : Addr} {x qual f1 f2 : Str} {params : Arguments} {scope : Scope} {p1 p2 p3 p4 p5 p6 : Pos} {b1 b2 : Pos}
theorem ok_ini1 {q1 q2 q3 q4 : Pos} (F : FunD K x qual params [.Assign [.Attribute (.Name "self" q1) f1 q2] (.Name f1 q3) q4] scope [] [] f fd) (sc : FnScope ["self", f1] ["self", f1] scope) (oe : OexC K C) (n1 : PySem.W.findIn K (.ref C) f1 = some none)
    (v1 : Vis scope "self") (v2 : Vis scope f1) (d1 : (f1 == ("__debug__" : Str)) = false) (d2 : (f1 == ("__classdict__" : Str)) = false) : FnOk P w K mg base (L2.CX P w) 1 f fd ["self", f1] (spXIC C [f1]) := by
  refine F.ok sc (fun vs H Q E h => ?_) (fun cdv A outer s H vs Q E hr h => ?_)
  · obtain ⟨a, ws, rfl, hl, _⟩ := h
    simp [hl]
  · obtain ⟨a, ws, rfl, hl, ha, q⟩ := h
    obtain ⟨v, rfl⟩ : ∃ v, ws = [v] := by
      match ws, hl with
      | [v], _ => exact ⟨v, rfl⟩
    refine ⟨_, pss_one (ps_ost (pe_var (i := 0) rfl v1 (by decide) (by decide)) (pe_var (i := 1) rfl v2 d1 d2)), ?_⟩
    refine ⟨v, rfl, .ref a, rfl, a, _, rfl, oe, n1, .inl ⟨ha, fun dx hd hne => ?_⟩⟩
    exact q dx _ hd hne upd_same (by rw [upd_ne hne]; exact upd_same) fun b h1 h2 => by rw [upd_ne h1, upd_ne h2]
theorem ok_ini2 {q1 q2 q3 q4 r1 r2 r3 r4 : Pos} (F : FunD K x qual params [.Assign [.Attribute (.Name "self" q1) f1 q2] (.Name f1 q3) q4, .Assign [.Attribute (.Name "self" r1) f2 r2] (.Name f2 r3) r4] scope [] [] f fd) (sc : FnScope ["self", f1, f2] ["self", f1, f2] scope) (oe : OexC K C) (n1 : PySem.W.findIn K (.ref C) f1 = some none) (n2 : PySem.W.findIn K (.ref C) f2 = some none)
    (v1 : Vis scope "self") (v2 : Vis scope f1) (v3 : Vis scope f2) (d1 : (f1 == ("__debug__" : Str)) = false) (d2 : (f1 == ("__classdict__" : Str)) = false) (d3 : (f2 == ("__debug__" : Str)) = false) (d4 : (f2 == ("__classdict__" : Str)) = false) : FnOk P w K mg base (L2.CX P w) 1 f fd ["self", f1, f2] (spXIC C [f1, f2]) := by
  refine F.ok sc (fun vs H Q E h => ?_) (fun cdv A outer s H vs Q E hr h => ?_)
  · obtain ⟨a, ws, rfl, hl, _⟩ := h
    simp [hl]
  · obtain ⟨a, ws, rfl, hl, ha, q⟩ := h
    obtain ⟨v, u, rfl⟩ : ∃ v u, ws = [v, u] := by
      match ws, hl with
      | [v, u], _ => exact ⟨v, u, rfl⟩
    refine ⟨_, pss_cons (ps_ost (pe_var (i := 0) rfl v1 (by decide) (by decide)) (pe_var (i := 1) rfl v2 d1 d2)) (pss_one (ps_ost (pe_var (i := 0) rfl v1 (by decide) (by decide)) (pe_var (i := 2) rfl v3 d3 d4))), ?_⟩
    refine ⟨v, rfl, .ref a, rfl, a, _, rfl, oe, n1, .inl ⟨ha, fun dx hd hne => ?_⟩⟩
    refine ⟨u, rfl, .ref a, rfl, a, _, rfl, oe, n2, .inr ⟨dx, _, upd_same, by rw [upd_ne hne]; exact upd_same, by show 1 ≤ 900; decide, ?_⟩⟩
    exact q dx _ hd hne (by rw [upd_ne (Ne.symm hne)]; exact upd_same) upd_same fun b h1 h2 => by rw [upd_ne h2, upd_ne h1, upd_ne h2]
end
end DL
set_option Elab.async false
set_option linter.all false
set_option maxRecDepth 100000
set_option maxHeartbeats 4000000
namespace DL
open PySem PySem.Spec PyProof.Rows L2
section
variable {P : Program} {w : World} {K : PySem.W.Frag} {mg : Str → Option Value} {base : Heap} {x qual : Str} {params : Arguments} {body : List Stmt} {scope : Scope} {f : Addr} {fd : FuncData} {ps ks : List Str} {k n : Nat} {S : Spec K} {kws : List (Str × V)}
end
section
variable {K : PySem.W.Frag} {G : Hp} {α : Type} {f : α → List D}
end
end DL
set_option Elab.async false
set_option linter.all false
set_option maxRecDepth 100000
set_option maxHeartbeats 4000000
namespace LK
open PySem PySem.Spec PyProof.Rows L2 DL
def top (i : Nat) : Stmt := PySem.Challenge.pw_linesharing_k07_whole_terminals.main.body.getD i (.Pass ⟨0, 0, 0, 0⟩)
abbrev m_InvalidWidth_init : Stmt := inClass (top 3) 0
abbrev m_InvalidWrite_init : Stmt := inClass (top 4) 0
theorem sc_m_InvalidWrite_init : FnScope ["self", "part"] ["self", "part"] (defScope m_InvalidWrite_init) := ⟨rfl, rfl, rfl, by decide +kernel, rfl, by decide +kernel, by decide +kernel⟩
abbrev m_NoCell_init : Stmt := inClass (top 5) 0
theorem sc_m_NoCell_init : FnScope ["self", "row", "column"] ["self", "row", "column"] (defScope m_NoCell_init) := ⟨rfl, rfl, rfl, by decide +kernel, rfl, by decide +kernel, by decide +kernel⟩
abbrev m_Grid_init : Stmt := inClass (top 8) 0
theorem sc_m_Grid_init : FnScope ["self", "width", "empty"] ["self", "width", "empty"] (defScope m_Grid_init) := ⟨rfl, rfl, rfl, by decide +kernel, rfl, by decide +kernel, by decide +kernel⟩
abbrev m_Grid_twin : Stmt := inClass (top 8) 1
theorem sc_m_Grid_twin : FnScope ["self", "found", "row"] ["self"] (defScope m_Grid_twin) := ⟨rfl, rfl, rfl, by decide +kernel, rfl, by decide +kernel, by decide +kernel⟩
abbrev m_Grid_leave : Stmt := inClass (top 8) 2
theorem sc_m_Grid_leave : FnScope ["self", "is_wrapped"] ["self", "is_wrapped"] (defScope m_Grid_leave) := ⟨rfl, rfl, rfl, by decide +kernel, rfl, by decide +kernel, by decide +kernel⟩
abbrev m_Grid_erase : Stmt := inClass (top 8) 3
theorem sc_m_Grid_erase : FnScope ["self", "row", "column"] ["self"] (defScope m_Grid_erase) := ⟨rfl, rfl, rfl, by decide +kernel, rfl, by decide +kernel, by decide +kernel⟩
abbrev m_Grid_put : Stmt := inClass (top 8) 4
theorem sc_m_Grid_put : FnScope ["self", "thing", "row"] ["self", "thing"] (defScope m_Grid_put) := ⟨rfl, rfl, rfl, by decide +kernel, rfl, by decide +kernel, by decide +kernel⟩
abbrev m_Grid_do_word : Stmt := inClass (top 8) 5
theorem sc_m_Grid_do_word : FnScope ["self", "word"] ["self", "word"] (defScope m_Grid_do_word) := ⟨rfl, rfl, rfl, by decide +kernel, rfl, by decide +kernel, by decide +kernel⟩
abbrev m_Grid_perform : Stmt := inClass (top 8) 6
theorem sc_m_Grid_perform : FnScope ["self", "write", "things", "thing"] ["self", "write", "things"] (defScope m_Grid_perform) := ⟨rfl, rfl, rfl, by decide +kernel, rfl, by decide +kernel, by decide +kernel⟩
abbrev m_Grid_is_cell : Stmt := inClass (top 8) 9
theorem sc_m_Grid_is_cell : FnScope ["self", "row", "column"] ["self", "row", "column"] (defScope m_Grid_is_cell) := ⟨rfl, rfl, rfl, by decide +kernel, rfl, by decide +kernel, by decide +kernel⟩
abbrev f_is_integer : Stmt := top 10
theorem sc_f_is_integer : FnScope ["value"] ["value"] (defScope f_is_integer) := ⟨rfl, rfl, rfl, by decide +kernel, rfl, by decide +kernel, by decide +kernel⟩
abbrev f_look_at_width : Stmt := top 11
theorem sc_f_look_at_width : FnScope ["value"] ["value"] (defScope f_look_at_width) := ⟨rfl, rfl, rfl, by decide +kernel, rfl, by decide +kernel, by decide +kernel⟩
abbrev f_is_text : Stmt := top 24
theorem sc_f_is_text : FnScope ["value", "sign"] ["value"] (defScope f_is_text) := ⟨rfl, rfl, rfl, by decide +kernel, rfl, by decide +kernel, by decide +kernel⟩
abbrev f_is_one_of : Stmt := top 25
theorem sc_f_is_one_of : FnScope ["value", "words"] ["value", "words"] (defScope f_is_one_of) := ⟨rfl, rfl, rfl, by decide +kernel, rfl, by decide +kernel, by decide +kernel⟩
abbrev m_Write_init : Stmt := inClass (top 26) 1
theorem sc_m_Write_init : FnScope ["self", "kind", "text", "lead", "tail"] ["self", "kind", "text", "lead", "tail"] (defScope m_Write_init) := ⟨rfl, rfl, rfl, by decide +kernel, rfl, by decide +kernel, by decide +kernel⟩
abbrev m_Write_kind : Stmt := inClass (top 26) 2
abbrev m_Write_text : Stmt := inClass (top 26) 3
theorem sc_m_Write_text : FnScope ["self"] ["self"] (defScope m_Write_text) := ⟨rfl, rfl, rfl, by decide +kernel, rfl, by decide +kernel, by decide +kernel⟩
abbrev m_Write_lead : Stmt := inClass (top 26) 4
theorem sc_m_Write_lead : FnScope ["self"] ["self"] (defScope m_Write_lead) := ⟨rfl, rfl, rfl, by decide +kernel, rfl, by decide +kernel, by decide +kernel⟩
abbrev m_Write_tail : Stmt := inClass (top 26) 5
theorem sc_m_Write_tail : FnScope ["self"] ["self"] (defScope m_Write_tail) := ⟨rfl, rfl, rfl, by decide +kernel, rfl, by decide +kernel, by decide +kernel⟩
abbrev m_Write_len : Stmt := inClass (top 26) 7
abbrev m_Write_eq : Stmt := inClass (top 26) 8
abbrev f_row_text : Stmt := top 28
theorem sc_f_row_text : FnScope ["signs", "sign"] ["signs"] (defScope f_row_text) := ⟨rfl, rfl, rfl, by decide +kernel, rfl, by decide +kernel, by decide +kernel⟩
abbrev m_Terminal_init : Stmt := inClass (top 30) 0
theorem sc_m_Terminal_init : FnScope ["self", "width"] ["self", "width"] (defScope m_Terminal_init) := ⟨rfl, rfl, rfl, by decide +kernel, rfl, by decide +kernel, by decide +kernel⟩
abbrev m_Terminal_width : Stmt := inClass (top 30) 1
theorem sc_m_Terminal_width : FnScope ["self"] ["self"] (defScope m_Terminal_width) := ⟨rfl, rfl, rfl, by decide +kernel, rfl, by decide +kernel, by decide +kernel⟩
abbrev m_Terminal_place : Stmt := inClass (top 30) 2
theorem sc_m_Terminal_place : FnScope ["self"] ["self"] (defScope m_Terminal_place) := ⟨rfl, rfl, rfl, by decide +kernel, rfl, by decide +kernel, by decide +kernel⟩
abbrev m_Terminal_rows : Stmt := inClass (top 30) 3
theorem sc_m_Terminal_rows : FnScope ["self", "row"] ["self"] (defScope m_Terminal_rows) := ⟨rfl, rfl, rfl, by decide +kernel, rfl, by decide +kernel, by decide +kernel⟩
abbrev m_Terminal_iadd : Stmt := inClass (top 30) 4
theorem sc_m_Terminal_iadd : FnScope ["self", "write", "grid"] ["self", "write"] (defScope m_Terminal_iadd) := ⟨rfl, rfl, rfl, by decide +kernel, rfl, by decide +kernel, by decide +kernel⟩
abbrev m_Terminal_getitem : Stmt := inClass (top 30) 5
theorem sc_m_Terminal_getitem : FnScope ["self", "at", "row", "column"] ["self", "at"] (defScope m_Terminal_getitem) := ⟨rfl, rfl, rfl, by decide +kernel, rfl, by decide +kernel, by decide +kernel⟩
abbrev m_Terminal_iter : Stmt := inClass (top 30) 6
abbrev f_shown : Stmt := top 31
theorem sc_f_shown : FnScope ["width", "writes", "terminal", "write"] ["width", "writes"] (defScope f_shown) := ⟨rfl, rfl, rfl, by decide +kernel, rfl, by decide +kernel, by decide +kernel⟩
abbrev f_Lmix : Stmt := top 33
theorem sc_f_Lmix : FnScope ["_law_script", "_law_seed", "_law_state", "_law_cell_here"] ["_law_script", "_law_seed"] (defScope f_Lmix) := ⟨rfl, rfl, rfl, by decide +kernel, rfl, by decide +kernel, by decide +kernel⟩
abbrev f_Lnext : Stmt := top 34
theorem sc_f_Lnext : FnScope ["_law_h", "_law_bound", "_law_cell_here"] ["_law_h", "_law_bound"] (defScope f_Lnext) := ⟨rfl, rfl, rfl, by decide +kernel, rfl, by decide +kernel, by decide +kernel⟩
abbrev f_Lletters : Stmt := top 35
theorem sc_f_Lletters : FnScope ["_law_h", "_law_most", "_law_signs", "_law_size", "_law_k"] ["_law_h", "_law_most"] (defScope f_Lletters) := ⟨rfl, rfl, rfl, by decide +kernel, rfl, by decide +kernel, by decide +kernel⟩
abbrev f_Lone : Stmt := top 36
theorem sc_f_Lone : FnScope ["_law_h", "_law_form", "_law_most", "_law_words", "_law_ahead", "_law_behind"] ["_law_h", "_law_form", "_law_most"] (defScope f_Lone) := ⟨rfl, rfl, rfl, by decide +kernel, rfl, by decide +kernel, by decide +kernel⟩
abbrev f_Lscreen : Stmt := top 37
theorem sc_f_Lscreen : FnScope ["_law_w", "_law_empty", "_law_k"] ["_law_w", "_law_empty"] (defScope f_Lscreen) := ⟨rfl, rfl, rfl, by decide +kernel, rfl, by decide +kernel, by decide +kernel⟩
abbrev f_Ldown : Stmt := top 38
theorem sc_f_Ldown : FnScope ["_law_s", "_law_wrapped", "_law_k"] ["_law_s", "_law_wrapped"] (defScope f_Ldown) := ⟨rfl, rfl, rfl, by decide +kernel, rfl, by decide +kernel, by decide +kernel⟩
abbrev f_Lword : Stmt := top 39
theorem sc_f_Lword : FnScope ["_law_s", "_law_word_here", "_law_line", "_law_k"] ["_law_s", "_law_word_here"] (defScope f_Lword) := ⟨rfl, rfl, rfl, by decide +kernel, rfl, by decide +kernel, by decide +kernel⟩
abbrev f_Ltype : Stmt := top 40
theorem sc_f_Ltype : FnScope ["_law_s", "_law_things", "_law_thing", "_law_line"] ["_law_s", "_law_things"] (defScope f_Ltype) := ⟨rfl, rfl, rfl, by decide +kernel, rfl, by decide +kernel, by decide +kernel⟩
abbrev f_Labove : Stmt := top 41
abbrev f_Ltold : Stmt := top 42
theorem sc_f_Ltold : FnScope ["_law_signs", "_law_told_here", "_law_sign"] ["_law_signs"] (defScope f_Ltold) := ⟨rfl, rfl, rfl, by decide +kernel, rfl, by decide +kernel, by decide +kernel⟩
abbrev f_Lwidth : Stmt := top 43
theorem sc_f_Lwidth : FnScope ["_law_h"] ["_law_h"] (defScope f_Lwidth) := ⟨rfl, rfl, rfl, by decide +kernel, rfl, by decide +kernel, by decide +kernel⟩
abbrev f_Lcell : Stmt := top 44
theorem sc_f_Lcell : FnScope ["_law_seen", "_law_row", "_law_column", "_law_told_here", "e"] ["_law_seen", "_law_row", "_law_column"] (defScope f_Lcell) := ⟨rfl, rfl, rfl, by decide +kernel, rfl, by decide +kernel, by decide +kernel⟩
abbrev f_Lright : Stmt := top 45
theorem sc_f_Lright : FnScope ["_law_seen", "_law_s", "_law_w", "_law_row", "_law_column", "_law_line"] ["_law_seen", "_law_s", "_law_w"] (defScope f_Lright) := ⟨rfl, rfl, rfl, by decide +kernel, rfl, by decide +kernel, by decide +kernel⟩
abbrev f_law : Stmt := top 46
theorem sc_f_law : FnScope ["_law_script", "_law_h", "_law_w", "_law_s", "_law_seen", "_law_done", "_law_turn", "_law_form", "_law_one_here"] ["_law_script"] (defScope f_law) := ⟨rfl, rfl, rfl, by decide +kernel, rfl, by decide +kernel, by decide +kernel⟩
abbrev tfL : List He.Defn := []
abbrev FnP (K : PySem.W.Frag) (x qual : Str) (st : Stmt) (f : Addr) (fd : FuncData) : Prop := FunD K x qual (defArgs st) (defBody st) (defScope st) [] [] f fd
abbrev d_m_InvalidWidth_init : He.DefD := dM "InvalidWidth" "__init__" "InvalidWidth.__init__" m_InvalidWidth_init
abbrev d_m_InvalidWrite_init : He.DefD := dM "InvalidWrite" "__init__" "InvalidWrite.__init__" m_InvalidWrite_init
abbrev d_m_NoCell_init : He.DefD := dM "NoCell" "__init__" "NoCell.__init__" m_NoCell_init
abbrev d_m_Grid_init : He.DefD := dM "Grid" "__init__" "Grid.__init__" m_Grid_init
abbrev d_m_Grid_twin : He.DefD := dM "Grid" "twin" "Grid.twin" m_Grid_twin
abbrev d_m_Grid_leave : He.DefD := dM "Grid" "leave" "Grid.leave" m_Grid_leave
abbrev d_m_Grid_erase : He.DefD := dM "Grid" "erase" "Grid.erase" m_Grid_erase
abbrev d_m_Grid_put : He.DefD := dM "Grid" "put" "Grid.put" m_Grid_put
abbrev d_m_Grid_do_word : He.DefD := dM "Grid" "do_word" "Grid.do_word" m_Grid_do_word
abbrev d_m_Grid_perform : He.DefD := dM "Grid" "perform" "Grid.perform" m_Grid_perform
abbrev d_m_Grid_is_cell : He.DefD := dM "Grid" "is_cell" "Grid.is_cell" m_Grid_is_cell
abbrev d_f_is_integer : He.DefD := dF "is_integer" f_is_integer
abbrev d_f_look_at_width : He.DefD := dF "look_at_width" f_look_at_width
abbrev d_f_is_text : He.DefD := dF "is_text" f_is_text
abbrev d_f_is_one_of : He.DefD := dF "is_one_of" f_is_one_of
abbrev d_m_Write_init : He.DefD := dM "Write" "__init__" "Write.__init__" m_Write_init [] [("lead", .str ""), ("tail", .str "")]
abbrev d_m_Write_kind : He.DefD := dM "Write" "kind" "Write.kind" m_Write_kind
abbrev d_m_Write_text : He.DefD := dM "Write" "text" "Write.text" m_Write_text
abbrev d_m_Write_lead : He.DefD := dM "Write" "lead" "Write.lead" m_Write_lead
abbrev d_m_Write_tail : He.DefD := dM "Write" "tail" "Write.tail" m_Write_tail
abbrev d_m_Write_len : He.DefD := dM "Write" "__len__" "Write.__len__" m_Write_len
abbrev d_m_Write_eq : He.DefD := dM "Write" "__eq__" "Write.__eq__" m_Write_eq
abbrev d_f_row_text : He.DefD := dF "row_text" f_row_text
abbrev d_m_Terminal_init : He.DefD := dM "Terminal" "__init__" "Terminal.__init__" m_Terminal_init
abbrev d_m_Terminal_width : He.DefD := dM "Terminal" "width" "Terminal.width" m_Terminal_width
abbrev d_m_Terminal_place : He.DefD := dM "Terminal" "place" "Terminal.place" m_Terminal_place
abbrev d_m_Terminal_rows : He.DefD := dM "Terminal" "rows" "Terminal.rows" m_Terminal_rows
abbrev d_m_Terminal_iadd : He.DefD := dM "Terminal" "__iadd__" "Terminal.__iadd__" m_Terminal_iadd
abbrev d_m_Terminal_getitem : He.DefD := dM "Terminal" "__getitem__" "Terminal.__getitem__" m_Terminal_getitem
abbrev d_m_Terminal_iter : He.DefD := dM "Terminal" "__iter__" "Terminal.__iter__" m_Terminal_iter
abbrev d_f_shown : He.DefD := dF "shown" f_shown
abbrev d_f_Lmix : He.DefD := dF "_law_mix" f_Lmix
abbrev d_f_Lnext : He.DefD := dF "_law_next" f_Lnext
abbrev d_f_Lletters : He.DefD := dF "_law_letters" f_Lletters
abbrev d_f_Lone : He.DefD := dF "_law_one" f_Lone
abbrev d_f_Lscreen : He.DefD := dF "_law_screen" f_Lscreen
abbrev d_f_Ldown : He.DefD := dF "_law_down" f_Ldown
abbrev d_f_Lword : He.DefD := dF "_law_word" f_Lword
abbrev d_f_Ltype : He.DefD := dF "_law_type" f_Ltype
abbrev d_f_Labove : He.DefD := dF "_law_above" f_Labove
abbrev d_f_Ltold : He.DefD := dF "_law_told" f_Ltold
abbrev d_f_Lwidth : He.DefD := dF "_law_width" f_Lwidth
abbrev d_f_Lcell : He.DefD := dF "_law_cell" f_Lcell
abbrev d_f_Lright : He.DefD := dF "_law_right" f_Lright
abbrev d_f_law : He.DefD := dF "law" f_law
abbrev fnL : List He.DefD := [d_m_InvalidWidth_init, d_m_InvalidWrite_init, d_m_NoCell_init, d_m_Grid_init, d_m_Grid_twin, d_m_Grid_leave, d_m_Grid_erase, d_m_Grid_put, d_m_Grid_do_word, d_m_Grid_perform, d_m_Grid_is_cell, d_f_is_integer, d_f_look_at_width, d_f_is_text, d_f_is_one_of, d_m_Write_init, d_m_Write_len, d_m_Write_eq, d_f_row_text, d_m_Terminal_init, d_m_Terminal_rows, d_m_Terminal_iadd, d_m_Terminal_getitem, d_m_Terminal_iter, d_f_shown, d_f_Lmix, d_f_Lnext, d_f_Lletters, d_f_Lone, d_f_Lscreen, d_f_Ldown, d_f_Lword, d_f_Ltype, d_f_Labove, d_f_Ltold, d_f_Lwidth, d_f_Lcell, d_f_Lright, d_f_law]
abbrev gsL : List He.DefD := [d_m_Write_kind, d_m_Write_text, d_m_Write_lead, d_m_Write_tail, d_m_Terminal_width, d_m_Terminal_place]
def lk0 (K : PySem.W.Frag) : List Bool := [(He.Fa.free "isinstance").ok K,
  (He.Fa.free "str").ok K,
  (He.Fa.free "int").ok K,
  (He.Fa.free "bool").ok K,
  (He.Fa.free "list").ok K,
  (He.Fa.free "tuple").ok K,
  (He.Fa.free "dict").ok K,
  (He.Fa.free "len").ok K,
  (He.Fa.free "all").ok K,
  (He.Fa.free "any").ok K,
  (He.Fa.free "sum").ok K,
  (He.Fa.free "max").ok K,
  (He.Fa.free "min").ok K,
  (He.Fa.free "range").ok K,
  (He.Fa.free "sorted").ok K,
  (He.Fa.free "reversed").ok K,
  (He.Fa.free "enumerate").ok K,
  (He.Fa.free "set").ok K,
  (He.Fa.free "ValueError").ok K,
  (He.Fa.free "TypeError").ok K]
def lk1 (K : PySem.W.Frag) : List Bool := [(He.Fa.free "super").ok K,
  (He.Fa.glo "is_integer").ok K,
  (He.Fa.glo "look_at_width").ok K,
  (He.Fa.glo "is_text").ok K,
  (He.Fa.glo "is_one_of").ok K,
  (He.Fa.glo "row_text").ok K,
  (He.Fa.glo "shown").ok K,
  (He.Fa.glo "_law_mix").ok K,
  (He.Fa.glo "_law_next").ok K,
  (He.Fa.glo "_law_letters").ok K,
  (He.Fa.glo "_law_one").ok K,
  (He.Fa.glo "_law_screen").ok K,
  (He.Fa.glo "_law_down").ok K,
  (He.Fa.glo "_law_word").ok K,
  (He.Fa.glo "_law_type").ok K,
  (He.Fa.glo "_law_above").ok K,
  (He.Fa.glo "_law_told").ok K,
  (He.Fa.glo "_law_width").ok K,
  (He.Fa.glo "_law_cell").ok K,
  (He.Fa.glo "_law_right").ok K]
def lk2 (K : PySem.W.Frag) : List Bool := [(He.Fa.glo "law").ok K,
  (He.Fa.glo "LineError").ok K,
  (He.Fa.glo "InvalidWidth").ok K,
  (He.Fa.glo "InvalidWrite").ok K,
  (He.Fa.glo "NoCell").ok K,
  (He.Fa.glo "Grid").ok K,
  (He.Fa.glo "Write").ok K,
  (He.Fa.glo "Terminal").ok K,
  PySem.W.keepIn K (.ref (He.ga K "is_integer")),
  PySem.W.keepIn K (.ref (He.ga K "look_at_width")),
  PySem.W.keepIn K (.ref (He.ga K "is_text")),
  PySem.W.keepIn K (.ref (He.ga K "is_one_of")),
  PySem.W.keepIn K (.ref (He.ga K "row_text")),
  PySem.W.keepIn K (.ref (He.ga K "shown")),
  PySem.W.keepIn K (.ref (He.ga K "_law_mix")),
  PySem.W.keepIn K (.ref (He.ga K "_law_next")),
  PySem.W.keepIn K (.ref (He.ga K "_law_letters")),
  PySem.W.keepIn K (.ref (He.ga K "_law_one")),
  PySem.W.keepIn K (.ref (He.ga K "_law_screen")),
  PySem.W.keepIn K (.ref (He.ga K "_law_down"))]
def lk3 (K : PySem.W.Frag) : List Bool := [PySem.W.keepIn K (.ref (He.ga K "_law_word")),
  PySem.W.keepIn K (.ref (He.ga K "_law_type")),
  PySem.W.keepIn K (.ref (He.ga K "_law_above")),
  PySem.W.keepIn K (.ref (He.ga K "_law_told")),
  PySem.W.keepIn K (.ref (He.ga K "_law_width")),
  PySem.W.keepIn K (.ref (He.ga K "_law_cell")),
  PySem.W.keepIn K (.ref (He.ga K "_law_right")),
  PySem.W.keepIn K (.ref (He.ga K "law")),
  (He.Fa.int "MOST_WIDTH" 99).ok K,
  (He.Fa.str "LETTERS" ("abcdefghijklmnopqrstuvwxyz")).ok K,
  (He.Fa.str "FIGURES" ("0123456789")).ok K,
  (He.Fa.str "SIGNS" (Str.ofString ("abcdefghijklmnopqrstuvwxyzABCDEFGHIJKLMNOPQRSTUVWXYZ0123456789 !\"#$&'()*+,-./:;<=>?@" ++ "[\\]^_`{|}~"))).ok K,
  (He.Fa.str "SAY" ("say")).ok K,
  (He.Fa.str "ASK" ("ask")).ok K,
  (He.Fa.str "REPLY" ("reply")).ok K,
  (He.Fa.str "SHOW" ("show")).ok K,
  (He.tupB K "KINDS" [He.Dv.str "say", He.Dv.str "ask", He.Dv.str "reply", He.Dv.str "show"] && He.eqO (PySem.W.nsIn K mainGlobals "KINDS") (some (some (.ref (He.ga K "KINDS"))))),
  (He.tupB K "LEADS" [He.Dv.str "", He.Dv.str "return", He.Dv.str "wipe", He.Dv.str "fresh"] && He.eqO (PySem.W.nsIn K mainGlobals "LEADS") (some (some (.ref (He.ga K "LEADS"))))),
  (He.tupB K "TAILS" [He.Dv.str "", He.Dv.str "erase", He.Dv.str "newline"] && He.eqO (PySem.W.nsIn K mainGlobals "TAILS") (some (some (.ref (He.ga K "TAILS"))))),
  (He.Fa.int "MOST_SIGNS" 40).ok K]
def lk4 (K : PySem.W.Frag) : List Bool := [exB K "InvalidWidth",
  txB K (He.ga K "InvalidWidth"),
  (He.Fa.noat "InvalidWidth" "value").ok K,
  (He.Fa.exm "InvalidWidth" "NoCell" false).ok K,
  exB K "InvalidWrite",
  txB K (He.ga K "InvalidWrite"),
  (He.Fa.noat "InvalidWrite" "part").ok K,
  (He.Fa.exm "InvalidWrite" "NoCell" false).ok K,
  exB K "NoCell",
  txB K (He.ga K "NoCell"),
  (He.Fa.noat "NoCell" "row").ok K,
  (He.Fa.noat "NoCell" "column").ok K,
  (He.Fa.exm "NoCell" "NoCell" true).ok K,
  (He.Fa.mkr "Grid").ok K,
  (He.Fa.meth "Grid" "__init__").ok K,
  (He.Fa.meth "Grid" "twin").ok K,
  (He.Fa.meth "Grid" "leave").ok K,
  (He.Fa.meth "Grid" "erase").ok K,
  (He.Fa.meth "Grid" "put").ok K,
  (He.Fa.meth "Grid" "do_word").ok K]
def lk5 (K : PySem.W.Frag) : List Bool := [(He.Fa.meth "Grid" "perform").ok K,
  (He.Fa.meth "Grid" "is_cell").ok K,
  (He.Fa.cls "Grid").ok K,
  (He.Fa.noat "Grid" "span").ok K,
  (He.Fa.noat "Grid" "empty").ok K,
  (He.Fa.noat "Grid" "cells").ok K,
  (He.Fa.noat "Grid" "joined").ok K,
  (He.Fa.noat "Grid" "row").ok K,
  (He.Fa.noat "Grid" "column").ok K,
  (He.Fa.mkr "Write").ok K,
  (He.Fa.meth "Write" "__init__").ok K,
  prB K (He.ga K "Write") "kind",
  prB K (He.ga K "Write") "text",
  prB K (He.ga K "Write") "lead",
  prB K (He.ga K "Write") "tail",
  (He.Fa.meth "Write" "__len__").ok K,
  (He.Fa.meth "Write" "__eq__").ok K,
  tclB K (He.ga K "Write"),
  slB K (He.ga K "Write") "mode" 2,
  slB K (He.ga K "Write") "signs" 3]
def lk6 (K : PySem.W.Frag) : List Bool := [slB K (He.ga K "Write") "ahead" 0,
  slB K (He.ga K "Write") "behind" 1,
  (He.Fa.mkr "Terminal").ok K,
  (He.Fa.meth "Terminal" "__init__").ok K,
  prB K (He.ga K "Terminal") "width",
  prB K (He.ga K "Terminal") "place",
  (He.Fa.meth "Terminal" "rows").ok K,
  PySem.W.selfFirst K (He.ga K "Terminal"),
  (He.Fa.meth "Terminal" "__iadd__").ok K,
  PySem.W.fnIn K (He.ma K (He.ga K "Terminal") "__getitem__"),
  (He.Fa.meth "Terminal" "__getitem__").ok K,
  (He.Fa.meth "Terminal" "__iter__").ok K,
  (He.Fa.cls "Terminal").ok K,
  (He.Fa.noat "Terminal" "grid").ok K]
def lkL (K : PySem.W.Frag) : Bool := (lk0 K).all id && ((lk1 K).all id && ((lk2 K).all id && ((lk3 K).all id && ((lk4 K).all id && ((lk5 K).all id && ((lk6 K).all id))))))
structure Env (P : Program) (w : World) (K : PySem.W.Frag) (mg : Str → Option Value) (base : Heap) : Prop where
  lk : lkL K = true
  hp : ∃ h, K.In h ∧ h.Ns mainGlobals mg
  has : ∀ d ∈ fnL, Has K d
  hasG : ∀ d ∈ gsL, HasG K d
  tb : ∀ p ∈ tfL, LamX.TabB base mg (He.cT K p).1 (He.cT K p).2
section
variable {P : Program} {w : World} {K : PySem.W.Frag} {mg : Str → Option Value} {base : Heap}
theorem Env.lk0 (E : Env P w K mg base) : (lk0 K).all id = true := (He.ba E.lk).1
theorem Env.lk1 (E : Env P w K mg base) : (lk1 K).all id = true := (He.ba (He.ba E.lk).2).1
theorem Env.lk2 (E : Env P w K mg base) : (lk2 K).all id = true := (He.ba (He.ba (He.ba E.lk).2).2).1
theorem Env.lk3 (E : Env P w K mg base) : (lk3 K).all id = true := (He.ba (He.ba (He.ba (He.ba E.lk).2).2).2).1
theorem Env.lk4 (E : Env P w K mg base) : (lk4 K).all id = true := (He.ba (He.ba (He.ba (He.ba (He.ba E.lk).2).2).2).2).1
theorem Env.lk5 (E : Env P w K mg base) : (lk5 K).all id = true := (He.ba (He.ba (He.ba (He.ba (He.ba (He.ba E.lk).2).2).2).2).2).1
theorem Env.lk6 (E : Env P w K mg base) : (lk6 K).all id = true := (He.ba (He.ba (He.ba (He.ba (He.ba (He.ba E.lk).2).2).2).2).2).2
theorem Env.b_isinstance (E : Env P w K mg base) : mg "isinstance" = none := by
  obtain ⟨h, X, G⟩ := E.hp
  exact He.free_ok X G (all_at (E.lk0) 0 (by rfl))
theorem Env.b_str (E : Env P w K mg base) : mg "str" = none := by
  obtain ⟨h, X, G⟩ := E.hp
  exact He.free_ok X G (all_at (E.lk0) 1 (by rfl))
theorem Env.b_int (E : Env P w K mg base) : mg "int" = none := by
  obtain ⟨h, X, G⟩ := E.hp
  exact He.free_ok X G (all_at (E.lk0) 2 (by rfl))
theorem Env.b_bool (E : Env P w K mg base) : mg "bool" = none := by
  obtain ⟨h, X, G⟩ := E.hp
  exact He.free_ok X G (all_at (E.lk0) 3 (by rfl))
theorem Env.b_list (E : Env P w K mg base) : mg "list" = none := by
  obtain ⟨h, X, G⟩ := E.hp
  exact He.free_ok X G (all_at (E.lk0) 4 (by rfl))
theorem Env.b_len (E : Env P w K mg base) : mg "len" = none := by
  obtain ⟨h, X, G⟩ := E.hp
  exact He.free_ok X G (all_at (E.lk0) 7 (by rfl))
theorem Env.b_all (E : Env P w K mg base) : mg "all" = none := by
  obtain ⟨h, X, G⟩ := E.hp
  exact He.free_ok X G (all_at (E.lk0) 8 (by rfl))
theorem Env.b_max (E : Env P w K mg base) : mg "max" = none := by
  obtain ⟨h, X, G⟩ := E.hp
  exact He.free_ok X G (all_at (E.lk0) 11 (by rfl))
theorem Env.b_range (E : Env P w K mg base) : mg "range" = none := by
  obtain ⟨h, X, G⟩ := E.hp
  exact He.free_ok X G (all_at (E.lk0) 13 (by rfl))
theorem Env.g_is_integer (E : Env P w K mg base) : mg "is_integer" = some (.ref (He.ga K "is_integer")) := by
  obtain ⟨h, X, G⟩ := E.hp
  exact He.glo_ok X G (all_at (E.lk1) 1 (by rfl))
theorem Env.g_look_at_width (E : Env P w K mg base) : mg "look_at_width" = some (.ref (He.ga K "look_at_width")) := by
  obtain ⟨h, X, G⟩ := E.hp
  exact He.glo_ok X G (all_at (E.lk1) 2 (by rfl))
theorem Env.g_is_text (E : Env P w K mg base) : mg "is_text" = some (.ref (He.ga K "is_text")) := by
  obtain ⟨h, X, G⟩ := E.hp
  exact He.glo_ok X G (all_at (E.lk1) 3 (by rfl))
theorem Env.g_is_one_of (E : Env P w K mg base) : mg "is_one_of" = some (.ref (He.ga K "is_one_of")) := by
  obtain ⟨h, X, G⟩ := E.hp
  exact He.glo_ok X G (all_at (E.lk1) 4 (by rfl))
theorem Env.g_row_text (E : Env P w K mg base) : mg "row_text" = some (.ref (He.ga K "row_text")) := by
  obtain ⟨h, X, G⟩ := E.hp
  exact He.glo_ok X G (all_at (E.lk1) 5 (by rfl))
theorem Env.g_shown (E : Env P w K mg base) : mg "shown" = some (.ref (He.ga K "shown")) := by
  obtain ⟨h, X, G⟩ := E.hp
  exact He.glo_ok X G (all_at (E.lk1) 6 (by rfl))
theorem Env.g__law_mix (E : Env P w K mg base) : mg "_law_mix" = some (.ref (He.ga K "_law_mix")) := by
  obtain ⟨h, X, G⟩ := E.hp
  exact He.glo_ok X G (all_at (E.lk1) 7 (by rfl))
theorem Env.g__law_next (E : Env P w K mg base) : mg "_law_next" = some (.ref (He.ga K "_law_next")) := by
  obtain ⟨h, X, G⟩ := E.hp
  exact He.glo_ok X G (all_at (E.lk1) 8 (by rfl))
theorem Env.g__law_letters (E : Env P w K mg base) : mg "_law_letters" = some (.ref (He.ga K "_law_letters")) := by
  obtain ⟨h, X, G⟩ := E.hp
  exact He.glo_ok X G (all_at (E.lk1) 9 (by rfl))
theorem Env.g__law_one (E : Env P w K mg base) : mg "_law_one" = some (.ref (He.ga K "_law_one")) := by
  obtain ⟨h, X, G⟩ := E.hp
  exact He.glo_ok X G (all_at (E.lk1) 10 (by rfl))
theorem Env.g__law_screen (E : Env P w K mg base) : mg "_law_screen" = some (.ref (He.ga K "_law_screen")) := by
  obtain ⟨h, X, G⟩ := E.hp
  exact He.glo_ok X G (all_at (E.lk1) 11 (by rfl))
theorem Env.g__law_down (E : Env P w K mg base) : mg "_law_down" = some (.ref (He.ga K "_law_down")) := by
  obtain ⟨h, X, G⟩ := E.hp
  exact He.glo_ok X G (all_at (E.lk1) 12 (by rfl))
theorem Env.g__law_word (E : Env P w K mg base) : mg "_law_word" = some (.ref (He.ga K "_law_word")) := by
  obtain ⟨h, X, G⟩ := E.hp
  exact He.glo_ok X G (all_at (E.lk1) 13 (by rfl))
theorem Env.g__law_type (E : Env P w K mg base) : mg "_law_type" = some (.ref (He.ga K "_law_type")) := by
  obtain ⟨h, X, G⟩ := E.hp
  exact He.glo_ok X G (all_at (E.lk1) 14 (by rfl))
theorem Env.g__law_told (E : Env P w K mg base) : mg "_law_told" = some (.ref (He.ga K "_law_told")) := by
  obtain ⟨h, X, G⟩ := E.hp
  exact He.glo_ok X G (all_at (E.lk1) 16 (by rfl))
theorem Env.g__law_width (E : Env P w K mg base) : mg "_law_width" = some (.ref (He.ga K "_law_width")) := by
  obtain ⟨h, X, G⟩ := E.hp
  exact He.glo_ok X G (all_at (E.lk1) 17 (by rfl))
theorem Env.g__law_cell (E : Env P w K mg base) : mg "_law_cell" = some (.ref (He.ga K "_law_cell")) := by
  obtain ⟨h, X, G⟩ := E.hp
  exact He.glo_ok X G (all_at (E.lk1) 18 (by rfl))
theorem Env.g__law_right (E : Env P w K mg base) : mg "_law_right" = some (.ref (He.ga K "_law_right")) := by
  obtain ⟨h, X, G⟩ := E.hp
  exact He.glo_ok X G (all_at (E.lk1) 19 (by rfl))
theorem Env.g_law (E : Env P w K mg base) : mg "law" = some (.ref (He.ga K "law")) := by
  obtain ⟨h, X, G⟩ := E.hp
  exact He.glo_ok X G (all_at (E.lk2) 0 (by rfl))
theorem Env.g_NoCell (E : Env P w K mg base) : mg "NoCell" = some (.ref (He.ga K "NoCell")) := by
  obtain ⟨h, X, G⟩ := E.hp
  exact He.glo_ok X G (all_at (E.lk2) 4 (by rfl))
theorem Env.g_Grid (E : Env P w K mg base) : mg "Grid" = some (.ref (He.ga K "Grid")) := by
  obtain ⟨h, X, G⟩ := E.hp
  exact He.glo_ok X G (all_at (E.lk2) 5 (by rfl))
theorem Env.g_Write (E : Env P w K mg base) : mg "Write" = some (.ref (He.ga K "Write")) := by
  obtain ⟨h, X, G⟩ := E.hp
  exact He.glo_ok X G (all_at (E.lk2) 6 (by rfl))
theorem Env.g_Terminal (E : Env P w K mg base) : mg "Terminal" = some (.ref (He.ga K "Terminal")) := by
  obtain ⟨h, X, G⟩ := E.hp
  exact He.glo_ok X G (all_at (E.lk2) 7 (by rfl))
theorem Env.c_MOST_WIDTH (E : Env P w K mg base) : ∃ t, mg "MOST_WIDTH" = some (.int 99 t) := by
  obtain ⟨h, X, G⟩ := E.hp
  exact He.int_ok X G (all_at (E.lk3) 8 (by rfl))
theorem Env.c_SIGNS (E : Env P w K mg base) : ∃ t, mg "SIGNS" = some (.str (Str.ofString ("abcdefghijklmnopqrstuvwxyzABCDEFGHIJKLMNOPQRSTUVWXYZ0123456789 !\"#$&'()*+,-./:;<=>?@" ++ "[\\]^_`{|}~")) t) := by
  obtain ⟨h, X, G⟩ := E.hp
  exact He.str_ok X G (all_at (E.lk3) 11 (by rfl))
theorem Env.c_ASK (E : Env P w K mg base) : ∃ t, mg "ASK" = some (.str ("ask") t) := by
  obtain ⟨h, X, G⟩ := E.hp
  exact He.str_ok X G (all_at (E.lk3) 13 (by rfl))
theorem Env.c_REPLY (E : Env P w K mg base) : ∃ t, mg "REPLY" = some (.str ("reply") t) := by
  obtain ⟨h, X, G⟩ := E.hp
  exact He.str_ok X G (all_at (E.lk3) 14 (by rfl))
theorem Env.c_KINDS (E : Env P w K mg base) : GTup K mg "KINDS" ((["say", "ask", "reply", "show"] : List Str).map D.str) := by
  obtain ⟨h, X, G⟩ := E.hp
  exact gtup_of X G (He.ba (all_at (E.lk3) 16 (by rfl))).1 (He.ba (all_at (E.lk3) 16 (by rfl))).2 rfl
theorem Env.c_LEADS (E : Env P w K mg base) : GTup K mg "LEADS" ((["", "return", "wipe", "fresh"] : List Str).map D.str) := by
  obtain ⟨h, X, G⟩ := E.hp
  exact gtup_of X G (He.ba (all_at (E.lk3) 17 (by rfl))).1 (He.ba (all_at (E.lk3) 17 (by rfl))).2 rfl
theorem Env.c_TAILS (E : Env P w K mg base) : GTup K mg "TAILS" ((["", "erase", "newline"] : List Str).map D.str) := by
  obtain ⟨h, X, G⟩ := E.hp
  exact gtup_of X G (He.ba (all_at (E.lk3) 18 (by rfl))).1 (He.ba (all_at (E.lk3) 18 (by rfl))).2 rfl
theorem Env.c_MOST_SIGNS (E : Env P w K mg base) : ∃ t, mg "MOST_SIGNS" = some (.int 40 t) := by
  obtain ⟨h, X, G⟩ := E.hp
  exact He.int_ok X G (all_at (E.lk3) 19 (by rfl))
theorem Env.x_InvalidWrite (E : Env P w K mg base) : TExc K mg "InvalidWrite" := by
  obtain ⟨h, X, G⟩ := E.hp
  exact exB_ok X G (all_at (E.lk4) 4 (by rfl))
theorem Env.f_InvalidWrite_part (E : Env P w K mg base) : PySem.W.findIn K (.ref (He.ga K "InvalidWrite")) "part" = some none := He.noat_ok (all_at (E.lk4) 6 (by rfl))
theorem Env.x_NoCell (E : Env P w K mg base) : TExc K mg "NoCell" := by
  obtain ⟨h, X, G⟩ := E.hp
  exact exB_ok X G (all_at (E.lk4) 8 (by rfl))
theorem Env.t_NoCell (E : Env P w K mg base) : TXf K (He.ga K "NoCell") := txB_ok (all_at (E.lk4) 9 (by rfl))
theorem Env.f_NoCell_row (E : Env P w K mg base) : PySem.W.findIn K (.ref (He.ga K "NoCell")) "row" = some none := He.noat_ok (all_at (E.lk4) 10 (by rfl))
theorem Env.f_NoCell_column (E : Env P w K mg base) : PySem.W.findIn K (.ref (He.ga K "NoCell")) "column" = some none := He.noat_ok (all_at (E.lk4) 11 (by rfl))
theorem Env.xm_NoCell_NoCell (E : Env P w K mg base) : PySem.W.exmOne K (.ref (He.ga K "NoCell")) (.ref (He.ga K "NoCell")) = some true := of_decide_eq_true (all_at (E.lk4) 12 (by rfl))
theorem Env.m_Grid (E : Env P w K mg base) : Mk K (He.ga K "Grid") (He.ma K (He.ga K "Grid") "__init__") := He.mkr_ok (all_at (E.lk4) 13 (by rfl))
theorem Env.h_Grid_twin (E : Env P w K mg base) : TMeth K (He.ga K "Grid") "twin" := tmeth_ok (all_at (E.lk4) 15 (by rfl))
theorem Env.h_Grid_leave (E : Env P w K mg base) : TMeth K (He.ga K "Grid") "leave" := tmeth_ok (all_at (E.lk4) 16 (by rfl))
theorem Env.h_Grid_erase (E : Env P w K mg base) : TMeth K (He.ga K "Grid") "erase" := tmeth_ok (all_at (E.lk4) 17 (by rfl))
theorem Env.h_Grid_put (E : Env P w K mg base) : TMeth K (He.ga K "Grid") "put" := tmeth_ok (all_at (E.lk4) 18 (by rfl))
theorem Env.h_Grid_do_word (E : Env P w K mg base) : TMeth K (He.ga K "Grid") "do_word" := tmeth_ok (all_at (E.lk4) 19 (by rfl))
theorem Env.h_Grid_perform (E : Env P w K mg base) : TMeth K (He.ga K "Grid") "perform" := tmeth_ok (all_at (E.lk5) 0 (by rfl))
theorem Env.h_Grid_is_cell (E : Env P w K mg base) : TMeth K (He.ga K "Grid") "is_cell" := tmeth_ok (all_at (E.lk5) 1 (by rfl))
theorem Env.l_Grid (E : Env P w K mg base) : Cls K (He.ga K "Grid") := He.cls_ok (all_at (E.lk5) 2 (by rfl))
theorem Env.a_Grid_span (E : Env P w K mg base) : NoAttr K (He.ga K "Grid") "span" := He.noat_ok (all_at (E.lk5) 3 (by rfl))
theorem Env.a_Grid_empty (E : Env P w K mg base) : NoAttr K (He.ga K "Grid") "empty" := He.noat_ok (all_at (E.lk5) 4 (by rfl))
theorem Env.a_Grid_cells (E : Env P w K mg base) : NoAttr K (He.ga K "Grid") "cells" := He.noat_ok (all_at (E.lk5) 5 (by rfl))
theorem Env.a_Grid_joined (E : Env P w K mg base) : NoAttr K (He.ga K "Grid") "joined" := He.noat_ok (all_at (E.lk5) 6 (by rfl))
theorem Env.a_Grid_row (E : Env P w K mg base) : NoAttr K (He.ga K "Grid") "row" := He.noat_ok (all_at (E.lk5) 7 (by rfl))
theorem Env.a_Grid_column (E : Env P w K mg base) : NoAttr K (He.ga K "Grid") "column" := He.noat_ok (all_at (E.lk5) 8 (by rfl))
theorem Env.m_Write (E : Env P w K mg base) : Mk K (He.ga K "Write") (He.ma K (He.ga K "Write") "__init__") := He.mkr_ok (all_at (E.lk5) 9 (by rfl))
theorem Env.p_Write_text (E : Env P w K mg base) : PropC K (He.ga K "Write") "text" (He.ma K (He.ga K "Write") "text") (gtr K (He.ga K "Write") "text") := prB_ok (all_at (E.lk5) 12 (by rfl))
theorem Env.p_Write_lead (E : Env P w K mg base) : PropC K (He.ga K "Write") "lead" (He.ma K (He.ga K "Write") "lead") (gtr K (He.ga K "Write") "lead") := prB_ok (all_at (E.lk5) 13 (by rfl))
theorem Env.p_Write_tail (E : Env P w K mg base) : PropC K (He.ga K "Write") "tail" (He.ma K (He.ga K "Write") "tail") (gtr K (He.ga K "Write") "tail") := prB_ok (all_at (E.lk5) 14 (by rfl))
theorem Env.k_Write (E : Env P w K mg base) : TCls K (He.ga K "Write") := tclB_ok (all_at (E.lk5) 17 (by rfl))
theorem Env.s_Write_mode (E : Env P w K mg base) : SlX.Slot1 K (He.ga K "Write") "mode" (He.ma K (He.ga K "Write") "mode") 2 := slB_ok (all_at (E.lk5) 18 (by rfl))
theorem Env.s_Write_signs (E : Env P w K mg base) : SlX.Slot1 K (He.ga K "Write") "signs" (He.ma K (He.ga K "Write") "signs") 3 := slB_ok (all_at (E.lk5) 19 (by rfl))
theorem Env.s_Write_ahead (E : Env P w K mg base) : SlX.Slot1 K (He.ga K "Write") "ahead" (He.ma K (He.ga K "Write") "ahead") 0 := slB_ok (all_at (E.lk6) 0 (by rfl))
theorem Env.s_Write_behind (E : Env P w K mg base) : SlX.Slot1 K (He.ga K "Write") "behind" (He.ma K (He.ga K "Write") "behind") 1 := slB_ok (all_at (E.lk6) 1 (by rfl))
theorem Env.m_Terminal (E : Env P w K mg base) : Mk K (He.ga K "Terminal") (He.ma K (He.ga K "Terminal") "__init__") := He.mkr_ok (all_at (E.lk6) 2 (by rfl))
theorem Env.p_Terminal_width (E : Env P w K mg base) : PropC K (He.ga K "Terminal") "width" (He.ma K (He.ga K "Terminal") "width") (gtr K (He.ga K "Terminal") "width") := prB_ok (all_at (E.lk6) 4 (by rfl))
theorem Env.p_Terminal_place (E : Env P w K mg base) : PropC K (He.ga K "Terminal") "place" (He.ma K (He.ga K "Terminal") "place") (gtr K (He.ga K "Terminal") "place") := prB_ok (all_at (E.lk6) 5 (by rfl))
theorem Env.h_Terminal_rows (E : Env P w K mg base) : TMeth K (He.ga K "Terminal") "rows" := tmeth_ok (all_at (E.lk6) 6 (by rfl))
theorem Env.sf_Terminal (E : Env P w K mg base) : PySem.W.selfFirst K (He.ga K "Terminal") = true := all_at (E.lk6) 7 (by rfl)
theorem Env.h_Terminal_iadd (E : Env P w K mg base) : TMeth K (He.ga K "Terminal") "__iadd__" := tmeth_ok (all_at (E.lk6) 8 (by rfl))
theorem Env.fn_Terminal_getitem (E : Env P w K mg base) : PySem.W.fnIn K (He.ma K (He.ga K "Terminal") "__getitem__") = true := all_at (E.lk6) 9 (by rfl)
theorem Env.h_Terminal_getitem (E : Env P w K mg base) : TMeth K (He.ga K "Terminal") "__getitem__" := tmeth_ok (all_at (E.lk6) 10 (by rfl))
theorem Env.l_Terminal (E : Env P w K mg base) : Cls K (He.ga K "Terminal") := He.cls_ok (all_at (E.lk6) 12 (by rfl))
theorem Env.a_Terminal_grid (E : Env P w K mg base) : NoAttr K (He.ga K "Terminal") "grid" := He.noat_ok (all_at (E.lk6) 13 (by rfl))
theorem in_m_InvalidWrite_init : d_m_InvalidWrite_init ∈ fnL := List.mem_of_getElem? (i := 1) rfl
theorem in_m_NoCell_init : d_m_NoCell_init ∈ fnL := List.mem_of_getElem? (i := 2) rfl
theorem in_m_Grid_init : d_m_Grid_init ∈ fnL := List.mem_of_getElem? (i := 3) rfl
theorem in_m_Grid_twin : d_m_Grid_twin ∈ fnL := List.mem_of_getElem? (i := 4) rfl
theorem in_m_Grid_leave : d_m_Grid_leave ∈ fnL := List.mem_of_getElem? (i := 5) rfl
theorem in_m_Grid_erase : d_m_Grid_erase ∈ fnL := List.mem_of_getElem? (i := 6) rfl
theorem in_m_Grid_put : d_m_Grid_put ∈ fnL := List.mem_of_getElem? (i := 7) rfl
theorem in_m_Grid_do_word : d_m_Grid_do_word ∈ fnL := List.mem_of_getElem? (i := 8) rfl
theorem in_m_Grid_perform : d_m_Grid_perform ∈ fnL := List.mem_of_getElem? (i := 9) rfl
theorem in_m_Grid_is_cell : d_m_Grid_is_cell ∈ fnL := List.mem_of_getElem? (i := 10) rfl
theorem in_f_is_integer : d_f_is_integer ∈ fnL := List.mem_of_getElem? (i := 11) rfl
theorem in_f_look_at_width : d_f_look_at_width ∈ fnL := List.mem_of_getElem? (i := 12) rfl
theorem in_f_is_text : d_f_is_text ∈ fnL := List.mem_of_getElem? (i := 13) rfl
theorem in_f_is_one_of : d_f_is_one_of ∈ fnL := List.mem_of_getElem? (i := 14) rfl
theorem in_m_Write_init : d_m_Write_init ∈ fnL := List.mem_of_getElem? (i := 15) rfl
theorem in_f_row_text : d_f_row_text ∈ fnL := List.mem_of_getElem? (i := 18) rfl
theorem in_m_Terminal_init : d_m_Terminal_init ∈ fnL := List.mem_of_getElem? (i := 19) rfl
theorem in_m_Terminal_rows : d_m_Terminal_rows ∈ fnL := List.mem_of_getElem? (i := 20) rfl
theorem in_m_Terminal_iadd : d_m_Terminal_iadd ∈ fnL := List.mem_of_getElem? (i := 21) rfl
theorem in_m_Terminal_getitem : d_m_Terminal_getitem ∈ fnL := List.mem_of_getElem? (i := 22) rfl
theorem in_f_shown : d_f_shown ∈ fnL := List.mem_of_getElem? (i := 24) rfl
theorem in_f_Lmix : d_f_Lmix ∈ fnL := List.mem_of_getElem? (i := 25) rfl
theorem in_f_Lnext : d_f_Lnext ∈ fnL := List.mem_of_getElem? (i := 26) rfl
theorem in_f_Lletters : d_f_Lletters ∈ fnL := List.mem_of_getElem? (i := 27) rfl
theorem in_f_Lone : d_f_Lone ∈ fnL := List.mem_of_getElem? (i := 28) rfl
theorem in_f_Lscreen : d_f_Lscreen ∈ fnL := List.mem_of_getElem? (i := 29) rfl
theorem in_f_Ldown : d_f_Ldown ∈ fnL := List.mem_of_getElem? (i := 30) rfl
theorem in_f_Lword : d_f_Lword ∈ fnL := List.mem_of_getElem? (i := 31) rfl
theorem in_f_Ltype : d_f_Ltype ∈ fnL := List.mem_of_getElem? (i := 32) rfl
theorem in_f_Ltold : d_f_Ltold ∈ fnL := List.mem_of_getElem? (i := 34) rfl
theorem in_f_Lwidth : d_f_Lwidth ∈ fnL := List.mem_of_getElem? (i := 35) rfl
theorem in_f_Lcell : d_f_Lcell ∈ fnL := List.mem_of_getElem? (i := 36) rfl
theorem in_f_Lright : d_f_Lright ∈ fnL := List.mem_of_getElem? (i := 37) rfl
theorem in_f_law : d_f_law ∈ fnL := List.mem_of_getElem? (i := 38) rfl
theorem in_m_Write_text : d_m_Write_text ∈ gsL := List.mem_of_getElem? (i := 1) rfl
theorem in_m_Write_lead : d_m_Write_lead ∈ gsL := List.mem_of_getElem? (i := 2) rfl
theorem in_m_Write_tail : d_m_Write_tail ∈ gsL := List.mem_of_getElem? (i := 3) rfl
theorem in_m_Terminal_width : d_m_Terminal_width ∈ gsL := List.mem_of_getElem? (i := 4) rfl
theorem in_m_Terminal_place : d_m_Terminal_place ∈ gsL := List.mem_of_getElem? (i := 5) rfl
theorem Env.ini_InvalidWrite (E : Env P w K mg base) : ∃ fd, FnOk P w K mg base (L2.CX P w) 1 (He.ma K (He.ga K "InvalidWrite") "__init__") fd ["self", "part"] (spXIC (He.ga K "InvalidWrite") ["part"]) ∧ L2.Binds K fd ["self", "part"] [] := by
  obtain ⟨fd, F⟩ := E.has _ in_m_InvalidWrite_init
  exact ⟨fd, ok_ini1 F sc_m_InvalidWrite_init E.x_InvalidWrite.oe E.f_InvalidWrite_part (by first | exact Or.inl rfl | exact Or.inr (Or.inl rfl) | exact Or.inr (Or.inr rfl)) (by first | exact Or.inl rfl | exact Or.inr (Or.inl rfl) | exact Or.inr (Or.inr rfl)) (by decide) (by decide), F.bindsN fun _ _ _ _ _ _ us hl => match us, hl with | [_, _], _ => rfl⟩
theorem Env.ini_NoCell (E : Env P w K mg base) : ∃ fd, FnOk P w K mg base (L2.CX P w) 1 (He.ma K (He.ga K "NoCell") "__init__") fd ["self", "row", "column"] (spXIC (He.ga K "NoCell") ["row", "column"]) ∧ L2.Binds K fd ["self", "row", "column"] [] := by
  obtain ⟨fd, F⟩ := E.has _ in_m_NoCell_init
  exact ⟨fd, ok_ini2 F sc_m_NoCell_init E.x_NoCell.oe E.f_NoCell_row E.f_NoCell_column (by first | exact Or.inl rfl | exact Or.inr (Or.inl rfl) | exact Or.inr (Or.inr rfl)) (by first | exact Or.inl rfl | exact Or.inr (Or.inl rfl) | exact Or.inr (Or.inr rfl)) (by first | exact Or.inl rfl | exact Or.inr (Or.inl rfl) | exact Or.inr (Or.inr rfl)) (by decide) (by decide) (by decide) (by decide), F.bindsN fun _ _ _ _ _ _ us hl => match us, hl with | [_, _, _], _ => rfl⟩
theorem mk_m_Grid_twin (E : Env P w K mg base) {k : Nat} {S : Spec K} (ok : ∀ fd, FunD K "twin" "Grid.twin" (defArgs m_Grid_twin) (defBody m_Grid_twin) (defScope m_Grid_twin) [] [] (He.ma K (He.ga K "Grid") "twin") fd → FnOk P w K mg base (L2.CX P w) k (He.ma K (He.ga K "Grid") "twin") fd ["self"] (spD K S)) : FnR P w K mg base (L2.CX P w) k (He.ma K (He.ga K "Grid") "twin") (spD K S) := by
  obtain ⟨fd, F⟩ := E.has _ in_m_Grid_twin
  exact raw0 (ok fd F) (F.bindsN fun _ _ _ _ _ _ us hl => match us, hl with | [_], _ => rfl)
theorem mk_m_Grid_leave (E : Env P w K mg base) {k : Nat} {S : Spec K} (ok : ∀ fd, FunD K "leave" "Grid.leave" (defArgs m_Grid_leave) (defBody m_Grid_leave) (defScope m_Grid_leave) [] [] (He.ma K (He.ga K "Grid") "leave") fd → FnOk P w K mg base (L2.CX P w) k (He.ma K (He.ga K "Grid") "leave") fd ["self", "is_wrapped"] (spD K S)) : FnR P w K mg base (L2.CX P w) k (He.ma K (He.ga K "Grid") "leave") (spD K S) := by
  obtain ⟨fd, F⟩ := E.has _ in_m_Grid_leave
  exact raw0 (ok fd F) (F.bindsN fun _ _ _ _ _ _ us hl => match us, hl with | [_, _], _ => rfl)
theorem mk_m_Grid_erase (E : Env P w K mg base) {k : Nat} {S : Spec K} (ok : ∀ fd, FunD K "erase" "Grid.erase" (defArgs m_Grid_erase) (defBody m_Grid_erase) (defScope m_Grid_erase) [] [] (He.ma K (He.ga K "Grid") "erase") fd → FnOk P w K mg base (L2.CX P w) k (He.ma K (He.ga K "Grid") "erase") fd ["self"] (spD K S)) : FnR P w K mg base (L2.CX P w) k (He.ma K (He.ga K "Grid") "erase") (spD K S) := by
  obtain ⟨fd, F⟩ := E.has _ in_m_Grid_erase
  exact raw0 (ok fd F) (F.bindsN fun _ _ _ _ _ _ us hl => match us, hl with | [_], _ => rfl)
theorem mk_m_Grid_put (E : Env P w K mg base) {k : Nat} {S : Spec K} (ok : ∀ fd, FunD K "put" "Grid.put" (defArgs m_Grid_put) (defBody m_Grid_put) (defScope m_Grid_put) [] [] (He.ma K (He.ga K "Grid") "put") fd → FnOk P w K mg base (L2.CX P w) k (He.ma K (He.ga K "Grid") "put") fd ["self", "thing"] (spD K S)) : FnR P w K mg base (L2.CX P w) k (He.ma K (He.ga K "Grid") "put") (spD K S) := by
  obtain ⟨fd, F⟩ := E.has _ in_m_Grid_put
  exact raw0 (ok fd F) (F.bindsN fun _ _ _ _ _ _ us hl => match us, hl with | [_, _], _ => rfl)
theorem mk_m_Grid_do_word (E : Env P w K mg base) {k : Nat} {S : Spec K} (ok : ∀ fd, FunD K "do_word" "Grid.do_word" (defArgs m_Grid_do_word) (defBody m_Grid_do_word) (defScope m_Grid_do_word) [] [] (He.ma K (He.ga K "Grid") "do_word") fd → FnOk P w K mg base (L2.CX P w) k (He.ma K (He.ga K "Grid") "do_word") fd ["self", "word"] (spD K S)) : FnR P w K mg base (L2.CX P w) k (He.ma K (He.ga K "Grid") "do_word") (spD K S) := by
  obtain ⟨fd, F⟩ := E.has _ in_m_Grid_do_word
  exact raw0 (ok fd F) (F.bindsN fun _ _ _ _ _ _ us hl => match us, hl with | [_, _], _ => rfl)
theorem mk_m_Grid_perform (E : Env P w K mg base) {k : Nat} {S : Spec K} (ok : ∀ fd, FunD K "perform" "Grid.perform" (defArgs m_Grid_perform) (defBody m_Grid_perform) (defScope m_Grid_perform) [] [] (He.ma K (He.ga K "Grid") "perform") fd → FnOk P w K mg base (L2.CX P w) k (He.ma K (He.ga K "Grid") "perform") fd ["self", "write", "things"] (spD K S)) : FnR P w K mg base (L2.CX P w) k (He.ma K (He.ga K "Grid") "perform") (spD K S) := by
  obtain ⟨fd, F⟩ := E.has _ in_m_Grid_perform
  exact raw0 (ok fd F) (F.bindsN fun _ _ _ _ _ _ us hl => match us, hl with | [_, _, _], _ => rfl)
theorem mk_m_Grid_is_cell (E : Env P w K mg base) {k : Nat} {S : Spec K} (ok : ∀ fd, FunD K "is_cell" "Grid.is_cell" (defArgs m_Grid_is_cell) (defBody m_Grid_is_cell) (defScope m_Grid_is_cell) [] [] (He.ma K (He.ga K "Grid") "is_cell") fd → FnOk P w K mg base (L2.CX P w) k (He.ma K (He.ga K "Grid") "is_cell") fd ["self", "row", "column"] (spD K S)) : FnR P w K mg base (L2.CX P w) k (He.ma K (He.ga K "Grid") "is_cell") (spD K S) := by
  obtain ⟨fd, F⟩ := E.has _ in_m_Grid_is_cell
  exact raw0 (ok fd F) (F.bindsN fun _ _ _ _ _ _ us hl => match us, hl with | [_, _, _], _ => rfl)
theorem mk_f_is_integer (E : Env P w K mg base) {k : Nat} {S : Spec K} (ok : ∀ fd, FunD K "is_integer" "is_integer" (defArgs f_is_integer) (defBody f_is_integer) (defScope f_is_integer) [] [] (He.ga K "is_integer") fd → FnOk P w K mg base (L2.CX P w) k (He.ga K "is_integer") fd ["value"] (spD K S)) : Def P w K mg base "is_integer" k ["value"] [] S := by
  obtain ⟨fd, F⟩ := E.has _ in_f_is_integer
  exact Def.of E.g_is_integer F (ok fd F) fun _ _ _ _ _ _ us hl => match us, hl with | [_], _ => rfl
theorem mk_f_look_at_width (E : Env P w K mg base) {k : Nat} {S : Spec K} (ok : ∀ fd, FunD K "look_at_width" "look_at_width" (defArgs f_look_at_width) (defBody f_look_at_width) (defScope f_look_at_width) [] [] (He.ga K "look_at_width") fd → FnOk P w K mg base (L2.CX P w) k (He.ga K "look_at_width") fd ["value"] (spD K S)) : Def P w K mg base "look_at_width" k ["value"] [] S := by
  obtain ⟨fd, F⟩ := E.has _ in_f_look_at_width
  exact Def.of E.g_look_at_width F (ok fd F) fun _ _ _ _ _ _ us hl => match us, hl with | [_], _ => rfl
theorem mk_f_is_text (E : Env P w K mg base) {k : Nat} {S : Spec K} (ok : ∀ fd, FunD K "is_text" "is_text" (defArgs f_is_text) (defBody f_is_text) (defScope f_is_text) [] [] (He.ga K "is_text") fd → FnOk P w K mg base (L2.CX P w) k (He.ga K "is_text") fd ["value"] (spD K S)) : Def P w K mg base "is_text" k ["value"] [] S := by
  obtain ⟨fd, F⟩ := E.has _ in_f_is_text
  exact Def.of E.g_is_text F (ok fd F) fun _ _ _ _ _ _ us hl => match us, hl with | [_], _ => rfl
theorem mk_f_is_one_of (E : Env P w K mg base) {k : Nat} {S : Spec K} (ok : ∀ fd, FunD K "is_one_of" "is_one_of" (defArgs f_is_one_of) (defBody f_is_one_of) (defScope f_is_one_of) [] [] (He.ga K "is_one_of") fd → FnOk P w K mg base (L2.CX P w) k (He.ga K "is_one_of") fd ["value", "words"] (spD K S)) : Def P w K mg base "is_one_of" k ["value", "words"] [] S := by
  obtain ⟨fd, F⟩ := E.has _ in_f_is_one_of
  exact Def.of E.g_is_one_of F (ok fd F) fun _ _ _ _ _ _ us hl => match us, hl with | [_, _], _ => rfl
theorem mk_m_Write_text (E : Env P w K mg base) {k : Nat} {S : Spec K} (ok : ∀ fd, FunD K "text" "Write.text" (defArgs m_Write_text) (defBody m_Write_text) (defScope m_Write_text) [] [] (gtr K (He.ga K "Write") "text") fd → FnOk P w K mg base (L2.CX P w) k (gtr K (He.ga K "Write") "text") fd ["self"] (spD K S)) : FnR P w K mg base (L2.CX P w) k (gtr K (He.ga K "Write") "text") (spD K S) := by
  obtain ⟨fd, F⟩ := E.hasG _ in_m_Write_text
  exact raw0 (ok fd F) (F.bindsN fun _ _ _ _ _ _ us hl => match us, hl with | [_], _ => rfl)
theorem mk_m_Write_lead (E : Env P w K mg base) {k : Nat} {S : Spec K} (ok : ∀ fd, FunD K "lead" "Write.lead" (defArgs m_Write_lead) (defBody m_Write_lead) (defScope m_Write_lead) [] [] (gtr K (He.ga K "Write") "lead") fd → FnOk P w K mg base (L2.CX P w) k (gtr K (He.ga K "Write") "lead") fd ["self"] (spD K S)) : FnR P w K mg base (L2.CX P w) k (gtr K (He.ga K "Write") "lead") (spD K S) := by
  obtain ⟨fd, F⟩ := E.hasG _ in_m_Write_lead
  exact raw0 (ok fd F) (F.bindsN fun _ _ _ _ _ _ us hl => match us, hl with | [_], _ => rfl)
theorem mk_m_Write_tail (E : Env P w K mg base) {k : Nat} {S : Spec K} (ok : ∀ fd, FunD K "tail" "Write.tail" (defArgs m_Write_tail) (defBody m_Write_tail) (defScope m_Write_tail) [] [] (gtr K (He.ga K "Write") "tail") fd → FnOk P w K mg base (L2.CX P w) k (gtr K (He.ga K "Write") "tail") fd ["self"] (spD K S)) : FnR P w K mg base (L2.CX P w) k (gtr K (He.ga K "Write") "tail") (spD K S) := by
  obtain ⟨fd, F⟩ := E.hasG _ in_m_Write_tail
  exact raw0 (ok fd F) (F.bindsN fun _ _ _ _ _ _ us hl => match us, hl with | [_], _ => rfl)
theorem mk_f_row_text (E : Env P w K mg base) {k : Nat} {S : Spec K} (ok : ∀ fd, FunD K "row_text" "row_text" (defArgs f_row_text) (defBody f_row_text) (defScope f_row_text) [] [] (He.ga K "row_text") fd → FnOk P w K mg base (L2.CX P w) k (He.ga K "row_text") fd ["signs"] (spD K S)) : Def P w K mg base "row_text" k ["signs"] [] S := by
  obtain ⟨fd, F⟩ := E.has _ in_f_row_text
  exact Def.of E.g_row_text F (ok fd F) fun _ _ _ _ _ _ us hl => match us, hl with | [_], _ => rfl
theorem mk_m_Terminal_rows (E : Env P w K mg base) {k : Nat} {S : Spec K} (ok : ∀ fd, FunD K "rows" "Terminal.rows" (defArgs m_Terminal_rows) (defBody m_Terminal_rows) (defScope m_Terminal_rows) [] [] (He.ma K (He.ga K "Terminal") "rows") fd → FnOk P w K mg base (L2.CX P w) k (He.ma K (He.ga K "Terminal") "rows") fd ["self"] (spD K S)) : FnR P w K mg base (L2.CX P w) k (He.ma K (He.ga K "Terminal") "rows") (spD K S) := by
  obtain ⟨fd, F⟩ := E.has _ in_m_Terminal_rows
  exact raw0 (ok fd F) (F.bindsN fun _ _ _ _ _ _ us hl => match us, hl with | [_], _ => rfl)
theorem mk_m_Terminal_iadd (E : Env P w K mg base) {k : Nat} {S : Spec K} (ok : ∀ fd, FunD K "__iadd__" "Terminal.__iadd__" (defArgs m_Terminal_iadd) (defBody m_Terminal_iadd) (defScope m_Terminal_iadd) [] [] (He.ma K (He.ga K "Terminal") "__iadd__") fd → FnOk P w K mg base (L2.CX P w) k (He.ma K (He.ga K "Terminal") "__iadd__") fd ["self", "write"] (spD K S)) : FnR P w K mg base (L2.CX P w) k (He.ma K (He.ga K "Terminal") "__iadd__") (spD K S) := by
  obtain ⟨fd, F⟩ := E.has _ in_m_Terminal_iadd
  exact raw0 (ok fd F) (F.bindsN fun _ _ _ _ _ _ us hl => match us, hl with | [_, _], _ => rfl)
theorem mk_m_Terminal_getitem (E : Env P w K mg base) {k : Nat} {S : Spec K} (ok : ∀ fd, FunD K "__getitem__" "Terminal.__getitem__" (defArgs m_Terminal_getitem) (defBody m_Terminal_getitem) (defScope m_Terminal_getitem) [] [] (He.ma K (He.ga K "Terminal") "__getitem__") fd → FnOk P w K mg base (L2.CX P w) k (He.ma K (He.ga K "Terminal") "__getitem__") fd ["self", "at"] (spD K S)) : FnR P w K mg base (L2.CX P w) k (He.ma K (He.ga K "Terminal") "__getitem__") (spD K S) := by
  obtain ⟨fd, F⟩ := E.has _ in_m_Terminal_getitem
  exact raw0 (ok fd F) (F.bindsN fun _ _ _ _ _ _ us hl => match us, hl with | [_, _], _ => rfl)
theorem mk_f_shown (E : Env P w K mg base) {k : Nat} {S : Spec K} (ok : ∀ fd, FunD K "shown" "shown" (defArgs f_shown) (defBody f_shown) (defScope f_shown) [] [] (He.ga K "shown") fd → FnOk P w K mg base (L2.CX P w) k (He.ga K "shown") fd ["width", "writes"] (spD K S)) : Def P w K mg base "shown" k ["width", "writes"] [] S := by
  obtain ⟨fd, F⟩ := E.has _ in_f_shown
  exact Def.of E.g_shown F (ok fd F) fun _ _ _ _ _ _ us hl => match us, hl with | [_, _], _ => rfl
theorem mk_f_Lmix (E : Env P w K mg base) {k : Nat} {S : Spec K} (ok : ∀ fd, FunD K "_law_mix" "_law_mix" (defArgs f_Lmix) (defBody f_Lmix) (defScope f_Lmix) [] [] (He.ga K "_law_mix") fd → FnOk P w K mg base (L2.CX P w) k (He.ga K "_law_mix") fd ["_law_script", "_law_seed"] (spD K S)) : Def P w K mg base "_law_mix" k ["_law_script", "_law_seed"] [] S := by
  obtain ⟨fd, F⟩ := E.has _ in_f_Lmix
  exact Def.of E.g__law_mix F (ok fd F) fun _ _ _ _ _ _ us hl => match us, hl with | [_, _], _ => rfl
theorem mk_f_Lnext (E : Env P w K mg base) {k : Nat} {S : Spec K} (ok : ∀ fd, FunD K "_law_next" "_law_next" (defArgs f_Lnext) (defBody f_Lnext) (defScope f_Lnext) [] [] (He.ga K "_law_next") fd → FnOk P w K mg base (L2.CX P w) k (He.ga K "_law_next") fd ["_law_h", "_law_bound"] (spD K S)) : Def P w K mg base "_law_next" k ["_law_h", "_law_bound"] [] S := by
  obtain ⟨fd, F⟩ := E.has _ in_f_Lnext
  exact Def.of E.g__law_next F (ok fd F) fun _ _ _ _ _ _ us hl => match us, hl with | [_, _], _ => rfl
theorem mk_f_Lletters (E : Env P w K mg base) {k : Nat} {S : Spec K} (ok : ∀ fd, FunD K "_law_letters" "_law_letters" (defArgs f_Lletters) (defBody f_Lletters) (defScope f_Lletters) [] [] (He.ga K "_law_letters") fd → FnOk P w K mg base (L2.CX P w) k (He.ga K "_law_letters") fd ["_law_h", "_law_most"] (spD K S)) : Def P w K mg base "_law_letters" k ["_law_h", "_law_most"] [] S := by
  obtain ⟨fd, F⟩ := E.has _ in_f_Lletters
  exact Def.of E.g__law_letters F (ok fd F) fun _ _ _ _ _ _ us hl => match us, hl with | [_, _], _ => rfl
theorem mk_f_Lone (E : Env P w K mg base) {k : Nat} {S : Spec K} (ok : ∀ fd, FunD K "_law_one" "_law_one" (defArgs f_Lone) (defBody f_Lone) (defScope f_Lone) [] [] (He.ga K "_law_one") fd → FnOk P w K mg base (L2.CX P w) k (He.ga K "_law_one") fd ["_law_h", "_law_form", "_law_most"] (spD K S)) : Def P w K mg base "_law_one" k ["_law_h", "_law_form", "_law_most"] [] S := by
  obtain ⟨fd, F⟩ := E.has _ in_f_Lone
  exact Def.of E.g__law_one F (ok fd F) fun _ _ _ _ _ _ us hl => match us, hl with | [_, _, _], _ => rfl
theorem mk_f_Lscreen (E : Env P w K mg base) {k : Nat} {S : Spec K} (ok : ∀ fd, FunD K "_law_screen" "_law_screen" (defArgs f_Lscreen) (defBody f_Lscreen) (defScope f_Lscreen) [] [] (He.ga K "_law_screen") fd → FnOk P w K mg base (L2.CX P w) k (He.ga K "_law_screen") fd ["_law_w", "_law_empty"] (spD K S)) : Def P w K mg base "_law_screen" k ["_law_w", "_law_empty"] [] S := by
  obtain ⟨fd, F⟩ := E.has _ in_f_Lscreen
  exact Def.of E.g__law_screen F (ok fd F) fun _ _ _ _ _ _ us hl => match us, hl with | [_, _], _ => rfl
theorem mk_f_Ldown (E : Env P w K mg base) {k : Nat} {S : Spec K} (ok : ∀ fd, FunD K "_law_down" "_law_down" (defArgs f_Ldown) (defBody f_Ldown) (defScope f_Ldown) [] [] (He.ga K "_law_down") fd → FnOk P w K mg base (L2.CX P w) k (He.ga K "_law_down") fd ["_law_s", "_law_wrapped"] (spD K S)) : Def P w K mg base "_law_down" k ["_law_s", "_law_wrapped"] [] S := by
  obtain ⟨fd, F⟩ := E.has _ in_f_Ldown
  exact Def.of E.g__law_down F (ok fd F) fun _ _ _ _ _ _ us hl => match us, hl with | [_, _], _ => rfl
theorem mk_f_Lword (E : Env P w K mg base) {k : Nat} {S : Spec K} (ok : ∀ fd, FunD K "_law_word" "_law_word" (defArgs f_Lword) (defBody f_Lword) (defScope f_Lword) [] [] (He.ga K "_law_word") fd → FnOk P w K mg base (L2.CX P w) k (He.ga K "_law_word") fd ["_law_s", "_law_word_here"] (spD K S)) : Def P w K mg base "_law_word" k ["_law_s", "_law_word_here"] [] S := by
  obtain ⟨fd, F⟩ := E.has _ in_f_Lword
  exact Def.of E.g__law_word F (ok fd F) fun _ _ _ _ _ _ us hl => match us, hl with | [_, _], _ => rfl
theorem mk_f_Ltype (E : Env P w K mg base) {k : Nat} {S : Spec K} (ok : ∀ fd, FunD K "_law_type" "_law_type" (defArgs f_Ltype) (defBody f_Ltype) (defScope f_Ltype) [] [] (He.ga K "_law_type") fd → FnOk P w K mg base (L2.CX P w) k (He.ga K "_law_type") fd ["_law_s", "_law_things"] (spD K S)) : Def P w K mg base "_law_type" k ["_law_s", "_law_things"] [] S := by
  obtain ⟨fd, F⟩ := E.has _ in_f_Ltype
  exact Def.of E.g__law_type F (ok fd F) fun _ _ _ _ _ _ us hl => match us, hl with | [_, _], _ => rfl
theorem mk_f_Ltold (E : Env P w K mg base) {k : Nat} {S : Spec K} (ok : ∀ fd, FunD K "_law_told" "_law_told" (defArgs f_Ltold) (defBody f_Ltold) (defScope f_Ltold) [] [] (He.ga K "_law_told") fd → FnOk P w K mg base (L2.CX P w) k (He.ga K "_law_told") fd ["_law_signs"] (spD K S)) : Def P w K mg base "_law_told" k ["_law_signs"] [] S := by
  obtain ⟨fd, F⟩ := E.has _ in_f_Ltold
  exact Def.of E.g__law_told F (ok fd F) fun _ _ _ _ _ _ us hl => match us, hl with | [_], _ => rfl
theorem mk_f_Lwidth (E : Env P w K mg base) {k : Nat} {S : Spec K} (ok : ∀ fd, FunD K "_law_width" "_law_width" (defArgs f_Lwidth) (defBody f_Lwidth) (defScope f_Lwidth) [] [] (He.ga K "_law_width") fd → FnOk P w K mg base (L2.CX P w) k (He.ga K "_law_width") fd ["_law_h"] (spD K S)) : Def P w K mg base "_law_width" k ["_law_h"] [] S := by
  obtain ⟨fd, F⟩ := E.has _ in_f_Lwidth
  exact Def.of E.g__law_width F (ok fd F) fun _ _ _ _ _ _ us hl => match us, hl with | [_], _ => rfl
theorem mk_f_Lcell (E : Env P w K mg base) {k : Nat} {S : Spec K} (ok : ∀ fd, FunD K "_law_cell" "_law_cell" (defArgs f_Lcell) (defBody f_Lcell) (defScope f_Lcell) [] [] (He.ga K "_law_cell") fd → FnOk P w K mg base (L2.CX P w) k (He.ga K "_law_cell") fd ["_law_seen", "_law_row", "_law_column"] (spD K S)) : Def P w K mg base "_law_cell" k ["_law_seen", "_law_row", "_law_column"] [] S := by
  obtain ⟨fd, F⟩ := E.has _ in_f_Lcell
  exact Def.of E.g__law_cell F (ok fd F) fun _ _ _ _ _ _ us hl => match us, hl with | [_, _, _], _ => rfl
theorem mk_f_Lright (E : Env P w K mg base) {k : Nat} {S : Spec K} (ok : ∀ fd, FunD K "_law_right" "_law_right" (defArgs f_Lright) (defBody f_Lright) (defScope f_Lright) [] [] (He.ga K "_law_right") fd → FnOk P w K mg base (L2.CX P w) k (He.ga K "_law_right") fd ["_law_seen", "_law_s", "_law_w"] (spD K S)) : Def P w K mg base "_law_right" k ["_law_seen", "_law_s", "_law_w"] [] S := by
  obtain ⟨fd, F⟩ := E.has _ in_f_Lright
  exact Def.of E.g__law_right F (ok fd F) fun _ _ _ _ _ _ us hl => match us, hl with | [_, _, _], _ => rfl
end
end LK
set_option Elab.async false
set_option linter.all false
set_option maxRecDepth 100000
set_option maxHeartbeats 4000000
namespace DL
open PySem PySem.Spec PyProof.Rows L2
def behF (g : Addr → Option Obj) (a : Addr) : List Addr := match g a with
  | some ⟨_, _, .func fd, _⟩ => He.refV fd.code ++ ((He.refV fd.defaults ++ He.refV fd.kwdefaults).flatMap fun b => b :: (match g b with
    | some o => He.refsO o
    | none => []))
  | _ => []
def behM (g : Addr → Option Obj) (a : Addr) : List Addr := match g a with
  | some ⟨_, _, .func _, _⟩ => a :: behF g a
  | some ⟨_, _, .fields vs, _⟩ => a :: ((vs.toList.flatMap He.refV).flatMap fun b => b :: behF g b)
  | some _ => [a]
  | none => []
def behG (g : Addr → Option Obj) (a : Addr) : List Addr := match g a with
  | some ⟨_, _, .func _, _⟩ => behF g a
  | some ⟨_, _, .cls cd, _⟩ => cd.ns :: (match g cd.ns with
    | some o => (He.refsO o).flatMap (behM g)
    | none => [])
  | _ => []
def topG (g : Addr → Option Obj) : List Addr := match g mainGlobals with
  | some o => He.refsO o
  | none => []
def asS (g : Addr → Option Obj) : List Addr := mainGlobals :: (topG g ++ (topG g).flatMap (behG g))
def KS (g : Addr → Option Obj) : PySem.W.Frag := He.frT g (asS g)
def obsS (fn gs : List He.DefD) (tf : List He.Defn) (ex : PySem.W.Frag → Bool) (g : Addr → Option Obj) : AlP := ((He.obsT [] fn [] (KS g), exP gs ex (KS g) && He.tabsB g tf (KS g)), gs.map fun d => fnP (KS g) d.at_)
structure SaysS (fn gs : List He.DefD) (tf : List He.Defn) (ex : PySem.W.Frag → Bool) (w : World) (h : Heap) (K : PySem.W.Frag) : Prop where
  x : He.SaysX [] fn [] tf (exP gs ex) w h K
  g : (gs.map fun d => fnP K d.at_) = gs.map He.DefD.val
theorem SaysS.p {fn gs : List He.DefD} {tf : List He.Defn} {ex : PySem.W.Frag → Bool} {w : World} {h : Heap} {K : PySem.W.Frag} (c : SaysS fn gs tf ex w h K) : SaysP fn gs ex w h K := ⟨⟨c.x.t, c.x.more, (fun _ z => nomatch z), (fun _ z => nomatch z), (fun _ z => nomatch z)⟩, c.g⟩
theorem saysS_of {fn gs : List He.DefD} {tf : List He.Defn} {ex : PySem.W.Frag → Bool} {w : World} {h : Heap} (e : obsS fn gs tf ex h.get? = ((He.valT fn [] w, true), gs.map He.DefD.val)) : SaysS fn gs tf ex w h (KS h.get?) := by
  have e1 : He.obsT [] fn [] (KS h.get?) = He.valT fn [] w := congrArg (fun z : AlP => z.1.1) e
  have e2 : (exP gs ex (KS h.get?) && He.tabsB h.get? tf (KS h.get?)) = true := congrArg (fun z : AlP => z.1.2) e
  have e3 : (gs.map fun d => fnP (KS h.get?) d.at_) = gs.map He.DefD.val := congrArg (fun z : AlP => z.2) e
  obtain ⟨h1, h2⟩ := He.ba e2
  have key : ∀ p ∈ tf, PySem.W.codeHdIn (KS h.get?) (He.cT (KS h.get?) p).1 (He.cT (KS h.get?) p).2 = true ∧ ∃ o, h.get? (He.cT (KS h.get?) p).2 = some o ∧ He.emptyTab o = true := fun p hp => by
    obtain ⟨q1, q2⟩ := He.ba (List.all_eq_true.mp h2 p hp)
    cases q : h.get? (He.cT (KS h.get?) p).2 with
    | none => rw [q] at q2; cases q2
    | some o => rw [q] at q2; exact ⟨q1, o, rfl, q2⟩
  refine ⟨⟨e1, h1, fun p hp => (key p hp).1, fun p hp => ?_, fun p hp => ?_⟩, e3⟩
  · obtain ⟨_, o, q, z⟩ := key p hp
    exact He.frT_none q z
  · obtain ⟨_, o, q, z⟩ := key p hp
    rw [q, He.emptyTab_eq z]
def hookS (fn gs : List He.DefD) (tf : List He.Defn) (ex : PySem.W.Frag → Bool) : PySem.W.Hook where
  α := AlP
  obs := fun s => obsS fn gs tf ex s.heap.get?
  val := fun w => ((He.valT fn [] w, true), gs.map He.DefD.val)
  says := fun w h => ∃ K : PySem.W.Frag, K.In h ∧ SaysS fn gs tf ex w h K
  of := fun _ _ e => ⟨_, He.frT_in, saysS_of e⟩
  keeps := fun _ _ _ ⟨K, hK, c⟩ k => ⟨K, PySem.W.Frag.In.keeps hK k, ⟨⟨c.x.t, c.x.more, c.x.hd, c.x.out, fun p hp => k _ _ (c.x.empty p hp)⟩, c.g⟩⟩
theorem obsS_eq {fn gs : List He.DefD} {tf : List He.Defn} {ex : PySem.W.Frag → Bool} {g : Addr → Option Obj} {s : Shared} (h : ∀ a, g a = s.heap.get? a) : obsS fn gs tf ex g = (show AlP from (hookS fn gs tf ex).obs s) := by
  have e : g = s.heap.get? := funext h
  rw [e]; rfl
end DL
set_option Elab.async false
set_option linter.all false
set_option maxRecDepth 100000
set_option maxHeartbeats 0
namespace LK
open PySem PySem.Spec PyProof.Rows L2 DL
abbrev Rr : PySem.W.OpenRow := PySem.W.OpenLaw.row PySem.Challenge.rw_linesharing_k07_whole_terminals
def fn : List He.DefD := fnL
def gs : List He.DefD := gsL
def ex (K : PySem.W.Frag) : Bool := lkL K
abbrev hk : PySem.W.Hook := hookS fn gs [] ex
def ob (s : PySem.W.SharedT) : AlP := obsS fn gs [] ex (HandSHeadRun.getT s)
theorem ob_eq (s : PySem.W.SharedT) : ob s = hk.obs s.abs := obsS_eq (HandSHeadRun.getT_eq s)
def loose0 : List Str := ["_wall", "LineError", "InvalidWidth", "InvalidWrite", "NoCell", "MOST_WIDTH", "Grid", "is_integer", "look_at_width", "LETTERS", "FIGURES", "SIGNS", "SAY", "ASK", "REPLY", "SHOW", "KINDS", "LEADS", "TAILS", "MOST_SIGNS", "is_text", "is_one_of", "Write", "row_text", "Terminal", "shown", "_law_mix", "_law_next", "_law_letters", "_law_one"]
def loose1 : List Str := ["_law_screen", "_law_down", "_law_word", "_law_type", "_law_above", "_law_told", "_law_width", "_law_cell", "_law_right"]
def loose : List Str := loose0 ++ loose1
theorem run (w : World) : HandSHeadRun.RunEq Rr (PySem.W.view Rr.prog [46]) hk ob 30000 loose w := by
  intro os
  kernel_rfl
end LK
set_option Elab.async false
set_option linter.all false
set_option maxRecDepth 100000
set_option maxHeartbeats 1000000
namespace LK
open PySem PySem.Spec PyProof.Rows L2 DL
abbrev SIGNS : Str := Str.ofString ("abcdefghijklmnopqrstuvwxyzABCDEFGHIJKLMNOPQRSTUVWXYZ0123456789 !\"#$&'()*+,-./:;<=>?@" ++ "[\\]^_`{|}~")
abbrev kinds : List Str := ["say", "ask", "reply", "show"]
abbrev leads : List Str := ["", "return", "wipe", "fresh"]
abbrev tails : List Str := ["", "erase", "newline"]
abbrev cW (K : PySem.W.Frag) : Addr := He.ga K "Write"
section
variable {X : Cx} {W : WX} {es : List Expr} {e : Expr} {δ : DEnv} {I : Iv X.K} {κ : Ko X.K} {pos p pos2 : Pos} {x : Str} {ps ks : List Str}
theorem s_rz (tk : Takes X W) (T : TExc X.K X.mg x) (F1 : ∃ fd, FnOk X.prog X.w X.K X.mg X.base (L2.CX X.prog X.w) 1 (He.ma X.K (He.ga X.K x) "__init__") fd ps (spXIC (He.ga X.K x) ks) ∧ L2.Binds X.K fd ps []) (hr : Room 2 X.A)
    (h : EvA X W (κ.r δ) (e :: es) δ I fun ds I1 => ks.length = ds.length ∧ ds.length ≤ 10 ∧ κ.ex (He.ga X.K x) (ks.zip ds).reverse δ I1) (hc : X.calm = true := by rfl) (hg : Gl X x := by rfl) (hdb : (x == ("__debug__" : Str)) = false := by decide)
    (he : starEach (e :: es) X.env = (false, eval e X.env) :: starEach es X.env := by rfl) (hpl : (backTo pos (starEach es X.env)).any (·.1) = false := by rfl) : S1 X W (.Raise (some (.Call (.Name x p) (e :: es) [] pos)) none pos2) δ I κ := by
  obtain ⟨fd, F, b⟩ := F1
  exact s_raise tk T.oe T.iC T.tI F hr b T.g h hc hg hdb he hpl
end
def isTextD : D → Bool
  | .str s => decide (s.length ≤ 40) && s.cps.toList.all fun c => decide (c ∈ SIGNS.cps.toList)
  | _ => false
def okV (d : D) : Prop := (∃ t, tyD d = some t) ∧ ∀ s, d = .str s → s.length ≤ 100000
def sIsText {K : PySem.W.Frag} : Spec K := fun I ds P _ => ∃ d, ds = [d] ∧ okV d ∧ P (.bl (isTextD d)) I
section
variable {P : Program} {w : World} {K : PySem.W.Frag} {mg : Str → Option Value} {base : Heap} {f : Addr} {fd : FuncData}
theorem ok_is_text (F : FnP K "is_text" "is_text" f_is_text f fd) (E : Env P w K mg base) : FnOk P w K mg base (L2.CX P w) 1 f fd ["value"] (spD K sIsText) := by
  refine fn_d F sc_f_is_text (fun I ds P R h => by obtain ⟨d, rfl, _⟩ := h; rfl) fun cdv A outer s H EE hr tk po I ds Q R h => ?_
  obtain ⟨d, rfl, ⟨⟨t, ht⟩, hz⟩, q⟩ := h
  have nd := sc_f_is_text.nd
  rcases str_or d ht with ⟨z, rfl⟩ | ⟨hk, hn⟩
  · have hl := hz z rfl
    refine s_cons (s_ifP (ptw (ww_or (ptn (pt_v (pv_cb call_isi E.b_isinstance (va_cons (pv_v 0) (va_cons (pv_gty (n := "str") E.b_str) va_nil)) (pn_isiT (t := "str") rfl)))) fun _ => ww_or1 (pt_cmp op_gt (pv_cb call_len_str E.b_len (va_cons (pv_v 0) va_nil) (pn_lenS hl)) (pv_gint E.c_MOST_SIGNS) p2_gt))) (fun e => ?_) fun e => ?_)
    · refine s_one (s_retP pv_bl ?_)
      have e2 : (40 : Int) < z.length := by simpa using e
      have e3 : isTextD (.str z) = false := by simp [isTextD]; omega
      rw [← e3]; exact q
    · refine s_nil ?_
      have e2 : ¬ (40 : Int) < z.length := by simpa using e
      have el : D.lst ((z.cps.toList.map fun c => D.str ⟨#[c]⟩).map fun d => .bl (match d with | .str s => decide (s.cps.toList.headD 0 ∈ SIGNS.cps.toList) | _ => false)) = .lst ((z.cps.toList.map fun c => decide (c ∈ SIGNS.cps.toList)).map D.bl) := by
        rw [List.map_map, List.map_map]; rfl
      refine s_one (s_retP (pv_cb (cr_all rfl) E.b_all (va_cons ((pv_lcMap _ [("sign", 1)] (fun d => [some (.str z), some d]) (vi_str (pv_v 0)) (by rw [List.length_map, Array.length_toList]; exact Nat.le_trans hl (by decide)) (fun d s H C cl fp => bind_name 1) fun d hd J s H C cl fp => ?_).is el) va_nil) pn_all) ?_)
      · obtain ⟨c, hc, rfl⟩ := List.mem_map.mp hd
        exact pv_cmp op_signIn (pv_v 1) (pv_gstr E.c_SIGNS) p2_signIn
      · have e3 : isTextD (.str z) = (z.cps.toList.map fun c => decide (c ∈ SIGNS.cps.toList)).all id := by
          have e4 : (40 : Nat) ≥ z.length := by omega
          simp only [isTextD, List.all_map]
          rw [decide_eq_true e4, Bool.true_and]
          rfl
        rw [← e3]; exact q
  · have e3 : isTextD d = false := by
      cases d <;> first | rfl | exact absurd rfl (hn _)
    refine s_cons (s_ifT (ptw (ww_orT (ptn (k := false) (pt_v (pv_cb call_isi E.b_isinstance (va_cons (pv_v 0) (va_cons (pv_gty (n := "str") E.b_str) va_nil)) (pn_isiF ht hk)))))) (s_one (s_retP pv_bl ?_)))
    rw [← e3]
    exact q
def isOneD (d : D) (ws : List Str) : Bool := match d with
  | .str s => decide (s ∈ ws)
  | _ => false
def sIsOne {K : PySem.W.Frag} : Spec K := fun I ds P _ => ∃ d ws, ds = [d, .tup (List.map D.str ws)] ∧ okV d ∧ P (.bl (isOneD d ws)) I
theorem ok_is_one_of (F : FnP K "is_one_of" "is_one_of" f_is_one_of f fd) (E : Env P w K mg base) : FnOk P w K mg base (L2.CX P w) 1 f fd ["value", "words"] (spD K sIsOne) := by
  refine fn_d F sc_f_is_one_of (fun I ds P R h => by obtain ⟨d, ws, rfl, _⟩ := h; rfl) fun cdv A outer s H EE hr tk po I ds Q R h => ?_
  obtain ⟨d, ws, rfl, ⟨⟨t, ht⟩, hz⟩, q⟩ := h
  rcases str_or d ht with ⟨z, rfl⟩ | ⟨hk, hn⟩
  · exact s_one (s_retP (pv_andT (pv_cb call_isi E.b_isinstance (va_cons (pv_v 0) (va_cons (pv_gty (n := "str") E.b_str) va_nil)) (pn_isiT (t := "str") rfl)) (pv_one (pv_cmp op_in_seq (pv_v 0) (pv_v 1) p2_inStr))) q)
  · have e3 : isOneD d ws = false := by
      cases d <;> first | rfl | exact absurd rfl (hn _)
    rw [e3] at q
    exact s_one (s_retP (pv_andF (pv_cb call_isi E.b_isinstance (va_cons (pv_v 0) (va_cons (pv_gty (n := "str") E.b_str) va_nil)) (pn_isiF ht hk))) q)
end
def isOneT (d : D) (s : Str) : Bool := match d with
  | .str z => decide (z = s)
  | _ => false
def wFault (k t l e : D) : Option Str :=
  if (!isOneD k kinds) = true then some ("kind" : Str) else
  if (!isTextD t || (isOneT t "" && isOneD k ["ask", "reply"])) = true then some ("text" : Str) else
  if (!isOneD l leads || (!isOneT l "" && isOneT k "reply")) = true then some ("lead" : Str) else
  if (!isOneD e tails || (!isOneT e "" && isOneT k "ask")) = true then some ("tail" : Str) else none
def sWInit {K : PySem.W.Frag} : Spec K := fun I ds P R => ∃ (x dx : Addr) (J : Iv K) (k t l e : D), ds = [.adr x, k, t, l, e] ∧ I = J.and (iSl K x (He.ga K "Write") dx []) ∧ okV k ∧ okV t ∧ okV l ∧ okV e ∧
  match wFault k t l e with
  | none => P .non (J.and (iSl K x (He.ga K "Write") dx [some l, some e, some k, some t]))
  | some part => R (He.ga K "InvalidWrite") [("part", .str part)] I
theorem isOneD_str {d : D} {ws : List Str} (h : isOneD d ws = true) : ∃ z, d = .str z := by
  cases d with
  | str z => exact ⟨z, rfl⟩
  | _ => cases h
theorem isTextD_str {d : D} (h : isTextD d = true) : ∃ z, d = .str z := by
  cases d with
  | str z => exact ⟨z, rfl⟩
  | _ => cases h
section
variable {P : Program} {w : World} {K : PySem.W.Frag} {mg : Str → Option Value} {base : Heap} {f : Addr} {fd : FuncData}
theorem ok_wInit {dvs : List V} {kws : List (Str × V)} (F : FunD K "__init__" "Write.__init__" (defArgs m_Write_init) (defBody m_Write_init) (defScope m_Write_init) dvs kws f fd) (E : Env P w K mg base)
    (DT : Def P w K mg base "is_text" 1 ["value"] [] sIsText) (DO : Def P w K mg base "is_one_of" 1 ["value", "words"] [] sIsOne) :
    FnOk P w K mg base (L2.CX P w) 3 f fd ["self", "kind", "text", "lead", "tail"] (spD K sWInit) := by
  refine fn_d F sc_m_Write_init (fun I ds P R h => by obtain ⟨x, dx, J, k, t, l, e, rfl, _⟩ := h; rfl) fun cdv A outer s H EE hr tk po I ds Q R h => ?_
  obtain ⟨x, dx, J, k, t, l, e, rfl, rfl, hk, ht, hl, he, q⟩ := h
  have nd := sc_m_Write_init.nd
  have hr1 : Room 1 _ := hr.mono (by decide)
  -- the kind
  refine s_cons (s_ifP (ptn (pt_v (pv_def DO hr1 (va_cons (pv_v 1) (va_cons (pv_gtup E.c_KINDS) va_nil)) fun P p => ⟨_, _, rfl, hk, p⟩))) (fun e1 => ?_) fun e1 => s_nil ?_)
  · refine s_one (s_rz tk E.x_InvalidWrite E.ini_InvalidWrite (hr.mono (by decide)) (ea_cons (pv_str _ _ _ (ea_nil ⟨rfl, by decide, ?_⟩))))
    have ef : wFault k t l e = some ("kind" : Str) := by unfold wFault; rw [if_pos e1]
    rw [ef] at q
    exact q
  have e1' : isOneD k kinds = true := by simpa using e1
  obtain ⟨zk, rfl⟩ := isOneD_str e1'
  -- the text
  refine s_cons (s_ifP (b := (!isTextD t || (isOneT t "" && isOneD (.str zk) ["ask", "reply"]))) (ptw (ww_or (ptn (pt_v (pv_def DT hr1 (va_cons (pv_v 2) va_nil) fun P p => ⟨_, rfl, ht, p⟩))) fun e2 => ?_)) (fun e2 => ?_) fun e2 => s_nil ?_)
  · have e2' : isTextD t = true := by simpa using e2
    obtain ⟨zt, rfl⟩ := isTextD_str e2'
    exact ww_or1 (ptw (ww_and (pt_cmp op_eq (pv_v 2) pv_str (eqV_str _ _)) fun _ => ww_and1 (pt_cmp op_in_seq (pv_v 1) (pv_tup (va_cons (pv_gstr E.c_ASK) (va_cons (pv_gstr E.c_REPLY) va_nil))) (p2_inStr (ws := ["ask", "reply"])))))
  · refine s_one (s_rz tk E.x_InvalidWrite E.ini_InvalidWrite (hr.mono (by decide)) (ea_cons (pv_str _ _ _ (ea_nil ⟨rfl, by decide, ?_⟩))))
    have ef : wFault (.str zk) t l e = some ("text" : Str) := by unfold wFault; rw [if_neg (by rw [e1']; simp), if_pos e2]
    rw [ef] at q
    exact q
  have e2' : isTextD t = true := by
    cases h : isTextD t with
    | true => rfl
    | false => rw [h] at e2; simp at e2
  obtain ⟨zt, rfl⟩ := isTextD_str e2'
  -- the lead
  refine s_cons (s_ifP (b := (!isOneD l leads || (!isOneT l "" && isOneT (.str zk) "reply"))) (ptw (ww_or (ptn (pt_v (pv_def DO hr1 (va_cons (pv_v 3) (va_cons (pv_gtup E.c_LEADS) va_nil)) fun P p => ⟨_, _, rfl, hl, p⟩))) fun e3 => ?_)) (fun e3 => ?_) fun e3 => s_nil ?_)
  · have e3' : isOneD l leads = true := by simpa using e3
    obtain ⟨zl, rfl⟩ := isOneD_str e3'
    exact ww_or1 (ptw (ww_and (pt_cmp op_ne (pv_v 3) pv_str (neV_str _ _)) fun _ => ww_and1 (pt_cmp op_eq (pv_v 1) (pv_gstr E.c_REPLY) (eqV_str _ _))))
  · refine s_one (s_rz tk E.x_InvalidWrite E.ini_InvalidWrite (hr.mono (by decide)) (ea_cons (pv_str _ _ _ (ea_nil ⟨rfl, by decide, ?_⟩))))
    have ef : wFault (.str zk) (.str zt) l e = some ("lead" : Str) := by unfold wFault; rw [if_neg (by rw [e1']; simp), if_neg (by rw [e2]; simp), if_pos e3]
    rw [ef] at q
    exact q
  -- the tail
  refine s_cons (s_ifP (b := (!isOneD e tails || (!isOneT e "" && isOneT (.str zk) "ask"))) (ptw (ww_or (ptn (pt_v (pv_def DO hr1 (va_cons (pv_v 4) (va_cons (pv_gtup E.c_TAILS) va_nil)) fun P p => ⟨_, _, rfl, he, p⟩))) fun e3 => ?_)) (fun e4 => ?_) fun e4 => s_nil ?_)
  · have e3' : isOneD e tails = true := by simpa using e3
    obtain ⟨zl, rfl⟩ := isOneD_str e3'
    exact ww_or1 (ptw (ww_and (pt_cmp op_ne (pv_v 4) pv_str (neV_str _ _)) fun _ => ww_and1 (pt_cmp op_eq (pv_v 1) (pv_gstr E.c_ASK) (eqV_str _ _))))
  · refine s_one (s_rz tk E.x_InvalidWrite E.ini_InvalidWrite (hr.mono (by decide)) (ea_cons (pv_str _ _ _ (ea_nil ⟨rfl, by decide, ?_⟩))))
    have ef : wFault (.str zk) (.str zt) l e = some ("tail" : Str) := by unfold wFault; rw [if_neg (by rw [e1']; simp), if_neg (by rw [e2]; simp), if_neg (by rw [e3]; simp), if_pos e4]
    rw [ef] at q
    exact q
  have ef : wFault (.str zk) (.str zt) l e = none := by unfold wFault; rw [if_neg (by rw [e1']; simp), if_neg (by rw [e2]; simp), if_neg (by rw [e3]; simp), if_neg (by rw [e4]; simp)]
  rw [ef] at q
  -- the slots
  refine s_cons (s_slot (.r J .here) E.k_Write.sc E.s_Write_mode (pv_v 0) (pv_v 1) ?_)
  refine s_cons (s_slot (.r J .here) E.k_Write.sc E.s_Write_signs (pv_v 0) (pv_v 2) ?_)
  refine s_cons (s_slot (.r J .here) E.k_Write.sc E.s_Write_ahead (pv_v 0) (pv_v 3) ?_)
  refine s_one (s_slot (.r J .here) E.k_Write.sc E.s_Write_behind (pv_v 0) (pv_v 4) ?_)
  exact q
end

def wD (K : PySem.W.Frag) (k t l e : Str) : D := .slo (cW K) [.str l, .str e, .str k, .str t]
def sGet {K : PySem.W.Frag} (i : Nat) : Spec K := fun I ds P _ => ∃ (fs : List D) (d : D), ds = [.slo (cW K) fs] ∧ fs[i]? = some d ∧ P d I
section
variable {P : Program} {w : World} {K : PySem.W.Frag} {mg : Str → Option Value} {base : Heap} {f : Addr} {fd : FuncData}
theorem ok_text (F : FnP K "text" "Write.text" m_Write_text f fd) (E : Env P w K mg base) : FnOk P w K mg base (L2.CX P w) 1 f fd ["self"] (spD K (sGet 3)) := by
  refine fn_d F sc_m_Write_text (fun I ds P R h => by obtain ⟨fs, d, rfl, _⟩ := h; rfl) fun cdv A outer s H EE hr tk po I ds Q R h => ?_
  obtain ⟨fs, d, rfl, hd, q⟩ := h
  exact s_one (s_retP (pv_sl E.k_Write.sc E.s_Write_signs (pv_v 0) hd) q)
theorem ok_lead (F : FnP K "lead" "Write.lead" m_Write_lead f fd) (E : Env P w K mg base) : FnOk P w K mg base (L2.CX P w) 1 f fd ["self"] (spD K (sGet 0)) := by
  refine fn_d F sc_m_Write_lead (fun I ds P R h => by obtain ⟨fs, d, rfl, _⟩ := h; rfl) fun cdv A outer s H EE hr tk po I ds Q R h => ?_
  obtain ⟨fs, d, rfl, hd, q⟩ := h
  exact s_one (s_retP (pv_sl E.k_Write.sc E.s_Write_ahead (pv_v 0) hd) q)
theorem ok_tail (F : FnP K "tail" "Write.tail" m_Write_tail f fd) (E : Env P w K mg base) : FnOk P w K mg base (L2.CX P w) 1 f fd ["self"] (spD K (sGet 1)) := by
  refine fn_d F sc_m_Write_tail (fun I ds P R h => by obtain ⟨fs, d, rfl, _⟩ := h; rfl) fun cdv A outer s H EE hr tk po I ds Q R h => ?_
  obtain ⟨fs, d, rfl, hd, q⟩ := h
  exact s_one (s_retP (pv_sl E.k_Write.sc E.s_Write_behind (pv_v 0) hd) q)
end
abbrev psW : List Str := ["self", "kind", "text", "lead", "tail"]
section
variable {P : Program} {w : World} {K : PySem.W.Frag} {mg : Str → Option Value} {base : Heap}
theorem D_is_text (E : Env P w K mg base) : Def P w K mg base "is_text" 1 ["value"] [] sIsText := mk_f_is_text E fun fd F => ok_is_text F E
theorem D_is_one_of (E : Env P w K mg base) : Def P w K mg base "is_one_of" 1 ["value", "words"] [] sIsOne := mk_f_is_one_of E fun fd F => ok_is_one_of F E
theorem M_wInit (E : Env P w K mg base) : ∃ fI : FuncData, FnOk P w K mg base (L2.CX P w) 3 (He.ma K (cW K) "__init__") fI psW (spD K sWInit) ∧ (∃ g, KBn K fI psW 3 ["lead", "tail"] g fun vs zs => vs ++ zs) ∧ (∃ g, KBn K fI psW 3 ["tail", "lead"] g fun vs zs => vs ++ zs.reverse) ∧
    ∃ g, KBn K fI psW 3 [] g fun vs _ => vs ++ [V.str "", V.str ""] := by
  obtain ⟨fI, F3⟩ := E.has _ in_m_Write_init
  obtain ⟨_, b1⟩ := FunD.kbinds0 (ps := psW) F3 3 ["lead", "tail"] [] (fun us _ ws => us ++ ws) (by simp [He.DefD.kws, dM, d_m_Write_init]) (fun q hq => by simp at hq) (fun r1 _ r3 => r1.append r3) fun D doc pm an cdv ct us mv ws h1 h2 h3 => by
    match us, mv, ws, h1, h2, h3 with
    | [_, _, _], [], [_, _], _, _, _ => rfl
  obtain ⟨_, b2⟩ := FunD.kbinds0 (ps := psW) F3 3 ["tail", "lead"] [] (fun us _ ws => us ++ ws.reverse) (by simp [He.DefD.kws, dM, d_m_Write_init]) (fun q hq => by simp at hq) (fun r1 _ r3 => r1.append r3.reverse) fun D doc pm an cdv ct us mv ws h1 h2 h3 => by
    match us, mv, ws, h1, h2, h3 with
    | [_, _, _], [], [_, _], _, _, _ => rfl
  obtain ⟨_, b0⟩ := FunD.kbinds0 (ps := psW) F3 3 [] [("lead", V.str ""), ("tail", V.str "")] (fun us ms _ => us ++ ms) (by simp [He.DefD.kws, dM, d_m_Write_init]) (fun q hq => by simpa [He.DefD.kws, dM, d_m_Write_init, He.Dv.v] using hq) (fun r1 r2 _ => r1.append r2) fun D doc pm an cdv ct us mv ws h1 h2 h3 => by
    match us, mv, ws, h1, h2, h3 with
    | [_, _, _], [_, _], [], _, _, _ => exact ⟨_, _, _, _, _, _, rfl, rfl, _, _, _, _, _, _, rfl, rfl, rfl⟩
  exact ⟨fI, ok_wInit F3 E (D_is_text E) (D_is_one_of E), ⟨_, b1⟩, ⟨_, b2⟩, ⟨_, b0⟩⟩
theorem M_text (E : Env P w K mg base) : FnR P w K mg base (L2.CX P w) 1 (gtr K (cW K) "text") (spD K (sGet 3)) := mk_m_Write_text E fun fd F => ok_text F E
theorem M_lead (E : Env P w K mg base) : FnR P w K mg base (L2.CX P w) 1 (gtr K (cW K) "lead") (spD K (sGet 0)) := mk_m_Write_lead E fun fd F => ok_lead F E
theorem M_tail (E : Env P w K mg base) : FnR P w K mg base (L2.CX P w) 1 (gtr K (cW K) "tail") (spD K (sGet 1)) := mk_m_Write_tail E fun fd F => ok_tail F E
end
structure GoodW (k t l e : Str) : Prop where
  gk : k ∈ kinds
  gl : l ∈ leads
  ge : e ∈ tails
  gr : k = "reply" → l = ""
  ga : k = "ask" → e = ""
  gn : k = "ask" ∨ k = "reply" → 0 < t.length
  gs : ∀ c ∈ t.cps.toList, c ∈ SIGNS.cps.toList
theorem strOk_of {t : Str} (h : ∀ c ∈ t.cps.toList, c ∈ SIGNS.cps.toList) : PyData.strOk t = true := by
  unfold PyData.strOk
  rw [← Array.all_toList]
  refine List.all_eq_true.mpr fun c hc => ?_
  have k : ∀ c ∈ SIGNS.cps.toList, (decide (c < 1114112)) = true := by decide +kernel
  exact k c (h c hc)
theorem len_of {xs : List Str} {n : Nat} (h : xs.all (fun x => decide (x.length ≤ n)) = true) {x : Str} (hx : x ∈ xs) : x.length ≤ n := of_decide_eq_true (List.all_eq_true.mp h x hx)
theorem sok_of {xs : List Str} (h : xs.all (fun x => PyData.strOk x) = true) {x : Str} (hx : x ∈ xs) : PyData.strOk x = true := List.all_eq_true.mp h x hx
section
variable {k t l e : Str}
theorem GoodW.none (g : GoodW k t l e) (h : t.length ≤ 40) : wFault (.str k) (.str t) (.str l) (.str e) = none := by
  have h1 : isOneD (.str k) kinds = true := decide_eq_true g.gk
  have h2 : isTextD (.str t) = true := by
    show (decide (t.length ≤ 40) && t.cps.toList.all fun c => decide (c ∈ SIGNS.cps.toList)) = true
    rw [decide_eq_true h, Bool.true_and]
    exact List.all_eq_true.mpr fun c hc => decide_eq_true (g.gs c hc)
  have h3 : isOneD (.str l) leads = true := decide_eq_true g.gl
  have h4 : isOneD (.str e) tails = true := decide_eq_true g.ge
  unfold wFault
  rw [h1, h2, h3, h4, if_neg (by simp), if_neg, if_neg, if_neg]
  · simp only [isOneT, Bool.not_true, Bool.false_or, Bool.and_eq_true, Bool.not_eq_true', decide_eq_false_iff_not, decide_eq_true_eq, not_and]
    exact fun h5 h6 => h5 (g.ga h6)
  · simp only [isOneT, Bool.not_true, Bool.false_or, Bool.and_eq_true, Bool.not_eq_true', decide_eq_false_iff_not, decide_eq_true_eq, not_and]
    exact fun h5 h6 => h5 (g.gr h6)
  · simp only [isOneT, isOneD, Bool.not_true, Bool.false_or, Bool.and_eq_true, decide_eq_true_eq, not_and]
    intro h5 h6
    have h7 := g.gn (by simpa using h6)
    rw [h5] at h7
    exact absurd h7 (by decide)
theorem GoodW.okk (g : GoodW k t l e) : okV (.str k) := ⟨⟨_, rfl⟩, fun s z => by cases z; exact len_of (by decide +kernel) g.gk⟩
theorem GoodW.okl (g : GoodW k t l e) : okV (.str l) := ⟨⟨_, rfl⟩, fun s z => by cases z; exact len_of (by decide +kernel) g.gl⟩
theorem GoodW.oke (g : GoodW k t l e) : okV (.str e) := ⟨⟨_, rfl⟩, fun s z => by cases z; exact len_of (by decide +kernel) g.ge⟩
theorem GoodW.okt (h : t.length ≤ 40) : okV (.str t) := ⟨⟨_, rfl⟩, fun s z => by cases z; omega⟩
theorem GoodW.bare (g : GoodW k t l e) : GoodW k t "" "" := ⟨g.gk, by decide +kernel, by decide +kernel, fun _ => rfl, fun _ => rfl, g.gn, g.gs⟩
theorem GoodW.okEq (g : GoodW k t l e) : okEq (.tup [.str k, .str t, .str l, .str e]) = true := by
  have e0 : PyData.canLay0 (pyD (.tup [.str k, .str t, .str l, .str e])) = (PyData.strOk k && (PyData.strOk t && (PyData.strOk l && (PyData.strOk e && true)))) := rfl
  have e1 : PyData.depth (pyD (.tup [.str k, .str t, .str l, .str e])) = 1 := rfl
  show (true && (PyData.canLay0 (pyD (.tup [.str k, .str t, .str l, .str e])) && decide (PyData.depth (pyD (.tup [.str k, .str t, .str l, .str e])) ≤ 64))) = true
  rw [e0, e1, sok_of (xs := kinds) (by decide +kernel) g.gk, strOk_of g.gs, sok_of (xs := leads) (by decide +kernel) g.gl, sok_of (xs := tails) (by decide +kernel) g.ge]
  rfl
end
section
variable {X : Cx} {I : Iv X.K} {a b c d e : Expr} {δ : DEnv} {pos p q1 q2 : Pos} {k t l e' : Str}
theorem pv_write (E : Env X.prog X.w X.K X.mg X.base) (hr : Room 4 X.A) (ha : PV X I a δ (.str k)) (hb : PV X I b δ (.str t)) (hl : PV X I c δ (.str l)) (he : PV X I d δ (.str e')) (g : GoodW k t l e') (h : t.length ≤ 40) (hg : Gl X "Write" := by rfl)
    (hall : (backToKw pos (keywordEach [⟨some "lead", c, q1⟩, ⟨some "tail", d, q2⟩] X.env)).all (·.1.isSome) = true := by rfl) (hks : (backToKw pos (keywordEach [⟨some "lead", c, q1⟩, ⟨some "tail", d, q2⟩] X.env)).filterMap (·.1) = (["lead", "tail"] : List Str) := by rfl)
    (h1 : starEach [a, b] X.env = (false, eval a X.env) :: starEach [b] X.env := by rfl) (h2 : starEach [b] X.env = (false, eval b X.env) :: starEach [] X.env := by rfl)
    (hpl : ((backTo pos (starEach [a, b] X.env)).any (·.1) || (backToKw pos (keywordEach [⟨some "lead", c, q1⟩, ⟨some "tail", d, q2⟩] X.env)).any (·.1.isNone)) = false := by rfl) : PV X I (.Call (.Name "Write" p) [a, b] [⟨some "lead", c, q1⟩, ⟨some "tail", d, q2⟩] pos) δ (wD X.K k t l e') := fun W R P pp => by
  obtain ⟨fI, F, ⟨_, b1⟩, _, _⟩ := M_wInit E
  refine EvX.weak (ev_makeSl (fun ds zs => ds ++ zs) takesF E.m_Write F hr E.g_Write b1 (fun r1 r2 => r1.append r2) (ea_cons (ha.ev (ea_cons (hb.ev (ea_nil (ek_cons (hl.ev (ek_cons (he.ev (ek_nil ⟨rfl, rfl, fun y dy na => ?_⟩))))))) h2)) h1) hg (by decide) hall hks h1 hpl)
  refine ⟨y, dy, I, .str k, .str t, .str l, .str e', rfl, rfl, g.okk, GoodW.okt h, g.okl, g.oke, ?_⟩
  rw [g.none h]
  exact ⟨rfl, [.str l, .str e', .str k, .str t], rfl, pp⟩
theorem pv_wtext (E : Env X.prog X.w X.K X.mg X.base) (hr : Room 2 X.A) (ha : PV X I a δ (wD X.K k t l e')) (hb : attributeBase a "text" X.env (eval a X.env) = eval a X.env := by rfl) : PV X I (.Attribute a "text" pos) δ (.str t) := pv_prop E.k_Write.sc E.p_Write_text (M_text E) hr ha (fun P p => ⟨_, _, rfl, rfl, p⟩) hb
theorem pv_wlead (E : Env X.prog X.w X.K X.mg X.base) (hr : Room 2 X.A) (ha : PV X I a δ (wD X.K k t l e')) (hb : attributeBase a "lead" X.env (eval a X.env) = eval a X.env := by rfl) : PV X I (.Attribute a "lead" pos) δ (.str l) := pv_prop E.k_Write.sc E.p_Write_lead (M_lead E) hr ha (fun P p => ⟨_, _, rfl, rfl, p⟩) hb
theorem pv_wtail (E : Env X.prog X.w X.K X.mg X.base) (hr : Room 2 X.A) (ha : PV X I a δ (wD X.K k t l e')) (hb : attributeBase a "tail" X.env (eval a X.env) = eval a X.env := by rfl) : PV X I (.Attribute a "tail" pos) δ (.str e') := pv_prop E.k_Write.sc E.p_Write_tail (M_tail E) hr ha (fun P p => ⟨_, _, rfl, rfl, p⟩) hb
end
end LK
set_option Elab.async false
set_option linter.all false
set_option maxRecDepth 100000
set_option maxHeartbeats 1000000
namespace LK
open PySem PySem.Spec PyProof.Rows L2 DL
abbrev cC (K : PySem.W.Frag) : Addr := He.ga K "Cast"
structure Wr where
  k : Str
  t : Str
  l : Str
  e : Str
deriving DecidableEq
abbrev wrD (K : PySem.W.Frag) (w : Wr) : D := wD K w.k w.t w.l w.e
structure GoodR (w : Wr) : Prop where
  g : GoodW w.k w.t w.l w.e
  h : w.t.length ≤ 40
inductive Th where
  | wr (w : Wr)
  | ot (d : D)
def Th.d (K : PySem.W.Frag) : Th → D
  | .wr w => wrD K w
  | .ot d => d
def Th.ok : Th → Prop
  | .wr w => w.k ∈ kinds
  | .ot d => ∃ t, tyD d = some t
def Th.kind : Th → Str
  | .wr w => w.k
  | .ot _ => ""
inductive Wv where
  | ls (ths : List Th)
  | tp (ths : List Th)
  | ot (d : D)
def Wv.d (K : PySem.W.Frag) : Wv → D
  | .ls ths => .lst (ths.map (Th.d K))
  | .tp ths => .tup (ths.map (Th.d K))
  | .ot d => d
def Wv.ths : Wv → List Th
  | .ls ths => ths
  | .tp ths => ths
  | .ot _ => []
def Wv.ok : Wv → Prop
  | .ls ths => (∀ x ∈ ths, x.ok) ∧ ths.length ≤ 1000
  | .tp ths => (∀ x ∈ ths, x.ok) ∧ ths.length ≤ 1000
  | .ot d => ∃ t, tyD d = some t ∧ t ≠ "list" ∧ t ≠ "tuple"
def kindBad (ks : List Str) (k : Str) (i : Nat) : Bool :=
  decide (k = "") || (decide (k = "ask") && !decide ((ks.drop (i + 1)).take 1 = (["reply"] : List Str))) || (decide (k = "reply") && !decide ((ks.take i).drop ((ks.take i).length - 1) = (["ask"] : List Str)))
def kindFault (ks : List Str) : Option Nat := ks.zipIdx.findSome? fun p => if kindBad ks p.1 p.2 = true then some p.2 else none
def lookThs (ths : List Th) : Option (Option Nat) := if 1 ≤ ths.length ∧ ths.length ≤ 8 then (kindFault (ths.map Th.kind)).map some else some none
def lookFault : Wv → Option (Option Nat)
  | .ls ths => lookThs ths
  | .tp ths => lookThs ths
  | .ot _ => some none
def isNameS (s : Str) : Bool := decide (1 ≤ s.length) && decide (s.length ≤ 8) && s.cps.toList.all fun c => decide (c ∈ (Str.ofString "abcdefghijklmnopqrstuvwxyz").cps.toList)
theorem kind_none {ks : List Str} (hp : ∀ y ∈ ks.zipIdx, kindBad ks y.1 y.2 = false) : kindFault ks = none := by
  unfold kindFault
  rw [List.findSome?_eq_none_iff]
  intro y hy
  rw [hp y hy]; rfl
section
variable {P : Program} {w : World} {K : PySem.W.Frag} {mg : Str → Option Value} {base : Heap}
end
end LK
set_option Elab.async false
set_option linter.all false
set_option maxRecDepth 100000
set_option maxHeartbeats 1000000
namespace LK
open PySem PySem.Spec PyProof.Rows L2 DL
def nameFault (p : Str × Wv) : Option (Str × Option Nat) := if isNameS p.1 = true then (lookFault p.2).map fun o => (p.1, o) else some (p.1, none)
def castFault (ws : List (Str × Wv)) : Option (Str × Option Nat) := if 1 ≤ ws.length ∧ ws.length ≤ 6 then (sortW ws).findSome? nameFault else some ("", none)
structure WksOk (ws : List (Str × Wv)) : Prop where
  nd : (ws.map (·.1)).Nodup
  ok : ∀ p ∈ ws, p.2.ok
  ln : ∀ p ∈ ws, p.1.length ≤ 100000
  sz : ws.length ≤ 50
section
variable {P : Program} {w : World} {K : PySem.W.Frag} {mg : Str → Option Value} {base : Heap}
end
end LK
set_option Elab.async false
set_option linter.all false
set_option maxRecDepth 100000
set_option maxHeartbeats 1000000
namespace LK
open PySem PySem.Spec PyProof.Rows L2 DL
abbrev Tb := List (Str × List Wr)
structure RowOk (ws : List Wr) : Prop where
  g : ∀ w ∈ ws, GoodR w
  n : 1 ≤ ws.length
  m : ws.length ≤ 8
  k : kindFault (ws.map (·.k)) = none
structure TbOk (t : Tb) : Prop where
  nd : (t.map (·.1)).Nodup
  nm : ∀ p ∈ t, isNameS p.1 = true
  row : ∀ p ∈ t, RowOk p.2
  n : 1 ≤ t.length
  m : t.length ≤ 6
def rowD (K : PySem.W.Frag) (ws : List Wr) : D := .tup (ws.map (wrD K))
abbrev tbD (K : PySem.W.Frag) (t : Tb) : D := dicT t (·.1) (fun p => rowD K p.2)
def cD (K : PySem.W.Frag) (t : Tb) : D := .slo (cC K) [tbD K t]
def lsW (ws : List Wr) : Wv := .ls (ws.map .wr)
def tpW (ws : List Wr) : Wv := .tp (ws.map .wr)
theorem kinds_map (ws : List Wr) : (ws.map Th.wr).map Th.kind = ws.map (·.k) := by rw [List.map_map]; rfl
structure PassW (f : Str × List Wr → Wv) : Prop where
  h : ∀ p, f p = lsW p.2 ∨ f p = tpW p.2
theorem PassW.look {f : Str × List Wr → Wv} (h : PassW f) {p : Str × List Wr} (r : RowOk p.2) : lookFault (f p) = none := by
  have e : lookThs (p.2.map Th.wr) = none := by
    unfold lookThs
    rw [List.length_map, if_pos ⟨r.n, r.m⟩, kinds_map, r.k]; rfl
  rcases h.h p with h | h <;> rw [h] <;> exact e
theorem PassW.ths {f : Str × List Wr → Wv} (h : PassW f) (p : Str × List Wr) : (f p).ths = p.2.map Th.wr := by
  rcases h.h p with h | h <;> rw [h] <;> rfl
section
variable {K : PySem.W.Frag} {t : Tb} {f : Str × List Wr → Wv}
theorem TbOk.none (h : TbOk t) (hf : PassW f) : castFault (t.map fun p => (p.1, f p)) = none := by
  unfold castFault
  rw [List.length_map, if_pos ⟨h.n, h.m⟩, List.findSome?_eq_none_iff]
  intro q hq
  obtain ⟨p, hp, rfl⟩ := List.mem_map.mp ((sortW_perm _).mem_iff.mp hq)
  unfold nameFault
  rw [if_pos (h.nm p hp), hf.look (h.row p hp)]; rfl
end
theorem passL : PassW fun p => lsW p.2 := ⟨fun _ => .inl rfl⟩
section
variable {X : Cx} {W : WX} {R : Rx X.K} {I : Iv X.K} {e : Expr} {δ : DEnv} {P : D → Iv X.K → Prop} {pos p : Pos} {t : Tb}
end
end LK
set_option Elab.async false
set_option linter.all false
set_option maxRecDepth 100000
set_option maxHeartbeats 1000000
namespace LK
open PySem PySem.Spec PyProof.Rows L2 DL
def pairD (q : Str × Nat) : D := .tup [.str q.1, .int q.2]
section
variable {K : PySem.W.Frag} {t : Tb} {p : Str × List Wr}
end
section
variable {P : Program} {w : World} {K : PySem.W.Frag} {mg : Str → Option Value} {base : Heap}
end
section
variable {X : Cx} {W : WX} {R : Rx X.K} {I : Iv X.K} {e : Expr} {δ : DEnv} {P : D → Iv X.K → Prop} {pos apos : Pos} {t : Tb}
end
end LK
set_option Elab.async false
set_option linter.all false
set_option maxRecDepth 100000
set_option maxHeartbeats 1000000
namespace LK
open PySem PySem.Spec PyProof.Rows L2 DL
section
variable {P : Program} {w : World} {K : PySem.W.Frag} {mg : Str → Option Value} {base : Heap} {f : Addr} {fd : FuncData}
theorem ok_mix (F : FnP K "_law_mix" "_law_mix" f_Lmix f fd) (E : Env P w K mg base) : FnOk P w K mg base (L2.CX P w) 1 f fd ["_law_script", "_law_seed"] (spD K (sMix 14)) := by
  refine fn_d F sc_f_Lmix (fun I ds P R h => by obtain ⟨ns, seed, rfl, _⟩ := h; rfl) fun cdv A outer s H EE hr tk po I ds Q R h => ?_
  obtain ⟨ns, seed, rfl, hl, q⟩ := h
  have nd := sc_f_Lmix.nd
  refine s_cons (s_setP 2 (pv_v 1) ?_)
  refine s_cons (s_for po (ei_lst ((pv_v (d := .lsf (ns.map D.int)) 0).ev ⟨_, .inr rfl, fun i δ' I' => I' = I ∧ ∃ (st : Int) (o : Option D), δ' = [some (.lsf (ns.map D.int)), some (.int seed), some (.int st), o], ⟨rfl, seed, none, rfl⟩, ?_, ?_⟩)))
  · rintro i d δ' I' hd ⟨rfl, st, o, rfl⟩
    obtain ⟨n, hn⟩ : ∃ n, d = .int n := by
      rw [List.getElem?_map] at hd
      cases e : ns[i]? with
      | none => rw [e] at hd; cases hd
      | some n => rw [e] at hd; exact ⟨n, (Option.some.inj hd).symm⟩
    subst hn
    refine ⟨_, [3], bind_name 3, ?_⟩
    refine s_one (s_setP 2 (pv_op op_modN (pv_ct call_int1 E.b_int (va_cons (pv_op op_add (pv_op op_add (pv_op op_mul (pv_v 2) pv_int (p2_mul (.inr (by decide)))) (pv_op op_modN (pv_ct call_int1 E.b_int (va_cons (pv_v 3) va_nil) pn_int) pv_int (p2_mod (by decide))) p2_add) pv_int p2_add) va_nil) pn_int) pv_int (p2_mod (by decide))) ?_)
    exact ⟨rfl, _, _, rfl⟩
  · rintro δ' I' ⟨rfl, st, o, rfl⟩
    exact s_one (s_ret (ev_reg (ev_lstMM (ea_cons ((pv_v 2).ev (ea_cons (ev_ct call_list_of E.b_list (ea_cons ((pv_v 0).ev (ea_nil (on_listM (.inr (.inl rfl)) fun b hb => ea_cons (pv_int.ev (ea_cons (pv_int.ev (ea_nil ⟨by show 4 ≤ 1000; decide, fun a ha => ⟨_, iDr_of2 hl, q a b⟩⟩)))))))))))))))
theorem modm {k : Int} {l : Nat} : ∃ j : Nat, k.fmod (if (l : Int) > 1 then (l : Int) else 1) = j ∧ (j < l ∨ (l = 0 ∧ j = 0)) := by
  by_cases h : (l : Int) > 1
  · rw [if_pos h, Int.fmod_eq_emod_of_nonneg _ (by omega)]
    have h1 := Int.emod_nonneg k (show (l : Int) ≠ 0 by omega)
    have h2 := Int.emod_lt_of_pos k (show (0 : Int) < l by omega)
    exact ⟨(k % (l : Int)).toNat, by omega, by omega⟩
  · rw [if_neg h]
    exact ⟨0, by rw [Int.fmod_one]; rfl, by omega⟩
theorem atI_nat' {α : Type} {xs : List α} {j : Nat} {x : α} (h : xs[j]? = some x) : atI xs (j : Int) = some x := by
  have hl := (List.getElem?_eq_some_iff.mp h).1
  unfold atI ixN
  rw [if_pos (by omega), if_pos (by omega)]
  simpa using h
theorem ixN_nat {n j : Nat} (h : j < n) : ixN n (j : Int) = some j := by
  unfold ixN
  rw [if_pos (by omega), if_pos (by omega)]
  simp
theorem fmod_pos {z n : Int} (h : 0 < n) : 0 ≤ z.fmod n ∧ z.fmod n < n := by
  rw [Int.fmod_eq_emod_of_nonneg _ (by omega)]
  exact ⟨Int.emod_nonneg _ (by omega), Int.emod_lt_of_pos _ h⟩
theorem ok_next (F : FnP K "_law_next" "_law_next" f_Lnext f fd) (E : Env P w K mg base) : FnOk P w K mg base (L2.CX P w) 1 f fd ["_law_h", "_law_bound"] (spD K sNext) := by
  refine fn_d F sc_f_Lnext (fun I ds P R h => by obtain ⟨a, b, c, n, rfl, _⟩ := h; rfl) fun cdv A outer s H EE hr tk po I ds Q R h => ?_
  obtain ⟨a, b, c, n, rfl, rfl, n0, n1, q⟩ := h
  have nd := sc_f_Lnext.nd
  refine iDr_open fun st k m ns hl => ?_
  have eA : ∀ st k ns, c.fill (iDrC K a b st k m ns) = (c.comp (.l .here (iLst K b (ns.map D.int)))).fill (iLst K a [.int st, .adr b, .int k, .int m]) := fun st k ns => (fill_comp (I := iLst K a [.int st, .adr b, .int k, .int m]) (.l .here (iLst K b (ns.map D.int))) c).symm
  have eB : ∀ st k ns, c.fill (iDrC K a b st k m ns) = (c.comp (.r (iLst K a [.int st, .adr b, .int k, .int m]) .here)).fill (iLst K b (ns.map D.int)) := fun st k ns => (fill_comp (I := iLst K b (ns.map D.int)) (.r (iLst K a [.int st, .adr b, .int k, .int m]) .here) c).symm
  -- the place in the script
  obtain ⟨j, hj, hjl⟩ := modm (k := k) (l := (ns.map D.int).length)
  rw [List.length_map] at hjl
  obtain ⟨z, hz, hz0⟩ : ∃ z : Int, (ns.map D.int ++ [D.int 0])[j]? = some (.int z) ∧ (ns = [] → z = 0) := by
    rcases hjl with h | ⟨h, h0⟩
    · exact ⟨ns[j], by rw [List.getElem?_append_left (by simpa using h), List.getElem?_map, List.getElem?_eq_getElem h]; rfl, fun e => by subst e; simp at h⟩
    · have e : ns = [] := List.length_eq_zero_iff.mp h
      subst e h0
      exact ⟨0, rfl, fun _ => rfl⟩
  have m0 : (if ((ns.map D.int).length : Int) > 1 then ((ns.map D.int).length : Int) else 1) ≠ 0 := by split <;> omega
  refine s_cons (s_setP (d := .int z) 2 (pv_ix ix_list (pv_op op_cat (pv_ix ix_list (pv_v 0) pv_int (p2_ixM _ (by rfl) (eA _ _ _))) (pv_lst (va_cons pv_int va_nil)) (p2_catMK _ (by rw [List.length_map]; show ns.length + 1 ≤ _; omega) (eB _ _ _))) (pv_op op_modN (pv_ct call_int1 E.b_int (va_cons (pv_ix ix_list (pv_v 0) pv_int (p2_ixM _ (by rfl) (eA _ _ _))) va_nil) pn_int) (pv_cb (call_max2 rfl) E.b_max (va_cons pv_int (va_cons (pv_cb call_len_seq E.b_len (va_cons (pv_ix ix_list (pv_v 0) pv_int (p2_ixM _ (by rfl) (eA _ _ _))) va_nil) (pn_lenM _ (eB _ _ _))) va_nil)) pn_max2) (p2_mod m0)) (p2_ixL (by rw [hj]; exact atI_nat' hz))) ?_)
  refine s_cons (s_ifP (pt_cmp op_ge (pv_v 2) (pv_op op_pow pv_int pv_int (p2_pow ⟨by decide, by decide, by decide⟩)) p2_ge) (fun e => ?_) fun e => s_nil ?_)
  · have e2 : (10 : Int) ^ (18 : Int).toNat ≤ z := by simpa using e
    have hjn : j < ns.length := by
      rcases hjl with h | ⟨h, h0⟩
      · exact h
      · have e3 : ns = [] := List.length_eq_zero_iff.mp h
        rw [hz0 e3] at e2
        exact absurd e2 (by decide)
    refine s_cons (s_setItem (d := .int (z.fdiv n)) _ (pv_ix ix_list (pv_v 0) pv_int (p2_ixM _ (by rfl) (eA _ _ _))) (pv_op op_modN (pv_ct call_int1 E.b_int (va_cons (pv_ix ix_list (pv_v 0) pv_int (p2_ixM _ (by rfl) (eA _ _ _))) va_nil) pn_int) (pv_cb call_len_seq E.b_len (va_cons (pv_ix ix_list (pv_v 0) pv_int (p2_ixM _ (by rfl) (eA _ _ _))) va_nil) (pn_lenM _ (eB _ _ _))) (p2_mod (by rw [List.length_map]; omega))) (pv_op op_fdivN (pv_v 2) (pv_v 1) (p2_fdiv ⟨by omega, by omega⟩)) (j := j) ?_ ?_ (eB _ _ _))
    · have el : (if ((ns.map D.int).length : Int) > 1 then ((ns.map D.int).length : Int) else 1) = ((ns.map D.int).length : Int) := by
        rw [List.length_map]
        split <;> omega
      rw [← el, hj]
      exact ixN_nat (by rw [List.length_map]; exact hjn)
    · refine s_one (s_ret (ev_reg (PV.ev (pv_op op_modN (pv_ct call_int1 E.b_int (va_cons (pv_v 2) va_nil) pn_int) (pv_v 1) (p2_mod (by omega))) ⟨c.fill (iDr K a b), ?_, q _ (fmod_pos n0).1 (fmod_pos n0).2⟩)))
      show DL.Sub ((c.comp (.r (iLst K a [.int st, .adr b, .int k, .int m]) .here)).fill (iLst K b ((ns.map D.int).set j (.int (z.fdiv n))))) (c.fill (iDr K a b))
      rw [← List.map_set, ← eB st k (ns.set j (z.fdiv n))]
      exact (iDr_of (by rw [List.length_set]; exact hl)).fill c
  · refine s_cons (s_setItem (d := .int ((st * 48271 + z * 69621 + 11).fmod 2147483647)) _ (pv_v 0) pv_int (pv_op op_modN (pv_ct call_int1 E.b_int (va_cons (pv_op op_add (pv_op op_add (pv_op op_mul (pv_ix ix_list (pv_v 0) pv_int (p2_ixM _ (by rfl) (eA _ _ _))) pv_int (p2_mul (.inr (by decide)))) (pv_op op_mul (pv_v 2) pv_int (p2_mul (.inr (by decide)))) p2_add) pv_int p2_add) va_nil) pn_int) pv_int (p2_mod (by decide))) (j := 0) (by rfl) ?_ (eA _ _ _))
    refine SX.eq (eA _ k ns).symm ?_
    refine s_cons (s_setItem (d := .int (k + 1)) _ (pv_v 0) pv_int (pv_op op_add (pv_ix ix_list (pv_v 0) pv_int (p2_ixM _ (by rfl) (eA _ _ _))) pv_int p2_add) (j := 2) (by rfl) ?_ (eA _ _ _))
    refine SX.eq (eA _ (k + 1) ns).symm ?_
    exact s_one (s_ret (ev_reg (PV.ev (pv_op op_modN (pv_ct call_int1 E.b_int (va_cons (pv_op op_fdivN (pv_ix ix_list (pv_v 0) pv_int (p2_ixM _ (by rfl) (eA _ _ _))) pv_int (p2_fdiv ⟨by decide, by decide⟩)) va_nil) pn_int) (pv_v 1) (p2_mod (by omega))) ⟨c.fill (iDr K a b), (iDr_of hl).fill c, q _ (fmod_pos n0).1 (fmod_pos n0).2⟩)))
end
abbrev ALPH : List Nat := [97, 98, 120, 39, 32, 48, 47, 57, 126, 122, 59, 58]
def mx (m : Int) : Int := if m < 3 then 3 else m
def sLetters {K : PySem.W.Frag} : Spec K := fun I ds P _ => ∃ (a b : Addr) (c : Rc K) (most : Int), ds = [.adr a, .int most] ∧ I = c.fill (iDr K a b) ∧ 0 ≤ most ∧ most < 10000 ∧
  ∀ s : Str, (s.length : Int) ≤ mx most → (∀ ch ∈ s.cps.toList, ch ∈ ALPH) → P (.str s) I
section
variable {P : Program} {w : World} {K : PySem.W.Frag} {mg : Str → Option Value} {base : Heap} {f : Addr} {fd : FuncData}
theorem ok_letters (F : FnP K "_law_letters" "_law_letters" f_Lletters f fd) (E : Env P w K mg base) (DN : Def P w K mg base "_law_next" 1 ["_law_h", "_law_bound"] [] sNext) : FnOk P w K mg base (L2.CX P w) 2 f fd ["_law_h", "_law_most"] (spD K sLetters) := by
  refine fn_d F sc_f_Lletters (fun I ds P R h => by obtain ⟨a, b, c, m, rfl, _⟩ := h; rfl) fun cdv A outer s H EE hr tk po I ds Q R h => ?_
  obtain ⟨a, b, c, m, rfl, rfl, m0, m1, q⟩ := h
  have nd := sc_f_Lletters.nd
  have hx : 3 ≤ mx m ∧ m ≤ mx m ∧ mx m < 10000 := by unfold mx; split <;> omega
  -- the signs
  refine s_cons (s_set 2 (ev_ix ix_list (PV.ev (pv_lst (va_cons pv_str (va_cons pv_str (va_cons pv_str (va_cons pv_str va_nil))))) (ev_nextP tk DN hr c (pv_v 0) pv_int rfl (by decide) fun k k0 k1 => o2_ixL k0 k1 fun d hd => ?_))))
  obtain ⟨sg, rfl, hsg, hsl⟩ : ∃ sg : Str, d = .str sg ∧ (∀ ch ∈ sg.cps.toList, ch ∈ ALPH) ∧ 0 < sg.cps.toList.length ∧ sg.cps.toList.length ≤ 10 := by
    simp only [List.mem_cons, List.not_mem_nil, or_false] at hd
    rcases hd with rfl | rfl | rfl | rfl <;> exact ⟨_, rfl, by decide +kernel, by decide +kernel, by decide +kernel⟩
  -- the size
  refine s_cons (s_set 3 (ev_ix ix_list (ev_lst ?_)))
  iterate 6 refine ea_cons (pv_int.ev ?_)
  refine ea_cons ((pv_v 1).ev ?_)
  refine ea_cons (ev_nextP tk DN hr c (pv_v 0) (pv_op op_add (pv_v 1) pv_int p2_add) rfl (by omega) fun j j0 j1 => ea_nil ⟨by show 8 ≤ 1000; decide, ?_⟩)
  refine ev_nextP tk DN hr c (pv_v 0) pv_int rfl (by decide) fun k k0 k1 => o2_ixL k0 k1 fun d hd => ?_
  obtain ⟨z, rfl, z0, z1⟩ : ∃ z : Int, d = D.int z ∧ 0 ≤ z ∧ z ≤ mx m := by
    simp only [List.mem_cons, List.not_mem_nil, or_false] at hd
    rcases hd with rfl | rfl | rfl | rfl | rfl | rfl | rfl | rfl <;> exact ⟨_, rfl, by omega, by omega⟩
  -- the text
  refine s_one (s_ret (ev_join (pv_str (w := "")) (ev_lc [("_law_k", 4)] nd (blkOk_by (by rfl)) (ei_range1 E.b_range ((pv_v 3).ev ⟨z, rfl, by omega, by omega, ?_⟩)))))
  refine ⟨by unfold DL.intsFrom; simp; omega, fun i ys => ∃ cs : List Nat, ys = (cs.map one).map D.str ∧ cs.length = i ∧ ∀ ch ∈ cs, ch ∈ ALPH, fun d => [some (.adr a), some (.int m), some (.str sg), some (.int z), some d], ⟨[], rfl, rfl, fun _ h => nomatch h⟩, ?_, ?_⟩
  · rintro i d ys hd ⟨cs, rfl, hcl, hca⟩
    refine ⟨fun b => b = true, fun J s H C cl fp => ⟨bind_name 4, ets_nil ⟨rfl, rfl⟩⟩, fun _ J s H C cl fp => ?_, fun e => nomatch (show false = true from e)⟩
    refine ev_ix ix_str ((pv_v 2).ev (ev_nextP takesF DN hr (.l c J) (pv_v 0) (pv_cb call_len_str E.b_len (va_cons (pv_v 2) va_nil) (pn_lenS (by rw [str_len]; omega))) rfl (by rw [str_len]; omega) fun k k0 k1 => ?_))
    obtain ⟨n, rfl⟩ : ∃ n : Nat, k = n := ⟨k.toNat, by omega⟩
    have hn : n < sg.cps.toList.length := by rw [str_len] at k1; omega
    refine p2_ixS (c := sg.cps.toList[n]) (by rw [str_len, sizeLine_eq]; omega) (atI_nat' (List.getElem?_eq_getElem hn)) _ ⟨rfl, cs ++ [sg.cps.toList[n]], ?_, by simp [hcl], ?_⟩
    · rw [List.map_append, List.map_append]; rfl
    · intro ch hch
      rcases List.mem_append.mp hch with h | h
      · exact hca ch h
      · rw [List.mem_singleton.mp h]; exact hsg _ (List.getElem_mem hn)
  · rintro ys ⟨cs, rfl, hcl, hca⟩
    have hl : cs.length = z.toNat := by rw [hcl]; unfold DL.intsFrom; simp
    refine ⟨cs.map one, rfl, ?_, ?_⟩
    · have e : ((cs.map one).map (·.length)).sum = cs.length := by
        clear hcl hca hl
        induction cs with
        | nil => rfl
        | cons c cs ih => simp only [List.map_cons, List.sum_cons, ih, List.length_cons]; show 1 + _ = _; omega
      rw [e]
      show cs.length + (cs.map one).length * 0 ≤ _
      omega
    · rw [join_ones _ rfl]
      refine q _ ?_ ?_
      · rw [str_len]; show (cs.length : Int) ≤ mx m; omega
      · exact hca
end
abbrev forms5 : List Str := ["say", "ask", "reply", "show", "line"]
structure OneOk (form : Str) (most : Int) (k t l e : Str) : Prop where
  g : GoodW k t l e
  f : k = if form = "line" then ("say" : Str) else form
  ln : form = "line" → l = "" ∧ e = "newline"
  z : ∃ z : Str, (z.length : Int) ≤ most ∧ (∀ ch ∈ z.cps.toList, ch ∈ ALPH) ∧ t = if k = "ask" then z ++ "?" else if k = "reply" then z ++ "y" else z
def sOne {K : PySem.W.Frag} : Spec K := fun I ds P _ => ∃ (a b : Addr) (c : Rc K) (form : Str) (most : Int), ds = [.adr a, .str form, .int most] ∧ I = c.fill (iDr K a b) ∧ form ∈ forms5 ∧ 0 ≤ most ∧ most < 9000 ∧
  ∀ k t l e, OneOk form (mx most) k t l e → P (.tup [.str k, .str t, .str l, .str e]) I
theorem alph_signs : ∀ c ∈ ALPH, c ∈ SIGNS.cps.toList := by decide +kernel
theorem one_q : (∀ c ∈ (Str.ofString "?").cps.toList, c ∈ SIGNS.cps.toList) ∧ (∀ c ∈ (Str.ofString "y").cps.toList, c ∈ SIGNS.cps.toList) := by decide +kernel
theorem app_signs {z y : Str} (h1 : ∀ c ∈ z.cps.toList, c ∈ ALPH) (h2 : ∀ c ∈ y.cps.toList, c ∈ SIGNS.cps.toList) : ∀ c ∈ (z ++ y).cps.toList, c ∈ SIGNS.cps.toList := fun c hc => by
  rw [str_app] at hc
  exact (List.mem_append.mp hc).elim (fun h => alph_signs c (h1 c h)) (h2 c)
theorem app_len {z y : Str} : (z ++ y).length = z.length + y.length := by rw [str_len, str_app, List.length_append, ← str_len, ← str_len]
section
variable {P : Program} {w : World} {K : PySem.W.Frag} {mg : Str → Option Value} {base : Heap} {f : Addr} {fd : FuncData}
theorem ok_one (F : FnP K "_law_one" "_law_one" f_Lone f fd) (DN : Def P w K mg base "_law_next" 1 ["_law_h", "_law_bound"] [] sNext) (DL : Def P w K mg base "_law_letters" 2 ["_law_h", "_law_most"] [] sLetters) : FnOk P w K mg base (L2.CX P w) 3 f fd ["_law_h", "_law_form", "_law_most"] (spD K sOne) := by
  refine fn_d F sc_f_Lone (fun I ds P R h => by obtain ⟨a, b, c, form, m, rfl, _⟩ := h; rfl) fun cdv A outer s H EE hr tk po I ds Q R h => ?_
  obtain ⟨a, b, c, form, m, rfl, rfl, hf, m0, m1, q⟩ := h
  have nd := sc_f_Lone.nd
  have hmx : mx m < 9000 := by unfold mx; split <;> omega
  have hr1 : Room 1 _ := hr.mono (by decide)
  refine s_cons (s_set 3 (ev_def tk DL hr (ea_cons ((pv_v 0).ev (ea_cons ((pv_v 2).ev (ea_nil ⟨a, b, c, m, rfl, rfl, m0, by omega, fun z hz hza => ?_⟩)))))))
  refine s_cons (s_set 4 (ev_pick tk DN hr1 c (pv_lst (va_cons pv_str (va_cons pv_str (va_cons pv_str (va_cons pv_str (va_cons pv_str (va_cons pv_str va_nil))))))) (pv_v 0) (pv_int.ev ⟨_, rfl, rfl, by decide, by decide, by decide⟩) rfl fun dl hl0 => ?_))
  obtain ⟨l, rfl, hl⟩ : ∃ l, dl = .str l ∧ l ∈ leads := by
    simp only [List.mem_cons, List.not_mem_nil, or_false] at hl0
    rcases hl0 with rfl | rfl | rfl | rfl | rfl | rfl <;> exact ⟨_, rfl, by decide +kernel⟩
  refine s_cons (s_set 5 (ev_pick tk DN hr1 c (pv_lst (va_cons pv_str (va_cons pv_str (va_cons pv_str (va_cons pv_str (va_cons pv_str va_nil)))))) (pv_v 0) (pv_int.ev ⟨_, rfl, rfl, by decide, by decide, by decide⟩) rfl fun de he0 => ?_))
  obtain ⟨e, rfl, he⟩ : ∃ e, de = .str e ∧ e ∈ tails := by
    simp only [List.mem_cons, List.not_mem_nil, or_false] at he0
    rcases he0 with rfl | rfl | rfl | rfl | rfl <;> exact ⟨_, rfl, by decide +kernel⟩
  have hzs : ∀ c ∈ z.cps.toList, c ∈ SIGNS.cps.toList := fun c hc => alph_signs c (hza c hc)
  refine s_cons (s_ifP (pt_cmp op_eq (pv_v 1) pv_str (eqV_str form "line")) (fun e1 => ?_) fun e1 => s_nil ?_)
  · refine s_one (s_retP (pv_tup (va_cons pv_str (va_cons (pv_v 3) (va_cons pv_str (va_cons pv_str va_nil))))) (q _ _ _ _ ⟨⟨by decide +kernel, by decide +kernel, by decide +kernel, fun h => absurd h (by decide +kernel), fun h => absurd h (by decide +kernel), fun h => absurd h (by decide +kernel), hzs⟩, ?_, fun _ => ⟨rfl, rfl⟩, z, hz, hza, ?_⟩))
    · rw [if_pos (of_decide_eq_true e1)]
    · rw [if_neg (by decide +kernel), if_neg (by decide +kernel)]
  have n1 : form ≠ "line" := of_decide_eq_false e1
  refine s_cons (s_ifP (pt_cmp op_eq (pv_v 1) pv_str (eqV_str form "ask")) (fun e2 => ?_) fun e2 => s_nil ?_)
  · have h2 : form = "ask" := of_decide_eq_true e2
    refine s_one (s_retP (pv_tup (va_cons pv_str (va_cons (pv_op op_addT (pv_v 3) pv_str (p2_addT ?_)) (va_cons (pv_v 4) (va_cons pv_str va_nil))))) (q _ _ _ _ ⟨⟨by decide +kernel, hl, by decide +kernel, fun h => absurd h (by decide +kernel), fun _ => rfl, fun _ => ?_, app_signs hza one_q.1⟩, ?_, fun h => absurd h n1, z, hz, hza, ?_⟩))
    · show z.length + 1 ≤ _; omega
    · rw [app_len]; show 0 < z.length + 1; omega
    · rw [if_neg n1, h2]
    · rw [if_pos rfl]
  have n2 : form ≠ "ask" := of_decide_eq_false e2
  refine s_cons (s_ifP (pt_cmp op_eq (pv_v 1) pv_str (eqV_str form "reply")) (fun e3 => ?_) fun e3 => s_nil ?_)
  · have h3 : form = "reply" := of_decide_eq_true e3
    refine s_one (s_retP (pv_tup (va_cons pv_str (va_cons (pv_op op_addT (pv_v 3) pv_str (p2_addT ?_)) (va_cons pv_str (va_cons (pv_v 5) va_nil))))) (q _ _ _ _ ⟨⟨by decide +kernel, by decide +kernel, he, fun _ => rfl, fun h => absurd h (by decide +kernel), fun _ => ?_, app_signs hza one_q.2⟩, ?_, fun h => absurd h n1, z, hz, hza, ?_⟩))
    · show z.length + 1 ≤ _; omega
    · rw [app_len]; show 0 < z.length + 1; omega
    · rw [if_neg n1, h3]
    · rw [if_neg (by decide +kernel), if_pos rfl]
  have n3 : form ≠ "reply" := of_decide_eq_false e3
  have hk : form ∈ kinds := by
    simp only [List.mem_cons, List.not_mem_nil, or_false] at hf ⊢
    rcases hf with h | h | h | h | h
    · exact .inl h
    · exact absurd h n2
    · exact absurd h n3
    · exact .inr (.inr (.inr h))
    · exact absurd h n1
  refine s_one (s_retP (pv_tup (va_cons (pv_v 1) (va_cons (pv_v 3) (va_cons (pv_v 4) (va_cons (pv_v 5) va_nil))))) (q _ _ _ _ ⟨⟨hk, hl, he, fun h => absurd h n3, fun h => absurd h n2, fun h => absurd h (fun h => h.elim n2 n3), hzs⟩, ?_, fun h => absurd h n1, z, hz, hza, ?_⟩))
  · rw [if_neg n1]
  · rw [if_neg n2, if_neg n3]
theorem D_mix (E : Env P w K mg base) : Def P w K mg base "_law_mix" 1 ["_law_script", "_law_seed"] [] (sMix 14) := mk_f_Lmix E fun fd F => ok_mix F E
theorem D_next (E : Env P w K mg base) : Def P w K mg base "_law_next" 1 ["_law_h", "_law_bound"] [] sNext := mk_f_Lnext E fun fd F => ok_next F E
theorem D_letters (E : Env P w K mg base) : Def P w K mg base "_law_letters" 2 ["_law_h", "_law_most"] [] sLetters := mk_f_Lletters E fun fd F => ok_letters F E (D_next E)
theorem D_one (E : Env P w K mg base) : Def P w K mg base "_law_one" 3 ["_law_h", "_law_form", "_law_most"] [] sOne := mk_f_Lone E fun fd F => ok_one F (D_next E) (D_letters E)
end
end LK
set_option Elab.async false
set_option linter.all false
set_option maxRecDepth 100000
set_option maxHeartbeats 1000000
namespace LK
open PySem PySem.Spec PyProof.Rows L2 DL
inductive Wl : List Str → Prop
  | nil : Wl []
  | one {ks : List Str} {k : Str} : Wl ks → k ∈ (["say", "show"] : List Str) → Wl (ks ++ [k])
  | two {ks : List Str} : Wl ks → Wl (ks ++ (["ask", "reply"] : List Str))
theorem kb_ext {ks zs : List Str} {k : Str} {i : Nat} (hi : i < ks.length) (h : kindBad ks k i = false) : kindBad (ks ++ zs) k i = false := by
  unfold kindBad at h ⊢
  have e1 : (ks ++ zs).take i = ks.take i := by rw [List.take_append_of_le_length (by omega)]
  rw [e1]
  simp only [Bool.or_eq_false_iff, Bool.and_eq_false_iff, Bool.not_eq_false', decide_eq_false_iff_not, decide_eq_true_eq] at h ⊢
  refine ⟨⟨h.1.1, ?_⟩, h.2⟩
  rcases h.1.2 with h | h
  · exact .inl h
  · refine .inr ?_
    rw [List.drop_append_of_le_length (by omega)]
    have e2 : ∀ ys : List Str, ys.take 1 = (["reply"] : List Str) → (ys ++ zs).take 1 = (["reply"] : List Str) := fun ys hy => by
      cases ys with
      | nil => cases hy
      | cons y ys => exact hy
    exact e2 _ h
theorem Wl.bad {ks : List Str} (h : Wl ks) : ∀ y ∈ ks.zipIdx, kindBad ks y.1 y.2 = false := by
  induction h with
  | nil => intro y hy; cases hy
  | @one ks k h hk ih =>
    rintro ⟨x, i⟩ hy
    rw [List.zipIdx_append] at hy
    rcases List.mem_append.mp hy with hy | hy
    · exact kb_ext (by have := (List.getElem?_eq_some_iff.mp (mem_zipIdx hy)).1; exact this) (ih _ hy)
    · simp only [List.zipIdx_cons, List.zipIdx_nil, List.mem_singleton, Prod.mk.injEq] at hy
      obtain ⟨hx, hi⟩ := hy
      subst hx hi
      have hk2 : x ≠ "" ∧ x ≠ "ask" ∧ x ≠ "reply" := by
        simp only [List.mem_cons, List.not_mem_nil, or_false] at hk
        rcases hk with rfl | rfl <;> exact ⟨by decide +kernel, by decide +kernel, by decide +kernel⟩
      unfold kindBad
      rw [decide_eq_false hk2.1, decide_eq_false hk2.2.1, decide_eq_false hk2.2.2]; rfl
  | @two ks h ih =>
    rintro ⟨x, i⟩ hy
    rw [List.zipIdx_append] at hy
    rcases List.mem_append.mp hy with hy | hy
    · exact kb_ext (by have := (List.getElem?_eq_some_iff.mp (mem_zipIdx hy)).1; exact this) (ih _ hy)
    · simp only [List.zipIdx_cons, List.zipIdx_nil, List.mem_cons, List.not_mem_nil, or_false, Prod.mk.injEq] at hy
      rcases hy with ⟨rfl, rfl⟩ | ⟨rfl, rfl⟩
      · unfold kindBad
        have e1 : ((ks ++ (["ask", "reply"] : List Str)).drop (0 + ks.length + 1)).take 1 = (["reply"] : List Str) := by
          rw [List.drop_append, List.drop_eq_nil_of_le (by omega), show 0 + ks.length + 1 - ks.length = 1 by omega]; rfl
        rw [e1, decide_eq_false (show ("ask" : Str) ≠ "" by decide +kernel), decide_eq_false (show ("ask" : Str) ≠ "reply" by decide +kernel)]
        simp
      · unfold kindBad
        have e1 : (ks ++ (["ask", "reply"] : List Str)).take (0 + ks.length + 1) = ks ++ (["ask"] : List Str) := by
          rw [List.take_append, List.take_of_length_le (by omega), show 0 + ks.length + 1 - ks.length = 1 by omega]; rfl
        have e2 : (ks ++ (["ask"] : List Str)).drop ((ks ++ (["ask"] : List Str)).length - 1) = (["ask"] : List Str) := by
          rw [List.length_append, List.drop_append, List.drop_eq_nil_of_le (by simp)]; simp
        rw [e1, e2, decide_eq_false (show ("reply" : Str) ≠ "" by decide +kernel), decide_eq_false (show ("reply" : Str) ≠ "ask" by decide +kernel)]
        simp
theorem Wl.fault {ks : List Str} (h : Wl ks) : kindFault ks = none := kind_none h.bad
structure RowG (most : Int) (ws : List Wr) : Prop where
  wl : Wl (ws.map (·.k))
  one : ∀ w ∈ ws, ∃ form ∈ forms5, OneOk form most w.k w.t w.l w.e
theorem OneOk.len {form : Str} {most : Int} {k t l e : Str} (o : OneOk form most k t l e) (h : most ≤ 39) : t.length ≤ 40 := by
  obtain ⟨z, h1, h2, e1⟩ := o.z
  rw [e1]
  split
  · rw [app_len, show (Str.ofString "?").length = 1 from rfl]; omega
  · split
    · rw [app_len, show (Str.ofString "y").length = 1 from rfl]; omega
    · omega
theorem RowG.ok {most : Int} {ws : List Wr} (g : RowG most ws) (hm : most ≤ 39) (n : 1 ≤ ws.length) (m : ws.length ≤ 8) : RowOk ws :=
  ⟨fun w hw => by
    obtain ⟨form, _, o⟩ := g.one w hw
    exact ⟨o.g, o.len hm⟩, n, m, g.wl.fault⟩
def Ready (most : Int) (ws : List Wr) (form : Str) : Prop := form ∈ forms5 ∧ ∀ k t l e, OneOk form most k t l e → RowG most (ws ++ [⟨k, t, l, e⟩])
theorem RowG.next {most : Int} {ws : List Wr} (g : RowG most ws) {form : Str} (hf : form ∈ (["say", "show", "line"] : List Str)) : Ready most ws form := by
  have h5 : form ∈ forms5 := by
    simp only [List.mem_cons, List.not_mem_nil, or_false] at hf ⊢
    rcases hf with h | h | h <;> simp [h]
  refine ⟨h5, fun k t l e o => ⟨?_, fun w hw => ?_⟩⟩
  · rw [List.map_append]
    refine .one g.wl ?_
    show k ∈ _
    rw [o.f]
    simp only [List.mem_cons, List.not_mem_nil, or_false] at hf
    rcases hf with rfl | rfl | rfl <;> decide +kernel
  · rcases List.mem_append.mp hw with h | h
    · exact g.one w h
    · rw [List.mem_singleton.mp h]; exact ⟨form, h5, o⟩
theorem RowG.reply {most : Int} {ws : List Wr} (g : RowG most ws) {w : Wr} (hw : OneOk "ask" most w.k w.t w.l w.e) : Ready most (ws ++ [w]) "reply" := by
  refine ⟨by decide +kernel, fun k t l e o => ⟨?_, fun v hv => ?_⟩⟩
  · rw [List.map_append, List.map_append, List.append_assoc]
    have e1 : w.k = "ask" := hw.f.trans (by decide +kernel)
    have e2 : k = "reply" := o.f.trans (by decide +kernel)
    show Wl (_ ++ [w.k, k])
    rw [e1, e2]
    exact .two g.wl
  · rcases List.mem_append.mp hv with h | h
    · rcases List.mem_append.mp h with h | h
      · exact g.one v h
      · rw [List.mem_singleton.mp h]; exact ⟨"ask", by decide +kernel, hw⟩
    · rw [List.mem_singleton.mp h]; exact ⟨"reply", by decide +kernel, o⟩
abbrev nm6 : List Str := ["a", "log", "who", "b", "zzzzzzzz", "cc"]
structure TabG (works : Nat) (total most : Int) (t : Tb) : Prop where
  sub : (t.map (·.1)).Sublist nm6
  n : 1 ≤ t.length
  m : t.length ≤ works
  row : ∀ p ∈ t, RowG most p.2 ∧ 1 ≤ p.2.length ∧ p.2.length ≤ 3
  tot : ((t.map fun p => p.2.length).sum : Int) ≤ total
theorem nm6_nd : nm6.Nodup := by decide +kernel
theorem nm6_ok : ∀ s ∈ nm6, isNameS s = true := by decide +kernel
theorem TabG.nd {works : Nat} {total most : Int} {t : Tb} (g : TabG works total most t) : (t.map (·.1)).Nodup := nm6_nd.sublist g.sub
theorem TabG.ok {works : Nat} {total most : Int} {t : Tb} (g : TabG works total most t) (hm : most ≤ 39) : TbOk t :=
  ⟨g.nd, fun p hp => nm6_ok _ (g.sub.subset (List.mem_map_of_mem hp)), fun p hp => (g.row p hp).1.ok hm (g.row p hp).2.1 (by have := (g.row p hp).2.2; omega), g.n, by have := g.sub.length_le; rw [List.length_map] at this; exact this⟩
section
variable {P : Program} {w : World} {K : PySem.W.Frag} {mg : Str → Option Value} {base : Heap}
end
end LK
set_option Elab.async false
set_option linter.all false
set_option maxRecDepth 100000
set_option maxHeartbeats 1000000
namespace LK
open PySem PySem.Spec PyProof.Rows L2 DL
structure TabI (total most l : Int) (p : List Str) (t : Tb) : Prop where
  sub : (t.map (·.1)).Sublist p
  row : ∀ p ∈ t, RowG most p.2 ∧ 1 ≤ p.2.length ∧ p.2.length ≤ 3
  tot : ((t.map fun p => p.2.length).sum : Int) + l = total
  l0 : 0 ≤ l
  ne : p ≠ [] → t ≠ []
theorem TabI.skip {total most l : Int} {p : List Str} {x : Str} {t : Tb} (h : TabI total most l p t) (t0 : 1 ≤ total) (hl : l = 0) : TabI total most l (p ++ [x]) t := by
  refine ⟨h.sub.trans (List.sublist_append_left _ _), h.row, h.tot, h.l0, fun _ e => ?_⟩
  have := h.tot
  rw [e] at this
  simp only [List.map_nil, List.sum_nil] at this
  omega
section
variable {P : Program} {w : World} {K : PySem.W.Frag} {mg : Str → Option Value} {base : Heap}
end
end LK
set_option Elab.async false
set_option linter.all false
set_option maxRecDepth 100000
set_option maxHeartbeats 1000000
namespace LK
open PySem PySem.Spec PyProof.Rows L2 DL
section
variable {P : Program} {w : World} {K : PySem.W.Frag} {mg : Str → Option Value} {base : Heap}
end
end LK
set_option Elab.async false
set_option linter.all false
set_option maxRecDepth 100000
set_option maxHeartbeats 1000000
namespace LK
open PySem PySem.Spec PyProof.Rows L2 DL
def sScreen {K : PySem.W.Frag} : Spec K := fun I ds P _ => ∃ (α : Type) (g : α → D) (e : α) (w : Nat), ds = [.int w, g e] ∧ 1 ≤ w ∧ w ≤ 99 ∧ ∀ a bl bj q, P (.adr a) (I.and (iScr K bl bj [] q g (sNew w e) a e))
def sScrOp {K : PySem.W.Frag} (args : {α : Type} → (α → D) → α → List D → (Nat → α → Scr α → Scr α) → Nat → Prop) : Spec K := fun I ds P _ => ∃ (α : Type) (g : α → D) (e : α) (w : Nat) (s : Scr α) (c : Rc K) (a bl bj q : Addr) (qs : List Addr) (xs : List D) (f : Nat → α → Scr α → Scr α) (m : Nat), ds = .adr a :: xs ∧ args g e xs f m ∧ I = c.fill (iScr K bl bj qs q g s a e) ∧ SOk w s ∧ qs.length = s.up.length ∧ s.up.length + m ≤ 10000 ∧
  ∀ bl' bj' qs' q', qs'.length = (f w e s).up.length → P .non (c.fill (iScr K bl' bj' qs' q' g (f w e s) a e))
abbrev sDownL {K : PySem.W.Frag} : Spec K := sScrOp fun g e xs f m => ∃ b, xs = [.bl b] ∧ f = (fun w e s => sDown w e b s) ∧ m = 1
abbrev sWordL {K : PySem.W.Frag} : Spec K := sScrOp fun g e xs f m => ∃ wd, xs = [.str wd] ∧ f = (fun w e s => sWord w e wd s) ∧ m = 1
abbrev sTypeL {K : PySem.W.Frag} : Spec K := sScrOp fun {α} g e xs f m => ∃ zs : List α, xs = [.lst (zs.map g)] ∧ f = (fun w e s => sType w e s zs) ∧ m = zs.length
theorem lastQ {qs : List Addr} {q : Addr} : atI ((qs ++ [q]).map D.adr) (-1) = some (.adr q) := by
  have h : ((qs ++ [q]).map D.adr).getLast? = some (.adr q) := by rw [List.map_append, List.map_cons, List.map_nil, List.getLast?_concat]
  generalize (qs ++ [q]).map D.adr = xs at *
  have hne : xs ≠ [] := fun e => by rw [e] at h; cases h
  have hl := List.length_pos_iff.mpr hne
  unfold atI ixN
  rw [if_neg (by omega), if_pos (by omega)]
  show xs[(-1 + (xs.length : Int)).toNat]? = _
  rw [show (-1 + (xs.length : Int)).toNat = xs.length - 1 by omega, ← List.getLast?_eq_getElem?]
  exact h
theorem firstQ {qs : List Addr} {q : Addr} : ∃ p, (qs ++ [q])[0]? = some p ∧ atI ((qs ++ [q]).map D.adr) 0 = some (.adr p) := by
  cases qs with
  | nil => exact ⟨q, rfl, rfl⟩
  | cons p qs => exact ⟨p, rfl, by
      have h : ((p :: qs ++ [q]).map D.adr)[0]? = some (.adr p) := rfl
      exact atI_n (j := 0) h⟩
theorem firstR {α : Type} {w : Nat} {s : Scr α} (h : SOk w s) : ∃ r, s.rows[0]? = some r ∧ r.length = w := by
  unfold Scr.rows
  cases hu : s.up with
  | nil => exact ⟨s.cur, rfl, h.cl⟩
  | cons r up => exact ⟨r, rfl, h.ul r (by rw [hu]; simp)⟩
section
variable {P : Program} {w : World} {K : PySem.W.Frag} {mg : Str → Option Value} {base : Heap}
theorem D_screen (E : Env P w K mg base) : Def P w K mg base "_law_screen" 1 ["_law_w", "_law_empty"] [] sScreen := mk_f_Lscreen E fun fd F => by
  refine fn_d F sc_f_Lscreen (fun I ds P R h => by obtain ⟨α, g, e, w, rfl, _⟩ := h; rfl) fun cdv A outer s H EE hr tk po I ds Q R h => ?_
  obtain ⟨α, g, e, n, rfl, h1, h2, q⟩ := h
  have nd := sc_f_Lscreen.nd
  have en : (n : Int).toNat = n := by omega
  refine s_one (s_ret (EvX.wkP (ev_lstMM (ea_cons (ev_lstMM (ea_cons (ev_lcR [("_law_k", 2)] nd (blkOk_by (by rfl)) (lcRM (xs := List.range n) (g := fun i : Nat => D.int i) (fun _ => g e) [("_law_k", 2)] (fun i => [some (.int n), some (g e), some (.int i)]) (by rw [← en]; exact vi_range1 E.b_range (pv_v 0) (by omega) (by omega)) (by rw [List.length_range]; omega) (fun i s H C cl fp => bind_name 2) (fun i hi J s H C cl fp => pv_v (d := g e) 1) fun q1 => ea_nil ⟨by simp, fun bl _ => ea_cons (ev_lstMM (ea_cons (pv_bl.ev (ea_nil ⟨by decide, fun bj _ => ea_cons (pv_int.ev (ea_cons ((pv_v (d := g e) 1).ev (ea_nil ⟨by simp, fun a _ => ⟨_, ?_, q a bl bj q1⟩⟩))))⟩))))⟩))))))))
  have er : (List.range n).map (fun _ => g e) = (List.replicate n e).map g := by rw [List.map_const', List.length_range, List.map_replicate]
  rw [er]
  exact Wk.re [I, iLst K q1 ((List.replicate n e).map g), iLst K bl [.adr q1], iLst K bj [.bl false], iLst K a [.adr bl, .adr bj, .int 0, g e]] (0 + 1 + 2 + 3 + 4) (0 + (4 + (2 + (3 + (9 + 1)))))
theorem D_down (E : Env P w K mg base) : Def P w K mg base "_law_down" 1 ["_law_s", "_law_wrapped"] [] sDownL := mk_f_Ldown E fun fd F => by
  refine fn_d F sc_f_Ldown (fun I ds P R h => by obtain ⟨α, g, e, w, s, c, a, bl, bj, q, qs, xs, f, m, rfl, ⟨b, rfl, _⟩, _⟩ := h; rfl) fun cdv A outer s0 H EE hr tk po I ds Q R h => ?_
  obtain ⟨α, g, e, n, s, c, a, bl, bj, q, qs, xs, f, m, rfl, ⟨b, rfl, rfl, rfl⟩, rfl, ok, hq, hz, k⟩ := h
  have nd := sc_f_Ldown.nd
  have w99 := ok.w99
  obtain ⟨p0, hp0, ha0⟩ := firstQ (qs := qs) (q := q)
  obtain ⟨r0, hr0, hl0⟩ := firstR ok
  have eA := scr_a (K := K) (bl := bl) (bj := bj) (qs := qs) (q := q) (g := g) (s := s) (a := a) (e := e) (c := c)
  have eC := scr_core (K := K) (bl := bl) (bj := bj) (qs := qs) (q := q) (g := g) (s := s) (a := a) (e := e) (c := c)
  have lA : LsI (c.fill (iScr K bl bj qs q g s a e)) (.adr a) [.adr bl, .adr bj, .int s.co, g e] := LsI.m _ eA
  have lBl : LsI (c.fill (iScr K bl bj qs q g s a e)) (.adr bl) ((qs ++ [q]).map D.adr) := LsI.m _ (eC.trans core_bl)
  have lR0 : LsI (c.fill (iScr K bl bj qs q g s a e)) (.adr p0) (r0.map g) := by rw [eC]; exact core_row hq hp0 hr0
  have en : (((r0.map g).length : Nat) : Int).toNat = n := by rw [List.length_map]; omega
  refine SX.k ?_
  refine s_cons (s_appendE (pv_ix ix_list (pv_v 0) pv_int (p2_ixI lA rfl)) lBl (ev_lcR [("_law_k", 2)] nd (blkOk_by (by rfl)) (lcRM (xs := List.range n) (g := fun i : Nat => D.int i) (fun _ => g e) [("_law_k", 2)] (fun i => [some (.adr a), some (.bl b), some (.int i)]) (by rw [← en]; exact vi_range1 E.b_range (pv_cb call_len_seq E.b_len (va_cons (pv_ix ix_list (pv_ix ix_list (pv_v 0) pv_int (p2_ixI lA rfl)) pv_int (p2_ixI lBl ha0)) va_nil) (pn_lenI lR0)) (by rw [List.length_map]; omega) (by omega)) (by rw [List.length_range]; omega) (fun i s H C cl fp => bind_name 2) (fun i hi J s H C cl fp => pv_ix ix_list (pv_v 0) pv_int (p2_ixI (LsI.wk Wk.dropR lA) rfl)) fun q1 => ?_)))
  refine ⟨.l ((c.comp (.r (iLst K a [.adr bl, .adr bj, .int s.co, g e]) .here)).comp (cxBl K bj qs q g s)) (iLst K q1 ((List.range n).map fun _ => g e)), _, by show (c.fill (iScr K bl bj qs q g s a e)).and _ = _; rw [eC.trans core_bl]; rfl, by rw [List.length_map, List.length_append]; simp only [List.length_cons, List.length_nil]; omega, ?_⟩
  have er : (List.range n).map (fun _ => g e) = (List.replicate n e).map g := by rw [List.map_const', List.length_range, List.map_replicate]
  rw [er]
  generalize hU : iRows K qs (s.up.map fun r => r.map g) = U at *
  have w1 : Wk ((Rc.l ((c.comp (.r (iLst K a [.adr bl, .adr bj, .int s.co, g e]) .here)).comp (cxBl K bj qs q g s)) (iLst K q1 ((List.replicate n e).map g))).fill (iLst K bl ((qs ++ [q]).map D.adr ++ [D.adr q1]))) (c.fill ((iLst K a [.adr bl, .adr bj, .int s.co, g e]).and ((iLst K bl ((qs ++ [q]).map D.adr ++ [D.adr q1])).and ((iLst K bj (s.jo.map D.bl)).and ((iRows K (qs ++ [q]) ((s.up ++ [s.cur]).map fun r => r.map g)).and (iLst K q1 ((List.replicate n e).map g))))))) := by
    show Wk ((((c.comp (.r (iLst K a [.adr bl, .adr bj, .int s.co, g e]) .here)).comp (cxBl K bj qs q g s)).fill (iLst K bl ((qs ++ [q]).map D.adr ++ [D.adr q1]))).and (iLst K q1 ((List.replicate n e).map g))) _
    rw [fill_comp, fill_comp]
    refine (Wk.pull c).trans (Wk.fill ?_ c)
    show Wk (((iLst K a [.adr bl, .adr bj, .int s.co, g e]).and ((iLst K bl ((qs ++ [q]).map D.adr ++ [D.adr q1])).and ((iLst K bj (s.jo.map D.bl)).and ((iRows K qs (s.up.map fun r => r.map g)).and (iLst K q (s.cur.map g)))))).and (iLst K q1 ((List.replicate n e).map g))) _
    have w2 : Wk ((iRows K qs (s.up.map fun r => r.map g)).and (iLst K q (s.cur.map g))) (iRows K (qs ++ [q]) ((s.up ++ [s.cur]).map fun r => r.map g)) := by
      rw [List.map_append]
      exact (Wk.row1.andR).trans (Wk.rows_app (by simpa using hq))
    refine Wk.trans (Wk.re [iLst K a [.adr bl, .adr bj, .int s.co, g e], iLst K bl ((qs ++ [q]).map D.adr ++ [D.adr q1]), iLst K bj (s.jo.map D.bl), (iRows K qs (s.up.map fun r => r.map g)).and (iLst K q (s.cur.map g)), iLst K q1 ((List.replicate n e).map g)] (0 + (1 + (2 + 3)) + 4) (0 + (1 + (2 + (3 + 4))))) ?_
    exact Wk.andR (Wk.andR (Wk.andR (Wk.andL w2)))
  refine SX.wk w1 ?_
  clear w1
  have eA2 : ∀ (L : Iv K) (ds : List D), c.fill ((iLst K a ds).and L) = (c.comp (.l .here L)).fill (iLst K a ds) := fun L ds => (fill_comp (.l .here L) c).symm
  have eJ2 : ∀ (A B L : Iv K) (ds : List D), c.fill (A.and (B.and ((iLst K bj ds).and L))) = (c.comp (.r A (.r B (.l .here L)))).fill (iLst K bj ds) := fun A B L ds => (fill_comp (.r A (.r B (.l .here L))) c).symm
  refine s_cons (s_append _ (pv_ix ix_list (pv_v 0) pv_int (p2_ixM _ rfl (eA2 _ _))) (eJ2 _ _ _ _) ((pv_v 1).ev ⟨eJ2 _ _ _ _, by rw [List.length_map, ok.jl]; omega, ?_⟩))
  refine SX.eq (eJ2 _ _ _ _).symm ?_
  refine s_one (s_setItem (d := .int 0) (j := 2) _ (pv_v 0) pv_int pv_int rfl ?_ (eA2 _ _))
  refine ⟨_, Wk.eq (Eq.trans (eA2 _ _).symm ?_), k bl bj (qs ++ [q]) q1 (by simp [sDown, hq])⟩
  show c.fill _ = c.fill ((iLst K a [.adr bl, .adr bj, .int 0, g e]).and ((iLst K bl (((qs ++ [q]) ++ [q1]).map D.adr)).and ((iLst K bj ((s.jo ++ [b]).map D.bl)).and _)))
  rw [List.map_append (l₁ := qs ++ [q]), List.map_append (l₁ := s.jo)]
  rfl
end
end LK
set_option Elab.async false
set_option linter.all false
set_option maxRecDepth 100000
set_option maxHeartbeats 1000000
namespace LK
open PySem PySem.Spec PyProof.Rows L2 DL
theorem er_step {α : Type} {l : List α} {c k : Nat} {e : α} (h : c + k < l.length) : (l.take c ++ List.replicate k e ++ l.drop (c + k)).set (c + k) e = l.take c ++ List.replicate (k + 1) e ++ l.drop (c + (k + 1)) := by
  rw [List.drop_eq_getElem_cons h]
  have hl : (l.take c ++ List.replicate k e).length = c + k := by rw [List.length_append, List.length_take, List.length_replicate]; omega
  rw [List.set_append_right _ _ (by omega), hl, Nat.sub_self, List.replicate_succ']
  simp [Nat.add_assoc]
theorem take_word1 {α : Type} {s : Scr α} {wd : Str} : (sWord1 wd s).up = s.up ∧ (sWord1 wd s).cur = s.cur ∧ (sWord1 wd s).jo = s.jo := by
  unfold sWord1
  split <;> exact ⟨rfl, rfl, rfl⟩
theorem take_word2 {α : Type} {s : Scr α} {wd : Str} {e : α} : (sWord2 e wd s).up = s.up ∧ (sWord2 e wd s).jo = s.jo ∧ (sWord2 e wd s).co = s.co := by
  unfold sWord2 sErase
  split <;> exact ⟨rfl, rfl, rfl⟩
section
variable {P : Program} {w : World} {K : PySem.W.Frag} {mg : Str → Option Value} {base : Heap}
theorem D_word (E : Env P w K mg base) : Def P w K mg base "_law_word" 2 ["_law_s", "_law_word_here"] [] sWordL := mk_f_Lword E fun fd F => by
  refine fn_d F sc_f_Lword (fun I ds P R h => by obtain ⟨α, g, e, w, s, c, a, bl, bj, q, qs, xs, f, m, rfl, ⟨b, rfl, _⟩, _⟩ := h; rfl) fun cdv A outer s0 H EE hr tk po I ds Q R h => ?_
  obtain ⟨α, g, e, n, s, c, a, bl, bj, q, qs, xs, f, m, rfl, ⟨wd, rfl, rfl, rfl⟩, rfl, ok, hq, hz, k⟩ := h
  have nd := sc_f_Lword.nd
  have hu := hr.units
  have hr1 : Room 1 _ := hr
  have w99 := ok.w99
  have eA : ∀ s : Scr α, c.fill (iScr K bl bj qs q g s a e) = (c.comp (.l .here (iCore K bl bj qs q g s))).fill (iLst K a [.adr bl, .adr bj, .int s.co, g e]) := fun s => scr_a
  have eC : ∀ s : Scr α, c.fill (iScr K bl bj qs q g s a e) = (c.comp (.r (iLst K a [.adr bl, .adr bj, .int s.co, g e]) .here)).fill (iCore K bl bj qs q g s) := fun s => scr_core
  have lA : ∀ s : Scr α, LsI (c.fill (iScr K bl bj qs q g s a e)) (.adr a) [.adr bl, .adr bj, .int s.co, g e] := fun s => LsI.m _ (eA s)
  have lBl : ∀ s : Scr α, LsI (c.fill (iScr K bl bj qs q g s a e)) (.adr bl) ((qs ++ [q]).map D.adr) := fun s => LsI.m _ ((eC s).trans core_bl)
  have lQ : ∀ s : Scr α, LsI (c.fill (iScr K bl bj qs q g s a e)) (.adr q) (s.cur.map g) := fun s => LsI.m _ ((eC s).trans core_q)
  refine s_cons (s_setP (d := .adr q) 2 (pv_ix ix_list (pv_ix ix_list (pv_v 0) pv_int (p2_ixI (lA s) rfl)) (pv_neg pv_int) (p2_ixI (lBl s) lastQ)) ?_)
  refine s_cons (s_joint (fun δ' I' => I' = c.fill (iScr K bl bj qs q g (sWord1 wd s) a e) ∧ δ' = [some (.adr a), some (.str wd), some (.adr q), none]) (s_ifP (ptw (ww_or (pt_eq hu (pv_v 1) pv_str trivial) fun _ => ww_or1 (pt_eq hu (pv_v 1) pv_str trivial))) (fun h => ?_) fun h => s_nil ?_) ?_)
  · have h : wd = "return" ∨ wd = "wipe" := by simpa using h
    refine s_one (s_setItem (d := .int 0) (j := 2) _ (pv_v 0) pv_int pv_int rfl ?_ (eA s))
    refine ⟨?_, rfl⟩
    rw [show sWord1 wd s = { s with co := 0 } from by unfold sWord1; rw [if_pos h], eA]
    rfl
  · have h : ¬ (wd = "return" ∨ wd = "wipe") := by simpa using h
    exact ⟨by rw [show sWord1 wd s = s from by unfold sWord1; rw [if_neg h]], rfl⟩
  rintro δ' I' ⟨rfl, rfl⟩
  have ok1 : SOk n (sWord1 wd s) := ok.word1
  obtain ⟨u1, c1, j1⟩ := take_word1 (s := s) (wd := wd)
  have hq1 : qs.length = (sWord1 wd s).up.length := by rw [u1]; exact hq
  have hz1 : (sWord1 wd s).up.length + 1 ≤ 10000 := by rw [u1]; exact hz
  have ek : sWord n e wd s = sWord3 n e wd (sWord2 e wd (sWord1 wd s)) := rfl
  have k : ∀ bl' bj' qs' q', qs'.length = (sWord3 n e wd (sWord2 e wd (sWord1 wd s))).up.length → Q .non (c.fill (iScr K bl' bj' qs' q' g (sWord3 n e wd (sWord2 e wd (sWord1 wd s))) a e)) := k
  clear ek hz hq u1 c1 j1
  generalize sWord1 wd s = s1 at *
  refine s_cons (s_joint (fun δ' I' => I' = c.fill (iScr K bl bj qs q g (sWord2 e wd s1) a e) ∧ ∃ o3, δ' = [some (.adr a), some (.str wd), some (.adr q), o3]) (s_ifP (ptw (ww_or (pt_eq hu (pv_v 1) pv_str trivial) fun _ => ww_or1 (pt_eq hu (pv_v 1) pv_str trivial))) (fun h => ?_) fun h => s_nil ?_) ?_)
  · have h : wd = "wipe" ∨ wd = "erase" := by simpa using h
    have hcl := ok1.cl
    have hcw := ok1.cw
    have e0 : s1.cur = s1.cur.take s1.co ++ List.replicate 0 e ++ s1.cur.drop (s1.co + 0) := by simp
    refine s_one (s_forT (xs := List.range (n - s1.co)) (g := fun i : Nat => D.int (s1.co + i)) po (by
      have en : ((((s1.cur.map g).length : Nat) : Int) - s1.co).toNat = n - s1.co := by rw [List.length_map]; omega
      rw [← en]
      exact vi_range2 E.b_range (pv_ix ix_list (pv_v 0) pv_int (p2_ixI (lA s1) rfl)) (pv_cb call_len_seq E.b_len (va_cons (pv_v (d := .adr q) 2) va_nil) (pn_lenI (lQ s1))) (by rw [List.length_map]; omega)) (fun p δ' I' => I' = c.fill (iScr K bl bj qs q g { s1 with cur := s1.cur.take s1.co ++ List.replicate p.length e ++ s1.cur.drop (s1.co + p.length) } a e) ∧ ∃ o3, δ' = [some (.adr a), some (.str wd), some (.adr q), o3]) ⟨by rw [List.length_nil, ← e0], none, rfl⟩ ?_ ?_)
    · rintro p i r δ' I' e2 ⟨rfl, o3, rfl⟩
      have hi : i = p.length := by
        have h1 : (List.range (n - s1.co))[p.length]? = some i := by rw [e2]; simp
        rw [List.getElem?_range (by have := congrArg List.length e2; simp at this; omega)] at h1
        exact (Option.some.inj h1).symm
      have hpl : p.length < n - s1.co := by have := congrArg List.length e2; simp at this; omega
      subst hi
      refine ⟨_, [3], bind_name 3, ?_⟩
      have hlen : ((s1.cur.take s1.co ++ List.replicate p.length e ++ s1.cur.drop (s1.co + p.length)).map g).length = n := by
        rw [List.length_map]
        simp only [List.length_append, List.length_take, List.length_replicate, List.length_drop]
        omega
      refine s_one (s_setItem (d := g e) (j := s1.co + p.length) _ (pv_v (d := .adr q) 2) (pv_v 3) (pv_ix ix_list (pv_v 0) pv_int (p2_ixI (lA _) rfl)) ?_ ?_ ((eC _).trans core_q))
      · rw [hlen]
        have e3 : ((s1.co : Int) + (p.length : Nat)) = ((s1.co + p.length : Nat) : Int) := by omega
        rw [e3]
        exact ixN_nat (by omega)
      · refine ⟨?_, _, rfl⟩
        rw [← List.map_set, er_step (by omega), List.length_append]
        exact core_setq.trans (eC { s1 with cur := s1.cur.take s1.co ++ List.replicate (p.length + 1) e ++ s1.cur.drop (s1.co + (p.length + 1)) }).symm
    · rintro δ' I' ⟨rfl, o3, rfl⟩
      refine ⟨?_, o3, rfl⟩
      rw [List.length_range, show s1.co + (n - s1.co) = s1.cur.length by omega, List.drop_length, List.append_nil, show sWord2 e wd s1 = sErase e s1 from by unfold sWord2; rw [if_pos h]]
      unfold sErase
      rw [hcl]
  · have h : ¬ (wd = "wipe" ∨ wd = "erase") := by simpa using h
    exact ⟨by rw [show sWord2 e wd s1 = s1 from by unfold sWord2; rw [if_neg h]], none, rfl⟩
  rintro δ' I' ⟨rfl, o3, rfl⟩
  have ok2 : SOk n (sWord2 e wd s1) := ok1.word2
  obtain ⟨u2, j2, c2⟩ := take_word2 (s := s1) (wd := wd) (e := e)
  have hq2 : qs.length = (sWord2 e wd s1).up.length := by rw [u2]; exact hq1
  have hz2 : (sWord2 e wd s1).up.length + 1 ≤ 10000 := by rw [u2]; exact hz1
  clear u2 j2 c2
  generalize sWord2 e wd s1 = s2 at *
  refine s_one (s_ifP (PVT.is (ptw (ww_or (pt_eq hu (pv_v 1) pv_str trivial) fun _ => ww_or1 (ptw (ww_and (pt_eq hu (pv_v 1) pv_str trivial) fun _ => ww_and1 (DL.pt_cmp op_gt (pv_ix ix_list (pv_v 0) pv_int (p2_ixI (lA s2) rfl)) pv_int p2_gt))))) rfl) (fun h => ?_) fun h => s_nil ?_)
  · have h : wd = "newline" ∨ (wd = "fresh" ∧ 0 < s2.co) := by
      simp only [Bool.or_eq_true, Bool.and_eq_true, decide_eq_true_eq] at h
      exact h.imp id fun ⟨a, b⟩ => ⟨a, by omega⟩
    have e3 : sWord3 n e wd s2 = sDown n e false s2 := by unfold sWord3; rw [if_pos h]
    rw [e3] at k
    exact s_one (s_expr (ev_def tk (D_down E) hr1 (ea_cons ((pv_v 0).ev (ea_cons (pv_bl.ev (ea_nil ⟨α, g, e, n, s2, c, a, bl, bj, q, qs, _, _, 1, rfl, ⟨false, rfl, rfl, rfl⟩, rfl, ok2, hq2, hz2, fun bl' bj' qs' q' h' => k bl' bj' qs' q' h'⟩)))))))
  · have h : ¬ (wd = "newline" ∨ (wd = "fresh" ∧ 0 < s2.co)) := fun hh => by
      simp only [Bool.or_eq_false_iff, Bool.and_eq_false_iff, decide_eq_false_iff_not] at h
      rcases hh with hh | ⟨h1, h2⟩
      · exact h.1 hh
      · exact h.2.elim (fun z => z h1) fun z => z (by omega)
    have e3 : sWord3 n e wd s2 = s2 := by unfold sWord3; rw [if_neg h]
    rw [e3] at k
    exact k bl bj qs q hq2
theorem D_type (E : Env P w K mg base) : Def P w K mg base "_law_type" 2 ["_law_s", "_law_things"] [] sTypeL := mk_f_Ltype E fun fd F => by
  refine fn_d F sc_f_Ltype (fun I ds P R h => by obtain ⟨α, g, e, w, s, c, a, bl, bj, q, qs, xs, f, m, rfl, ⟨b, rfl, _⟩, _⟩ := h; rfl) fun cdv A outer s0 H EE hr tk po I ds Q R h => ?_
  obtain ⟨α, g, e, n, s, c, a, bl, bj, q, qs, xs, f, m, rfl, ⟨zs, rfl, rfl, rfl⟩, rfl, ok, hq, hz, k⟩ := h
  have nd := sc_f_Ltype.nd
  have hu := hr.units
  have hr1 : Room 1 _ := hr
  have w99 := ok.w99
  refine s_one (s_forT (xs := zs) (g := g) po (vi_lst (pv_v (d := .lst (zs.map g)) 1)) (fun p δ' I' => ∃ bl bj qs q o2 o3, qs.length = (sType n e s p).up.length ∧ I' = c.fill (iScr K bl bj qs q g (sType n e s p) a e) ∧ δ' = [some (.adr a), some (.lst (zs.map g)), o2, o3]) ⟨bl, bj, qs, q, none, none, hq, rfl, rfl⟩ ?_ ?_)
  · rintro p z r δ' I' e2 ⟨bl, bj, qs, q, o2, o3, hq, rfl, rfl⟩
    have es : sType n e s (p ++ [z]) = sPut1 z (sWrap n e (sType n e s p)) := by unfold sType; rw [List.foldl_append]; rfl
    have hz1 : (sType n e s p).up.length + 1 ≤ 10000 := by
      have h1 := up_type (w := n) (e := e) (s := s) (xs := p)
      have h2 : p.length + 1 ≤ zs.length := by rw [e2, List.length_append, List.length_cons]; omega
      omega
    have ok1 : SOk n (sType n e s p) := ok.type
    rw [es]
    clear es
    generalize sType n e s p = s1 at *
    refine ⟨_, [2], bind_name 2, ?_⟩
    have eA : ∀ (bl bj : Addr) (qs : List Addr) (q : Addr) (s : Scr α), c.fill (iScr K bl bj qs q g s a e) = (c.comp (.l .here (iCore K bl bj qs q g s))).fill (iLst K a [.adr bl, .adr bj, .int s.co, g e]) := fun bl bj qs q s => scr_a
    have eC : ∀ (bl bj : Addr) (qs : List Addr) (q : Addr) (s : Scr α), c.fill (iScr K bl bj qs q g s a e) = (c.comp (.r (iLst K a [.adr bl, .adr bj, .int s.co, g e]) .here)).fill (iCore K bl bj qs q g s) := fun bl bj qs q s => scr_core
    have lA : ∀ (bl bj : Addr) (qs : List Addr) (q : Addr) (s : Scr α), LsI (c.fill (iScr K bl bj qs q g s a e)) (.adr a) [.adr bl, .adr bj, .int s.co, g e] := fun bl bj qs q s => LsI.m _ (eA bl bj qs q s)
    have lBl : ∀ (bl bj : Addr) (qs : List Addr) (q : Addr) (s : Scr α), LsI (c.fill (iScr K bl bj qs q g s a e)) (.adr bl) ((qs ++ [q]).map D.adr) := fun bl bj qs q s => LsI.m _ ((eC bl bj qs q s).trans core_bl)
    obtain ⟨p0, hp0, ha0⟩ := firstQ (qs := qs) (q := q)
    obtain ⟨r0, hr0, hl0⟩ := firstR ok1
    have lR0 : LsI (c.fill (iScr K bl bj qs q g s1 a e)) (.adr p0) (r0.map g) := by rw [eC]; exact core_row hq hp0 hr0
    refine s_cons (s_joint (fun δ' I' => ∃ bl bj qs q, qs.length = (sWrap n e s1).up.length ∧ I' = c.fill (iScr K bl bj qs q g (sWrap n e s1) a e) ∧ δ' = [some (.adr a), some (.lst (zs.map g)), some (g z), o3]) (s_ifP (pt_eq hu (pv_ix ix_list (pv_v 0) pv_int (p2_ixI (lA bl bj qs q s1) rfl)) (pv_cb call_len_seq E.b_len (va_cons (pv_ix ix_list (pv_ix ix_list (pv_v 0) pv_int (p2_ixI (lA bl bj qs q s1) rfl)) pv_int (p2_ixI (lBl bl bj qs q s1) ha0)) va_nil) (pn_lenI lR0)) trivial) (fun h => ?_) fun h => s_nil ?_) ?_)
    · have h : s1.co = n := by
        have h := of_decide_eq_true h
        rw [List.length_map] at h; omega
      have e3 : sWrap n e s1 = sDown n e true s1 := by unfold sWrap; rw [if_pos h]
      rw [e3]
      exact s_one (s_expr (ev_def tk (D_down E) hr1 (ea_cons ((pv_v 0).ev (ea_cons (pv_bl.ev (ea_nil ⟨α, g, e, n, s1, c, a, bl, bj, q, qs, _, _, 1, rfl, ⟨true, rfl, rfl, rfl⟩, rfl, ok1, hq, hz1, fun bl' bj' qs' q' h' => ⟨bl', bj', qs', q', h', rfl, rfl⟩⟩)))))))
    · have h : s1.co ≠ n := by
        have h := of_decide_eq_false h
        rw [List.length_map] at h; omega
      have e3 : sWrap n e s1 = s1 := by unfold sWrap; rw [if_neg h]
      rw [e3]
      exact ⟨bl, bj, qs, q, hq, rfl, rfl⟩
    · rintro δ' I' ⟨bl, bj, qs, q, hq, rfl, rfl⟩
      obtain ⟨ok2, hc2⟩ := ok1.wrap (e := e)
      generalize sWrap n e s1 = s2 at *
      have hcl := ok2.cl
      refine s_cons (s_setP (d := .adr q) 3 (pv_ix ix_list (pv_ix ix_list (pv_v 0) pv_int (p2_ixI (lA bl bj qs q s2) rfl)) (pv_neg pv_int) (p2_ixI (lBl bl bj qs q s2) lastQ)) ?_)
      refine s_cons (s_setItem (d := g z) (j := s2.co) _ (pv_v (d := .adr q) 3) (pv_ix ix_list (pv_v 0) pv_int (p2_ixI (lA bl bj qs q s2) rfl)) (pv_v (d := g z) 2) (ixN_nat (by rw [List.length_map]; omega)) ?_ ((eC bl bj qs q s2).trans core_q))
      rw [← List.map_set]
      refine SX.eq (core_setq.trans (eC bl bj qs q { s2 with cur := s2.cur.set s2.co z }).symm) ?_
      refine s_one (s_setItem (d := .int (s2.co + 1 : Nat)) (j := 2) _ (pv_v 0) pv_int (PV.is (pv_op op_add (pv_ix ix_list (pv_v 0) pv_int (p2_ixI (lA bl bj qs q { s2 with cur := s2.cur.set s2.co z }) rfl)) pv_int p2_add) (by simp)) rfl ?_ (eA bl bj qs q { s2 with cur := s2.cur.set s2.co z }))
      refine ⟨bl, bj, qs, q, some (g z), some (.adr q), hq, ?_, rfl⟩
      rw [eA]
      rfl
  · rintro δ' I' ⟨bl, bj, qs, q, o2, o3, hq, rfl, rfl⟩
    exact k bl bj qs q hq
end
end LK
set_option Elab.async false
set_option linter.all false
set_option maxRecDepth 100000
set_option maxHeartbeats 1000000
namespace LK
open PySem PySem.Spec PyProof.Rows L2 DL
section
variable {P : Program} {w : World} {K : PySem.W.Frag} {mg : Str → Option Value} {base : Heap}
end
end LK
set_option Elab.async false
set_option linter.all false
set_option maxRecDepth 100000
set_option maxHeartbeats 4000000
namespace L2
open PySem PySem.Spec PyProof.Rows
section
variable {X : Cx}
end
end L2
namespace DL
open PySem PySem.Spec PyProof.Rows L2
section
variable {X : Cx} {W : WX} {R : Rx X.K} {a e : Expr} {lo hi : Option Expr} {δ : DEnv} {I : Iv X.K} {P : D → Iv X.K → Prop} {pos p2 : Pos} {ds : List D} {l h : Option Int}
end
section
variable {K : PySem.W.Frag} {I : Iv K} {G H : Hp}
theorem freeze_rows : ∀ {qs : List Addr} {rs : List (List D)} {I : Iv K} {G : Hp}, qs.length = rs.length → Same G H → Hd (I.and (iRows K qs rs)) G H → ∃ G', Same G G' ∧ Same G' H ∧ Hd I G' H ∧ Reps K G' (rs.map D.lst) (qs.map V.ref)
  | [], [], I, G, _, s, h => ⟨G, Same.refl G, s, h.left, rfl⟩
  | q :: qs, r :: rs, I, G, hl, s, h => by
    have h1 : Hd ((I.and (iRows K qs rs)).and (iLst K q r)) G H := h.wk (Wk.re [I, iLst K q r, iRows K qs rs] (0 + (1 + 2)) (0 + 2 + 1))
    obtain ⟨G1, s1, t1, h2, r1⟩ := freeze_lst s h1
    obtain ⟨G2, s2, t2, h3, r2⟩ := freeze_rows (by simpa using hl) t1 h2
    exact ⟨G2, s1.trans s2, t2, h3, .cons (r1.mono s2) r2⟩
  | [], _ :: _, _, _, hl, _, _ => by simp at hl
  | _ :: _, [], _, _, hl, _, _ => by simp at hl
theorem reps_adr {G : Hp} : ∀ {qs : List Addr} {vs : List V}, Reps K G (qs.map D.adr) vs → vs = qs.map V.ref
  | [], _, h => h
  | q :: qs, _, ⟨v, r, e, h1, h2⟩ => by
    rw [e, show v = .ref q from h1, reps_adr h2]; rfl
theorem freeze_lrows {bl : Addr} {qs : List Addr} {rs : List (List D)} (hl : qs.length = rs.length) (s : Same G H) (h : Hd ((I.and (iRows K qs rs)).and (iLst K bl (qs.map D.adr))) G H) : ∃ G', Same G G' ∧ Same G' H ∧ Hd I G' H ∧ Rep K G' (.lst (rs.map D.lst)) (.ref bl) := by
  obtain ⟨G1, s1, t1, h1, ⟨a, vs, ev, e1, r1⟩⟩ := freeze_lst s h
  cases ev
  obtain ⟨G2, s2, t2, h2, r2⟩ := freeze_rows hl t1 h1
  rw [reps_adr r1] at e1
  exact ⟨G2, s1.trans s2, t2, h2, ⟨bl, qs.map V.ref, rfl, s2 _ _ e1, r2⟩⟩
end
end DL
set_option Elab.async false
set_option linter.all false
set_option maxRecDepth 100000
set_option maxHeartbeats 4000000
namespace DL
open PySem PySem.Spec PyProof.Rows L2
def MX (X : Cx) (W : WX) (cases : List MatchCase) (w : Str) (δ : DEnv) (I : Iv X.K) (κ : Ko X.K) : Prop := ∀ (σ : L2.St) (G H : Hp) (E : Ends), EnvR X.K G δ σ → Same G H → Hd I G H → KoLe X.K W E G κ →
  ∀ (pins : List (Addr × Obj)) (s : Shared) (first : Bool) (t : Tok), Inv X pins σ H s → wpAny (model X.prog X.w) X.A (matchCases cases X.env (.str w t) first) (SP X pins E) X.xe s
section
variable {X : Cx} {W : WX} {R : Rx X.K} {a b e : Expr} {δ : DEnv} {I : Iv X.K} {κ : Ko X.K} {pos p1 p2 : Pos} {w c : Str} {cases rest : List MatchCase} {body : List Stmt} {j : Nat} {d x : D} {ds : List D} {P : D → Iv X.K → Prop}
theorem mx_nil (h : κ.nx δ I) : MX X W [] w δ I κ := fun σ G H E hE sm hI k pins s first t J => wpAny_matchCases_nil ⟨σ, H, J, k.nx δ σ G H I (Same.refl G) sm hI hE h⟩
theorem mx_str (h1 : w = c → SX X W body δ I κ) (h2 : w ≠ c → MX X W rest w δ I κ) : MX X W (⟨.MatchValue (.Constant (.str c) j p1) p2, none, body⟩ :: rest) w δ I κ := fun σ G H E hE sm hI k pins s first t J => by
  refine wpAny_matchCases_cons (wpAny_matchPattern_Value ?_)
  have hp := (pv_str (X := X) (I := I) (w := c) (j := j) (pos := p1) (δ := δ) W0 R0 (fun d I' => d = .str c ∧ I' = I) ⟨rfl, rfl⟩ σ G H (fun v H' => v = .str c ∧ ∃ G', Same G G' ∧ Same G' H' ∧ Hd I G' H') hE sm hI kx0 (fun v d G' H' I' s1 t1 g1 r1 ⟨ed, ei⟩ => by
    subst ed ei
    exact ⟨r1, G', s1, t1, g1⟩)).run pins s J
  refine thn hp fun u s1 ⟨v, H1, J1, rv, ev, G1, q1, q2, q3⟩ => ?_
  subst ev
  refine thn (op_eq pins s1 σ H1 (.str w) (.str c) _ u (fun z H' => z = .bl (decide (w = c)) ∧ H' = H1) J1 ⟨t, rfl⟩ rv ⟨rfl, by simp, rfl⟩) fun z s2 ⟨v2, H2, J2, r2, e2, e3⟩ => ?_
  subst e2 e3
  obtain rfl : z = Value.bool (decide (w = c)) := r2
  refine wpAny_truthy_bool ?_
  by_cases hc : w = c
  · rw [decide_eq_true hc]
    show wpAny _ _ (assignInOrder [] []) _ _ _
    refine wpAny_assignInOrder_none ?_
    exact (h1 hc σ G1 H2 E (hE.mono q1) q2 q3 (k.mono q1)).run pins s2 J2
  · rw [decide_eq_false hc]
    exact h2 hc σ G1 H2 E (hE.mono q1) q2 q3 (k.mono q1) pins s2 false t J2
theorem s_match (h : PV X I e δ (.str w)) (m : MX X W cases w δ I κ) : S1 X W (.Match e cases pos) δ I κ := fun σ G H E hE sm hI k => ⟨fun pins s J => wpAny_Match (by
  have hp := (h W0 R0 (fun d I' => d = .str w ∧ I' = I) ⟨rfl, rfl⟩ σ G H (fun v H' => v = .str w ∧ ∃ G', Same G G' ∧ Same G' H' ∧ Hd I G' H') hE sm hI kx0 (fun v d G' H' I' s1 t1 g1 r1 ⟨ed, ei⟩ => by
    subst ed ei
    exact ⟨r1, G', s1, t1, g1⟩)).run pins s J
  refine thn hp fun u s1 ⟨v, H1, J1, rv, ev, G1, q1, q2, q3⟩ => ?_
  subst ev
  obtain ⟨t, rfl⟩ := (show ∃ t, u = Value.str w t from rv)
  exact m σ G1 H1 E (hE.mono q1) q2 q3 (k.mono q1) pins s1 true t J1)⟩
theorem o2_repM {K : PySem.W.Frag} {I : Iv K} {P : D → Iv K → Prop} {n : Nat} (li : LsI I x ds) (hz : ds.length * n ≤ 100000) (hn : n ≤ 100000) (pp : ∀ p, P (.adr p) (I.and (iLst K p (List.replicate n ds).flatten))) : Op2 K rRep x (.int n) I P := fun G H v w Q s hI r1 r2 q => by
  obtain ⟨a, vs, ev, h1, rr⟩ := li.h G H v s hI r1
  refine ⟨a, n, vs, ev, r2, h1, by omega, by omega, by rw [rr.length, sizeLine_eq, Int.toNat_natCast]; omega, fun p hp => ?_⟩
  rw [Int.toNat_natCast]
  have hg : G p = none := s.free hp
  have na : ∀ a, ¬ (I.F a ∧ a = p) := fun a ha => hI.dom ha.1 (by rw [ha.2]; exact hp)
  exact q (.ref p) (.adr p) G _ (I.and (iLst K p (List.replicate n ds).flatten)) (Same.refl G) (same_upd s hg) (Hd.mk2 (hI.newp hp) ⟨⟨_, upd_same, _, rfl, reps_rep rr n⟩, fun a ha => by rw [show a = p from ha]; exact hg⟩ na) rfl (pp p)
end
end DL
set_option Elab.async false
set_option linter.all false
set_option maxRecDepth 100000
set_option maxHeartbeats 1000000
namespace LK
open PySem PySem.Spec PyProof.Rows L2 DL
abbrev cG (K : PySem.W.Frag) : Addr := He.ga K "Grid"
abbrev grF {α : Type} (w : Nat) (g : α → D) (e : α) (bl bj : Addr) (s : Scr α) : List (Str × D) := [("span", .int w), ("empty", g e), ("cells", .adr bl), ("joined", .adr bj), ("row", .int (s.up.length : Nat)), ("column", .int (s.co : Nat))]
def iGrid {α : Type} (K : PySem.W.Frag) (bl bj : Addr) (qs : List Addr) (q : Addr) (g : α → D) (s : Scr α) (x dx : Addr) (w : Nat) (e : α) : Iv K := (iIns K x (cG K) dx (grF w g e bl bj s)).and (iCore K bl bj qs q g s)
section
variable {α : Type} {K : PySem.W.Frag} {bl bj x dx q : Addr} {qs : List Addr} {g : α → D} {s : Scr α} {e : α} {c : Rc K} {I : Iv K} {w : Nat}
theorem grid_ins : c.fill (iGrid K bl bj qs q g s x dx w e) = (c.comp (.l .here (iCore K bl bj qs q g s))).fill (iIns K x (cG K) dx (grF w g e bl bj s)) := (fill_comp (I := iIns K x (cG K) dx (grF w g e bl bj s)) (.l .here (iCore K bl bj qs q g s)) c).symm
theorem grid_core : c.fill (iGrid K bl bj qs q g s x dx w e) = (c.comp (.r (iIns K x (cG K) dx (grF w g e bl bj s)) .here)).fill (iCore K bl bj qs q g s) := (fill_comp (I := iCore K bl bj qs q g s) (.r (iIns K x (cG K) dx (grF w g e bl bj s)) .here) c).symm
theorem rowQ (hq : qs.length = s.up.length) : atI ((qs ++ [q]).map D.adr) ((s.up.length : Nat) : Int) = some (.adr q) := atI_m (by rw [← hq, List.getElem?_append_right (Nat.le_refl _), Nat.sub_self]; rfl)
theorem rep_one {n : Nat} : (List.replicate n [g e]).flatten = (List.replicate n e).map g := by
  rw [List.map_replicate]
  induction n with
  | zero => rfl
  | succ n ih => rw [List.replicate_succ, List.flatten_cons, ih, List.replicate_succ]; rfl
theorem p2_addA {i j : Int} : P2 K I rAdd (.int i) (.int j) (.int (i + j)) := fun P p G H v w Q s hI r1 r2 q => ⟨i, j, r1, r2, q (.int (i + j)) (.int (i + j)) G H I (Same.refl G) s hI rfl p⟩
end
theorem wds_ne : ((("return" : Str) = "wipe") = False) ∧ ((("return" : Str) = "erase") = False) ∧ ((("return" : Str) = "newline") = False) ∧ ((("return" : Str) = "fresh") = False) ∧ ((("wipe" : Str) = "return") = False) ∧ ((("wipe" : Str) = "erase") = False) ∧ ((("wipe" : Str) = "newline") = False) ∧ ((("wipe" : Str) = "fresh") = False) ∧ ((("erase" : Str) = "return") = False) ∧ ((("erase" : Str) = "wipe") = False) ∧ ((("erase" : Str) = "newline") = False) ∧ ((("erase" : Str) = "fresh") = False) ∧ ((("newline" : Str) = "return") = False) ∧ ((("newline" : Str) = "wipe") = False) ∧ ((("newline" : Str) = "erase") = False) ∧ ((("newline" : Str) = "fresh") = False) ∧ ((("fresh" : Str) = "return") = False) ∧ ((("fresh" : Str) = "wipe") = False) ∧ ((("fresh" : Str) = "erase") = False) ∧ ((("fresh" : Str) = "newline") = False) := by refine ⟨?_, ?_, ?_, ?_, ?_, ?_, ?_, ?_, ?_, ?_, ?_, ?_, ?_, ?_, ?_, ?_, ?_, ?_, ?_, ?_⟩ <;> exact eq_false (by decide)
section
variable {X : Cx} {W : WX} {e : Expr} {δ : DEnv} {I : Iv X.K} {pos : Pos} {κ : Ko X.K} {x' : Str} {n m : Int}
end
def sGrInit {K : PySem.W.Frag} : Spec K := fun I ds P _ => ∃ (x dx : Addr) (J : Iv K) (α : Type) (g : α → D) (e : α) (w : Nat), ds = [.adr x, .int w, g e] ∧ I = J.and (iIns K x (cG K) dx []) ∧ w ≤ 99 ∧
  ∀ bl bj q, P .non (J.and (iGrid K bl bj [] q g (sNew w e) x dx w e))
def sGrOp {K : PySem.W.Frag} (args : {α : Type} → (α → D) → α → List D → (Nat → α → Scr α → Scr α) → Nat → Prop) (pre : {α : Type} → Nat → Scr α → Prop := fun _ _ => True) : Spec K := fun I ds P _ => ∃ (α : Type) (g : α → D) (e : α) (w : Nat) (s : Scr α) (c : Rc K) (x dx bl bj q : Addr) (qs : List Addr) (xs : List D) (f : Nat → α → Scr α → Scr α) (m : Nat), ds = .adr x :: xs ∧ args g e xs f m ∧ I = c.fill (iGrid K bl bj qs q g s x dx w e) ∧ SOk w s ∧ qs.length = s.up.length ∧ s.up.length + m ≤ 10000 ∧ pre w s ∧
  ∀ bl' bj' qs' q', qs'.length = (f w e s).up.length → P .non (c.fill (iGrid K bl' bj' qs' q' g (f w e s) x dx w e))
abbrev sGLeave {K : PySem.W.Frag} : Spec K := sGrOp fun g e xs f m => ∃ b, xs = [.bl b] ∧ f = (fun w e s => sDown w e b s) ∧ m = 1
abbrev sGErase {K : PySem.W.Frag} : Spec K := sGrOp fun g e xs f m => xs = [] ∧ f = (fun w e s => sErase e s) ∧ m = 0
abbrev sGPut {K : PySem.W.Frag} : Spec K := sGrOp fun {α} g e xs f m => ∃ z : α, xs = [g z] ∧ f = (fun w e s => sPut w e s z) ∧ m = 1
abbrev sGWord {K : PySem.W.Frag} : Spec K := sGrOp fun g e xs f m => ∃ wd, xs = [.str wd] ∧ f = (fun w e s => sWord w e wd s) ∧ m = 1
abbrev sGPerf {K : PySem.W.Frag} : Spec K := sGrOp fun {α} g e xs f m => ∃ (zs : List α) (k t l e' : Str), xs = [wD K k t l e', .lst (zs.map g)] ∧ f = (fun w e s => sWord w e e' (sType w e (sWord w e l s) zs)) ∧ m = zs.length + 2
section
variable {P : Program} {w : World} {K : PySem.W.Frag} {mg : Str → Option Value} {base : Heap}
theorem M_leave (E : Env P w K mg base) : FnR P w K mg base (L2.CX P w) 1 (He.ma K (cG K) "leave") (spD K sGLeave) := mk_m_Grid_leave E fun fd F => by
  refine fn_d F sc_m_Grid_leave (fun I ds P R h => by obtain ⟨α, g, e, w, s, c, x, dx, bl, bj, q, qs, xs, f, m, rfl, ⟨b, rfl, _⟩, _⟩ := h; rfl) fun cdv A outer s0 H EE hr tk po I ds Q R h => ?_
  obtain ⟨α, g, e, n, s, c, x, dx, bl, bj, q, qs, xs, f, m, rfl, ⟨b, rfl, rfl, rfl⟩, rfl, ok, hq, hz, _, k⟩ := h
  have nd := sc_m_Grid_leave.nd
  have w99 := ok.w99
  have eI := grid_ins (K := K) (bl := bl) (bj := bj) (qs := qs) (q := q) (g := g) (s := s) (x := x) (dx := dx) (w := n) (e := e) (c := c)
  have eC := grid_core (K := K) (bl := bl) (bj := bj) (qs := qs) (q := q) (g := g) (s := s) (x := x) (dx := dx) (w := n) (e := e) (c := c)
  have lBl : LsI (c.fill (iGrid K bl bj qs q g s x dx n e)) (.adr bl) ((qs ++ [q]).map D.adr) := LsI.m _ (eC.trans core_bl)
  refine SX.k ?_
  refine s_cons (s_appendE (pv_fld _ E.l_Grid E.a_Grid_cells (pv_v 0) rfl (eI := eI)) lBl (ev_op op_rep (ev_lstMM (ea_cons ((pv_fld (d := g e) _ E.l_Grid E.a_Grid_empty (pv_v 0) rfl (eI := eI)).ev (ea_nil ⟨by simp, fun p1 _ => (pv_fld (d := .int n) (.l (c.comp (.l .here (iCore K bl bj qs q g s))) (iLst K p1 [g e])) E.l_Grid E.a_Grid_span (pv_v 0) rfl (eI := by rw [eI]; rfl)).ev (o2_repM (LsI.m (.r _ .here) rfl) (by simp; omega) (by omega) fun q1 => ?_)⟩))))))
  refine ⟨.l (.l ((c.comp (.r (iIns K x (cG K) dx (grF n g e bl bj s)) .here)).comp (cxBl K bj qs q g s)) (iLst K p1 [g e])) (iLst K q1 (List.replicate n [g e]).flatten), _, by show ((c.fill (iGrid K bl bj qs q g s x dx n e)).and _).and _ = _; rw [eC.trans core_bl]; rfl, by rw [List.length_map, List.length_append]; simp only [List.length_cons, List.length_nil]; omega, ?_⟩
  rw [rep_one]
  have w1 : Wk ((Rc.l (Rc.l ((c.comp (.r (iIns K x (cG K) dx (grF n g e bl bj s)) .here)).comp (cxBl K bj qs q g s)) (iLst K p1 [g e])) (iLst K q1 ((List.replicate n e).map g))).fill (iLst K bl ((qs ++ [q]).map D.adr ++ [D.adr q1]))) (c.fill ((iIns K x (cG K) dx (grF n g e bl bj s)).and ((iLst K bl ((qs ++ [q]).map D.adr ++ [D.adr q1])).and ((iLst K bj (s.jo.map D.bl)).and ((iRows K (qs ++ [q]) ((s.up ++ [s.cur]).map fun r => r.map g)).and (iLst K q1 ((List.replicate n e).map g))))))) := by
    show Wk (((((c.comp (.r (iIns K x (cG K) dx (grF n g e bl bj s)) .here)).comp (cxBl K bj qs q g s)).fill (iLst K bl ((qs ++ [q]).map D.adr ++ [D.adr q1]))).and (iLst K p1 [g e])).and (iLst K q1 ((List.replicate n e).map g))) _
    rw [fill_comp, fill_comp]
    refine (Wk.andL Wk.dropR).trans ((Wk.pull c).trans (Wk.fill ?_ c))
    show Wk (((iIns K x (cG K) dx (grF n g e bl bj s)).and ((iLst K bl ((qs ++ [q]).map D.adr ++ [D.adr q1])).and ((iLst K bj (s.jo.map D.bl)).and ((iRows K qs (s.up.map fun r => r.map g)).and (iLst K q (s.cur.map g)))))).and (iLst K q1 ((List.replicate n e).map g))) _
    have w2 : Wk ((iRows K qs (s.up.map fun r => r.map g)).and (iLst K q (s.cur.map g))) (iRows K (qs ++ [q]) ((s.up ++ [s.cur]).map fun r => r.map g)) := by
      rw [List.map_append]
      exact (Wk.row1.andR).trans (Wk.rows_app (by simpa using hq))
    refine Wk.trans (Wk.re [iIns K x (cG K) dx (grF n g e bl bj s), iLst K bl ((qs ++ [q]).map D.adr ++ [D.adr q1]), iLst K bj (s.jo.map D.bl), (iRows K qs (s.up.map fun r => r.map g)).and (iLst K q (s.cur.map g)), iLst K q1 ((List.replicate n e).map g)] (0 + (1 + (2 + 3)) + 4) (0 + (1 + (2 + (3 + 4))))) ?_
    exact Wk.andR (Wk.andR (Wk.andR (Wk.andL w2)))
  refine SX.wk w1 ?_
  clear w1
  have eJ2 : ∀ (A B L : Iv K) (ds : List D), c.fill (A.and (B.and ((iLst K bj ds).and L))) = (c.comp (.r A (.r B (.l .here L)))).fill (iLst K bj ds) := fun A B L ds => (fill_comp (.r A (.r B (.l .here L))) c).symm
  have eA2 : ∀ (L : Iv K) (fs : List (Str × D)), c.fill ((iIns K x (cG K) dx fs).and L) = (c.comp (.l .here L)).fill (iIns K x (cG K) dx fs) := fun L ds => (fill_comp (.l .here L) c).symm
  refine s_cons (s_append _ (pv_fld (d := .adr bj) _ E.l_Grid E.a_Grid_joined (pv_v 0) rfl (eI := eA2 _ _)) (eJ2 _ _ _ _) ((pv_v 1).ev ⟨eJ2 _ _ _ _, by rw [List.length_map, ok.jl]; omega, ?_⟩))
  refine SX.eq (eJ2 _ _ _ _).symm ?_
  refine s_cons (s_fldaug (z := .int 1) _ E.l_Grid E.a_Grid_row in_add (pv_v 0) rfl pv_int p2_addA ?_ (eI := eA2 _ _))
  refine s_one (s_fldP _ E.l_Grid E.a_Grid_column (pv_v 0) pv_int ?_ (eI := rfl))
  refine ⟨_, Wk.eq (Eq.trans (eA2 _ _).symm ?_), k bl bj (qs ++ [q]) q1 (by simp [sDown, hq])⟩
  show c.fill ((iIns K x (cG K) dx [("span", .int n), ("empty", g e), ("cells", .adr bl), ("joined", .adr bj), ("row", .int ((s.up.length : Nat) + 1)), ("column", .int 0)]).and _) = c.fill ((iIns K x (cG K) dx [("span", .int n), ("empty", g e), ("cells", .adr bl), ("joined", .adr bj), ("row", .int ((s.up ++ [s.cur]).length : Nat)), ("column", .int 0)]).and ((iLst K bl (((qs ++ [q]) ++ [q1]).map D.adr)).and ((iLst K bj ((s.jo ++ [b]).map D.bl)).and _)))
  rw [List.map_append (l₁ := qs ++ [q]), List.map_append (l₁ := s.jo), List.length_append]
  rfl
theorem M_erase (E : Env P w K mg base) : FnR P w K mg base (L2.CX P w) 1 (He.ma K (cG K) "erase") (spD K sGErase) := mk_m_Grid_erase E fun fd F => by
  refine fn_d F sc_m_Grid_erase (fun I ds P R h => by obtain ⟨α, g, e, w, s, c, x, dx, bl, bj, q, qs, xs, f, m, rfl, ⟨rfl, _⟩, _⟩ := h; rfl) fun cdv A outer s0 H EE hr tk po I ds Q R h => ?_
  obtain ⟨α, g, e, n, s1, c, x, dx, bl, bj, q, qs, xs, f, m, rfl, ⟨rfl, rfl, rfl⟩, rfl, ok1, hq, hz, _, k⟩ := h
  have nd := sc_m_Grid_erase.nd
  have w99 := ok1.w99
  have hcl := ok1.cl
  have hcw := ok1.cw
  have eI : ∀ s : Scr α, c.fill (iGrid K bl bj qs q g s x dx n e) = (c.comp (.l .here (iCore K bl bj qs q g s))).fill (iIns K x (cG K) dx (grF n g e bl bj s)) := fun s => grid_ins
  have eC : ∀ s : Scr α, c.fill (iGrid K bl bj qs q g s x dx n e) = (c.comp (.r (iIns K x (cG K) dx (grF n g e bl bj s)) .here)).fill (iCore K bl bj qs q g s) := fun s => grid_core
  have lBl : ∀ s : Scr α, LsI (c.fill (iGrid K bl bj qs q g s x dx n e)) (.adr bl) ((qs ++ [q]).map D.adr) := fun s => LsI.m _ ((eC s).trans core_bl)
  refine s_cons (s_setP (d := .adr q) 1 (pv_ix ix_list (pv_fld (d := .adr bl) _ E.l_Grid E.a_Grid_cells (pv_v 0) rfl (eI := eI s1)) (pv_fld (d := .int (s1.up.length : Nat)) _ E.l_Grid E.a_Grid_row (pv_v 0) rfl (eI := eI s1)) (p2_ixI (lBl s1) (rowQ hq))) ?_)
  have e0 : s1.cur = s1.cur.take s1.co ++ List.replicate 0 e ++ s1.cur.drop (s1.co + 0) := by simp
  refine s_one (s_forT (xs := List.range (n - s1.co)) (g := fun i : Nat => D.int (s1.co + i)) po (by
    have en : ((n : Int) - s1.co).toNat = n - s1.co := by omega
    rw [← en]
    exact vi_range2 E.b_range (pv_fld (d := .int (s1.co : Nat)) _ E.l_Grid E.a_Grid_column (pv_v 0) rfl (eI := eI s1)) (pv_fld (d := .int n) _ E.l_Grid E.a_Grid_span (pv_v 0) rfl (eI := eI s1)) (by omega)) (fun p δ' I' => I' = c.fill (iGrid K bl bj qs q g { s1 with cur := s1.cur.take s1.co ++ List.replicate p.length e ++ s1.cur.drop (s1.co + p.length) } x dx n e) ∧ ∃ o3, δ' = [some (.adr x), some (.adr q), o3]) ⟨by rw [List.length_nil, ← e0], none, rfl⟩ ?_ ?_)
  · rintro p i r δ' I' e2 ⟨rfl, o3, rfl⟩
    have hi : i = p.length := by
      have h1 : (List.range (n - s1.co))[p.length]? = some i := by rw [e2]; simp
      rw [List.getElem?_range (by have := congrArg List.length e2; simp at this; omega)] at h1
      exact (Option.some.inj h1).symm
    have hpl : p.length < n - s1.co := by have := congrArg List.length e2; simp at this; omega
    subst hi
    refine ⟨_, [2], bind_name 2, ?_⟩
    have hlen : ((s1.cur.take s1.co ++ List.replicate p.length e ++ s1.cur.drop (s1.co + p.length)).map g).length = n := by
      rw [List.length_map]
      simp only [List.length_append, List.length_take, List.length_replicate, List.length_drop]
      omega
    refine s_one (s_setItem (d := g e) (j := s1.co + p.length) _ (pv_v (d := .adr q) 1) (pv_v 2) (pv_fld (d := g e) _ E.l_Grid E.a_Grid_empty (pv_v 0) rfl (eI := eI _)) ?_ ?_ ((eC _).trans core_q))
    · rw [hlen]
      have e3 : ((s1.co : Int) + (p.length : Nat)) = ((s1.co + p.length : Nat) : Int) := by omega
      rw [e3]
      exact ixN_nat (by omega)
    · refine ⟨?_, _, rfl⟩
      rw [← List.map_set, er_step (by omega), List.length_append]
      exact core_setq.trans (eC { s1 with cur := s1.cur.take s1.co ++ List.replicate (p.length + 1) e ++ s1.cur.drop (s1.co + (p.length + 1)) }).symm
  · rintro δ' I' ⟨rfl, o3, rfl⟩
    rw [List.length_range, show s1.co + (n - s1.co) = s1.cur.length by omega, List.drop_length, List.append_nil]
    have this : Q .non (c.fill (iGrid K bl bj qs q g (sErase e s1) x dx n e)) := k bl bj qs q hq
    rw [show (sErase e s1) = { s1 with cur := s1.cur.take s1.co ++ List.replicate (n - s1.co) e } from by unfold sErase; rw [hcl]] at this
    exact this
theorem M_put (E : Env P w K mg base) : FnR P w K mg base (L2.CX P w) 2 (He.ma K (cG K) "put") (spD K sGPut) := mk_m_Grid_put E fun fd F => by
  refine fn_d F sc_m_Grid_put (fun I ds P R h => by obtain ⟨α, g, e, w, s, c, x, dx, bl, bj, q, qs, xs, f, m, rfl, ⟨z, rfl, _⟩, _⟩ := h; rfl) fun cdv A outer s0 H EE hr tk po I ds Q R h => ?_
  obtain ⟨α, g, e, n, s1, c, x, dx, bl, bj, q, qs, xs, f, m, rfl, ⟨z, rfl, rfl, rfl⟩, rfl, ok1, hq, hz, _, k⟩ := h
  have nd := sc_m_Grid_put.nd
  have hu := hr.units
  have hr1 : Room 1 _ := hr
  have eI : ∀ (bl bj : Addr) (qs : List Addr) (q : Addr) (s : Scr α), c.fill (iGrid K bl bj qs q g s x dx n e) = (c.comp (.l .here (iCore K bl bj qs q g s))).fill (iIns K x (cG K) dx (grF n g e bl bj s)) := fun bl bj qs q s => grid_ins
  have eC : ∀ (bl bj : Addr) (qs : List Addr) (q : Addr) (s : Scr α), c.fill (iGrid K bl bj qs q g s x dx n e) = (c.comp (.r (iIns K x (cG K) dx (grF n g e bl bj s)) .here)).fill (iCore K bl bj qs q g s) := fun bl bj qs q s => grid_core
  have lBl : ∀ (bl bj : Addr) (qs : List Addr) (q : Addr) (s : Scr α), LsI (c.fill (iGrid K bl bj qs q g s x dx n e)) (.adr bl) ((qs ++ [q]).map D.adr) := fun bl bj qs q s => LsI.m _ ((eC bl bj qs q s).trans core_bl)
  refine s_cons (s_joint (fun δ' I' => ∃ bl bj qs q, qs.length = (sWrap n e s1).up.length ∧ I' = c.fill (iGrid K bl bj qs q g (sWrap n e s1) x dx n e) ∧ δ' = [some (.adr x), some (g z), none]) (s_ifP (pt_eq hu (pv_fld (d := .int (s1.co : Nat)) _ E.l_Grid E.a_Grid_column (pv_v 0) rfl (eI := eI bl bj qs q s1)) (pv_fld (d := .int n) _ E.l_Grid E.a_Grid_span (pv_v 0) rfl (eI := eI bl bj qs q s1)) trivial) (fun h => ?_) fun h => s_nil ?_) ?_)
  · have h : s1.co = n := by
      have h := of_decide_eq_true h
      omega
    have e3 : sWrap n e s1 = sDown n e true s1 := by unfold sWrap; rw [if_pos h]
    rw [e3]
    exact s_one (s_expr (ev_methA tk ⟨fun f => E.l_Grid.get f⟩ E.h_Grid_leave.f E.h_Grid_leave.i E.h_Grid_leave.k (M_leave E) hr1 (PV.ev (d := .adr x) (pv_v 0) ⟨insD_ins _ rfl (eI bl bj qs q s1), ea_cons (pv_bl.ev (ea_nil ⟨α, g, e, n, s1, c, x, dx, bl, bj, q, qs, _, _, 1, rfl, ⟨true, rfl, rfl, rfl⟩, rfl, ok1, hq, hz, trivial, fun bl' bj' qs' q' h' => ⟨bl', bj', qs', q', h', rfl, rfl⟩⟩))⟩)))
  · have h : s1.co ≠ n := by
      have h := of_decide_eq_false h
      omega
    have e3 : sWrap n e s1 = s1 := by unfold sWrap; rw [if_neg h]
    rw [e3]
    exact ⟨bl, bj, qs, q, hq, rfl, rfl⟩
  clear bl bj qs q hq
  rintro δ' I' ⟨bl, bj, qs, q, hq, rfl, rfl⟩
  obtain ⟨ok2, hc2⟩ := ok1.wrap (e := e)
  have k : ∀ bl' bj' qs' q', qs'.length = (sPut1 z (sWrap n e s1)).up.length → Q .non (c.fill (iGrid K bl' bj' qs' q' g (sPut1 z (sWrap n e s1)) x dx n e)) := k
  generalize sWrap n e s1 = s2 at *
  have hcl := ok2.cl
  refine s_cons (s_setP (d := .adr q) 2 (pv_ix ix_list (pv_fld (d := .adr bl) _ E.l_Grid E.a_Grid_cells (pv_v 0) rfl (eI := eI bl bj qs q s2)) (pv_fld (d := .int (s2.up.length : Nat)) _ E.l_Grid E.a_Grid_row (pv_v 0) rfl (eI := eI bl bj qs q s2)) (p2_ixI (lBl bl bj qs q s2) (rowQ hq))) ?_)
  refine s_cons (s_setItem (d := g z) (j := s2.co) _ (pv_v (d := .adr q) 2) (pv_fld (d := .int (s2.co : Nat)) _ E.l_Grid E.a_Grid_column (pv_v 0) rfl (eI := eI bl bj qs q s2)) (pv_v (d := g z) 1) (ixN_nat (by rw [List.length_map]; omega)) ?_ ((eC bl bj qs q s2).trans core_q))
  rw [← List.map_set]
  refine SX.eq (core_setq.trans (eC bl bj qs q { s2 with cur := s2.cur.set s2.co z }).symm) ?_
  refine s_one (s_fldaug (z := .int 1) _ E.l_Grid E.a_Grid_column in_add (pv_v 0) rfl pv_int p2_addA ?_ (eI := eI bl bj qs q { s2 with cur := s2.cur.set s2.co z }))
  have k := k bl bj qs q hq
  rw [grid_ins] at k
  exact k
theorem M_word (E : Env P w K mg base) : FnR P w K mg base (L2.CX P w) 2 (He.ma K (cG K) "do_word") (spD K sGWord) := mk_m_Grid_do_word E fun fd F => by
  refine fn_d F sc_m_Grid_do_word (fun I ds P R h => by obtain ⟨α, g, e, w, s, c, x, dx, bl, bj, q, qs, xs, f, m, rfl, ⟨z, rfl, _⟩, _⟩ := h; rfl) fun cdv A outer s0 H EE hr tk po I ds Q R h => ?_
  obtain ⟨α, g, e, n, s1, c, x, dx, bl, bj, q, qs, xs, f, m, rfl, ⟨wd, rfl, rfl, rfl⟩, rfl, ok1, hq, hz, _, k⟩ := h
  have nd := sc_m_Grid_do_word.nd
  have hu := hr.units
  have hr1 : Room 1 _ := hr
  have eI : ∀ s : Scr α, c.fill (iGrid K bl bj qs q g s x dx n e) = (c.comp (.l .here (iCore K bl bj qs q g s))).fill (iIns K x (cG K) dx (grF n g e bl bj s)) := fun s => grid_ins
  refine s_one (s_match (pv_v 1) (mx_str (fun h => ?_) fun h1 => mx_str (fun h => ?_) fun h2 => mx_str (fun h => ?_) fun h3 => mx_str (fun h => ?_) fun h4 => mx_str (fun h => ?_) fun h5 => mx_nil ?_))
  · refine s_one (s_fldP _ E.l_Grid E.a_Grid_column (pv_v 0) pv_int ?_ (eI := eI s1))
    have k := k bl bj qs q
    have ek : sWord n e wd s1 = { s1 with co := 0 } := by
      subst h
      obtain ⟨d0, d1, d2, d3, d4, d5, d6, d7, d8, d9, d10, d11, d12, d13, d14, d15, d16, d17, d18, d19⟩ := wds_ne
      unfold sWord sWord1 sWord2 sWord3
      simp [sErase, d0, d1, d2, d3, d4, d5, d6, d7, d8, d9, d10, d11, d12, d13, d14, d15, d16, d17, d18, d19]
    simp only [ek] at k
    have k := k hq
    rw [grid_ins] at k
    exact k
  · refine s_cons (s_fldP _ E.l_Grid E.a_Grid_column (pv_v 0) pv_int ?_ (eI := eI s1))
    have ek : sWord n e wd s1 = sErase e { s1 with co := 0 } := by
      subst h
      obtain ⟨d0, d1, d2, d3, d4, d5, d6, d7, d8, d9, d10, d11, d12, d13, d14, d15, d16, d17, d18, d19⟩ := wds_ne
      unfold sWord sWord1 sWord2 sWord3
      simp [sErase, d0, d1, d2, d3, d4, d5, d6, d7, d8, d9, d10, d11, d12, d13, d14, d15, d16, d17, d18, d19]
    have k : ∀ bl' bj' qs' q', qs'.length = (sWord n e wd s1).up.length → Q .non (c.fill (iGrid K bl' bj' qs' q' g (sWord n e wd s1) x dx n e)) := k
    rw [ek] at k
    refine SX.eq (show _ = c.fill (iGrid K bl bj qs q g { s1 with co := 0 } x dx n e) from (eI { s1 with co := 0 }).symm) ?_
    exact s_one (s_expr (ev_meth0 tk ⟨fun f => E.l_Grid.get f⟩ E.h_Grid_erase.f E.h_Grid_erase.i E.h_Grid_erase.k (M_erase E) hr1 (PV.ev (d := .adr x) (pv_v 0) ⟨insD_ins _ rfl (eI { s1 with co := 0 }), ⟨α, g, e, n, { s1 with co := 0 }, c, x, dx, bl, bj, q, qs, _, _, 0, rfl, ⟨rfl, rfl, rfl⟩, rfl, ⟨ok1.w1, ok1.w99, ok1.cl, ok1.ul, ok1.jl, ok1.j0, Nat.zero_le _⟩, hq, by show s1.up.length + 0 ≤ _; omega, trivial, fun bl' bj' qs' q' h' => k bl' bj' qs' q' h'⟩⟩)))
  · have ek : sWord n e wd s1 = sErase e s1 := by
      subst h
      obtain ⟨d0, d1, d2, d3, d4, d5, d6, d7, d8, d9, d10, d11, d12, d13, d14, d15, d16, d17, d18, d19⟩ := wds_ne
      unfold sWord sWord1 sWord2 sWord3
      simp [sErase, d0, d1, d2, d3, d4, d5, d6, d7, d8, d9, d10, d11, d12, d13, d14, d15, d16, d17, d18, d19]
    have k : ∀ bl' bj' qs' q', qs'.length = (sWord n e wd s1).up.length → Q .non (c.fill (iGrid K bl' bj' qs' q' g (sWord n e wd s1) x dx n e)) := k
    rw [ek] at k
    exact s_one (s_expr (ev_meth0 tk ⟨fun f => E.l_Grid.get f⟩ E.h_Grid_erase.f E.h_Grid_erase.i E.h_Grid_erase.k (M_erase E) hr1 (PV.ev (d := .adr x) (pv_v 0) ⟨insD_ins _ rfl (eI s1), ⟨α, g, e, n, s1, c, x, dx, bl, bj, q, qs, _, _, 0, rfl, ⟨rfl, rfl, rfl⟩, rfl, ok1, hq, by omega, trivial, fun bl' bj' qs' q' h' => k bl' bj' qs' q' h'⟩⟩)))
  · have ek : sWord n e wd s1 = sDown n e false s1 := by
      subst h
      obtain ⟨d0, d1, d2, d3, d4, d5, d6, d7, d8, d9, d10, d11, d12, d13, d14, d15, d16, d17, d18, d19⟩ := wds_ne
      unfold sWord sWord1 sWord2 sWord3
      simp [sErase, d0, d1, d2, d3, d4, d5, d6, d7, d8, d9, d10, d11, d12, d13, d14, d15, d16, d17, d18, d19]
    have k : ∀ bl' bj' qs' q', qs'.length = (sWord n e wd s1).up.length → Q .non (c.fill (iGrid K bl' bj' qs' q' g (sWord n e wd s1) x dx n e)) := k
    rw [ek] at k
    exact s_one (s_expr (ev_methA tk ⟨fun f => E.l_Grid.get f⟩ E.h_Grid_leave.f E.h_Grid_leave.i E.h_Grid_leave.k (M_leave E) hr1 (PV.ev (d := .adr x) (pv_v 0) ⟨insD_ins _ rfl (eI s1), ea_cons (pv_bl.ev (ea_nil ⟨α, g, e, n, s1, c, x, dx, bl, bj, q, qs, _, _, 1, rfl, ⟨false, rfl, rfl, rfl⟩, rfl, ok1, hq, hz, trivial, fun bl' bj' qs' q' h' => k bl' bj' qs' q' h'⟩))⟩)))
  · refine s_one (s_ifP (DL.pt_cmp op_gt (pv_fld (d := .int (s1.co : Nat)) _ E.l_Grid E.a_Grid_column (pv_v 0) rfl (eI := eI s1)) pv_int p2_gt) (fun hh => ?_) fun hh => s_nil ?_)
    · have hh : (0 : Int) < (s1.co : Int) := of_decide_eq_true hh
      have ek : sWord n e wd s1 = sDown n e false s1 := by
        subst h
        have : 0 < s1.co := by omega
        obtain ⟨d0, d1, d2, d3, d4, d5, d6, d7, d8, d9, d10, d11, d12, d13, d14, d15, d16, d17, d18, d19⟩ := wds_ne
        unfold sWord sWord1 sWord2 sWord3
        simp [sErase, this, d0, d1, d2, d3, d4, d5, d6, d7, d8, d9, d10, d11, d12, d13, d14, d15, d16, d17, d18, d19]
      have k : ∀ bl' bj' qs' q', qs'.length = (sWord n e wd s1).up.length → Q .non (c.fill (iGrid K bl' bj' qs' q' g (sWord n e wd s1) x dx n e)) := k
      rw [ek] at k
      exact s_one (s_expr (ev_methA tk ⟨fun f => E.l_Grid.get f⟩ E.h_Grid_leave.f E.h_Grid_leave.i E.h_Grid_leave.k (M_leave E) hr1 (PV.ev (d := .adr x) (pv_v 0) ⟨insD_ins _ rfl (eI s1), ea_cons (pv_bl.ev (ea_nil ⟨α, g, e, n, s1, c, x, dx, bl, bj, q, qs, _, _, 1, rfl, ⟨false, rfl, rfl, rfl⟩, rfl, ok1, hq, hz, trivial, fun bl' bj' qs' q' h' => k bl' bj' qs' q' h'⟩))⟩)))
    · have hh : ¬ (0 : Int) < (s1.co : Int) := of_decide_eq_false hh
      have ek : sWord n e wd s1 = s1 := by
        subst h
        have : s1.co = 0 := by omega
        obtain ⟨d0, d1, d2, d3, d4, d5, d6, d7, d8, d9, d10, d11, d12, d13, d14, d15, d16, d17, d18, d19⟩ := wds_ne
        unfold sWord sWord1 sWord2 sWord3
        simp [sErase, this, d0, d1, d2, d3, d4, d5, d6, d7, d8, d9, d10, d11, d12, d13, d14, d15, d16, d17, d18, d19]
      have k := k bl bj qs q
      simp only [ek] at k
      exact k hq
  · have ek : sWord n e wd s1 = s1 := by
      unfold sWord sWord1 sWord2 sWord3
      simp [h1, h2, h3, h4, h5]
    have k := k bl bj qs q
    simp only [ek] at k
    exact k hq
theorem M_perf (E : Env P w K mg base) : FnR P w K mg base (L2.CX P w) 3 (He.ma K (cG K) "perform") (spD K sGPerf) := mk_m_Grid_perform E fun fd F => by
  refine fn_d F sc_m_Grid_perform (fun I ds P R h => by obtain ⟨α, g, e, w, s, c, x, dx, bl, bj, q, qs, xs, f, m, rfl, ⟨zs, kk, tt, ll, ee, rfl, _⟩, _⟩ := h; rfl) fun cdv A outer s0 H EE hr tk po I ds Q R h => ?_
  obtain ⟨α, g, e, n, s1, c, x, dx, bl, bj, q, qs, xs, f, m, rfl, ⟨zs, kk, tt, ll, ee, rfl, rfl, rfl⟩, rfl, ok1, hq, hz, _, k⟩ := h
  have nd := sc_m_Grid_perform.nd
  have hr2 : Room 2 _ := hr
  have eI : ∀ (bl bj : Addr) (qs : List Addr) (q : Addr) (s : Scr α), c.fill (iGrid K bl bj qs q g s x dx n e) = (c.comp (.l .here (iCore K bl bj qs q g s))).fill (iIns K x (cG K) dx (grF n g e bl bj s)) := fun bl bj qs q s => grid_ins
  have wr : PySem.W.Frag := K
  have hu1 := up_word (w := n) (e := e) (wd := ll) (s := s1)
  refine s_cons (s_expr (ev_methA tk ⟨fun f => E.l_Grid.get f⟩ E.h_Grid_do_word.f E.h_Grid_do_word.i E.h_Grid_do_word.k (M_word E) hr2 (PV.ev (d := .adr x) (pv_v 0) ⟨insD_ins _ rfl (eI bl bj qs q s1), ea_cons ((pv_wlead E hr2 (pv_v (d := wD K kk tt ll ee) 1)).ev (ea_nil ⟨α, g, e, n, s1, c, x, dx, bl, bj, q, qs, _, _, 1, rfl, ⟨ll, rfl, rfl, rfl⟩, rfl, ok1, hq, by omega, trivial, ?_⟩))⟩)))
  clear bl bj qs q hq
  intro bl bj qs q hq
  have ok2 : SOk n (sWord n e ll s1) := ok1.word
  have hz2 : (sWord n e ll s1).up.length + zs.length + 1 ≤ 10000 := by omega
  have k : ∀ bl' bj' qs' q', qs'.length = (sWord n e ee (sType n e (sWord n e ll s1) zs)).up.length → Q .non (c.fill (iGrid K bl' bj' qs' q' g (sWord n e ee (sType n e (sWord n e ll s1) zs)) x dx n e)) := k
  have hq : qs.length = (sWord n e ll s1).up.length := hq
  refine SX.eq (show _ = c.fill (iGrid K bl bj qs q g (sWord n e ll s1) x dx n e) from rfl) ?_
  clear hu1 hz ok1
  generalize sWord n e ll s1 = s2 at *
  refine s_cons (s_forT (xs := zs) (g := g) po (vi_lst (pv_v (d := .lst (zs.map g)) 2)) (fun p δ' I' => ∃ bl bj qs q o3, qs.length = (sType n e s2 p).up.length ∧ I' = c.fill (iGrid K bl bj qs q g (sType n e s2 p) x dx n e) ∧ δ' = [some (.adr x), some (wD K kk tt ll ee), some (.lst (zs.map g)), o3]) ⟨bl, bj, qs, q, none, hq, rfl, rfl⟩ ?_ ?_)
  · rintro p z r δ' I' e2 ⟨bl, bj, qs, q, o3, hq, rfl, rfl⟩
    have es : sType n e s2 (p ++ [z]) = sPut n e (sType n e s2 p) z := by unfold sType; rw [List.foldl_append]; rfl
    have hz1 : (sType n e s2 p).up.length + 1 ≤ 10000 := by
      have h1 := up_type (w := n) (e := e) (s := s2) (xs := p)
      have h2 : p.length + 1 ≤ zs.length := by rw [e2, List.length_append, List.length_cons]; omega
      omega
    have ok3 : SOk n (sType n e s2 p) := ok2.type
    rw [es]
    refine ⟨_, [3], bind_name 3, ?_⟩
    exact s_one (s_expr (ev_methA tk ⟨fun f => E.l_Grid.get f⟩ E.h_Grid_put.f E.h_Grid_put.i E.h_Grid_put.k (M_put E) hr2 (PV.ev (d := .adr x) (pv_v 0) ⟨insD_ins _ rfl (eI bl bj qs q _), ea_cons ((pv_v (d := g z) 3).ev (ea_nil ⟨α, g, e, n, sType n e s2 p, c, x, dx, bl, bj, q, qs, _, _, 1, rfl, ⟨z, rfl, rfl, rfl⟩, rfl, ok3, hq, hz1, trivial, fun bl' bj' qs' q' h' => ⟨bl', bj', qs', q', some (g z), h', rfl, rfl⟩⟩))⟩)))
  · rintro δ' I' ⟨bl, bj, qs, q, o3, hq, rfl, rfl⟩
    have hu3 := up_type (w := n) (e := e) (xs := zs) (s := s2)
    exact s_one (s_expr (ev_methA tk ⟨fun f => E.l_Grid.get f⟩ E.h_Grid_do_word.f E.h_Grid_do_word.i E.h_Grid_do_word.k (M_word E) hr2 (PV.ev (d := .adr x) (pv_v 0) ⟨insD_ins _ rfl (eI bl bj qs q _), ea_cons ((pv_wtail E hr2 (pv_v (d := wD K kk tt ll ee) 1)).ev (ea_nil ⟨α, g, e, n, sType n e s2 zs, c, x, dx, bl, bj, q, qs, _, _, 1, rfl, ⟨ee, rfl, rfl, rfl⟩, rfl, ok2.type, hq, by omega, trivial, fun bl' bj' qs' q' h' => k bl' bj' qs' q' h'⟩))⟩)))
theorem M_grInit (E : Env P w K mg base) : ∃ fd, FnOk P w K mg base (L2.CX P w) 1 (He.ma K (cG K) "__init__") fd ["self", "width", "empty"] (spD K sGrInit) ∧ L2.Binds K fd ["self", "width", "empty"] [] := by
  obtain ⟨fd, F⟩ := E.has _ in_m_Grid_init
  have F : FunD K "__init__" "Grid.__init__" (defArgs m_Grid_init) (defBody m_Grid_init) (defScope m_Grid_init) [] [] (He.ma K (cG K) "__init__") fd := F
  refine ⟨fd, ?_, F.bindsN fun _ _ _ _ _ _ us hl => match us, hl with | [_, _, _], _ => rfl⟩
  refine fn_d F sc_m_Grid_init (fun I ds P R h => by obtain ⟨x, dx, J, α, g, e, w, rfl, _⟩ := h; rfl) fun cdv A outer s H EE hr tk po I ds Q R h => ?_
  obtain ⟨x, dx, J, α, g, e, n, rfl, rfl, w99, k⟩ := h
  refine SX.k ?_
  refine s_cons (s_fldP (.r J .here) E.l_Grid E.a_Grid_span (pv_v 0) (pv_v (d := .int n) 1) ?_)
  refine s_cons (s_fldP (.r J .here) E.l_Grid E.a_Grid_empty (pv_v 0) (pv_v (d := g e) 2) ?_)
  refine s_cons (s_fld E.l_Grid E.a_Grid_cells (ev_lstMM (ea_cons (ev_op op_rep (ev_lstMM (ea_cons ((pv_v (d := g e) 2).ev (ea_nil ⟨by simp, fun p1 _ => (pv_v (d := .int n) 1).ev (o2_repM (LsI.m (.r _ .here) rfl) (by simp; omega) (by omega) fun q1 => ea_nil ⟨by simp, fun bl _ => ⟨.l (.l (.l (.r J .here) (iLst K p1 [g e])) (iLst K q1 _)) (iLst K bl _), x, dx, _, rfl, pv_v 0, of_decide_eq_true (by rfl), ?_⟩⟩)⟩))))))))
  rw [rep_one]
  refine s_cons (s_fld E.l_Grid E.a_Grid_joined (ev_lstMM (ea_cons (pv_bl.ev (ea_nil ⟨by simp, fun bj _ => ⟨.l (.l (.l (.l (.r J .here) (iLst K p1 [g e])) (iLst K q1 _)) (iLst K bl _)) (iLst K bj _), x, dx, _, rfl, pv_v 0, of_decide_eq_true (by rfl), ?_⟩⟩)))))
  refine s_cons (s_fldP (.l (.l (.l (.l (.r J .here) (iLst K p1 [g e])) (iLst K q1 _)) (iLst K bl _)) (iLst K bj _)) E.l_Grid E.a_Grid_row (pv_v 0) pv_int ?_)
  refine s_one (s_fldP (.l (.l (.l (.l (.r J .here) (iLst K p1 [g e])) (iLst K q1 _)) (iLst K bl _)) (iLst K bj _)) E.l_Grid E.a_Grid_column (pv_v 0) pv_int ?_)
  refine ⟨_, ?_, k bl bj q1⟩
  exact Wk.re [J, iIns K x (cG K) dx (grF n g e bl bj (sNew n e)), iLst K p1 [g e], iLst K q1 ((List.replicate n e).map g), iLst K bl [.adr q1], iLst K bj [.bl false]] (0 + 1 + 2 + 3 + 4 + 5) (0 + (1 + (4 + (5 + (9 + 3)))))
end
end LK
set_option Elab.async false
set_option linter.all false
set_option maxRecDepth 100000
set_option maxHeartbeats 1000000
namespace LK
open PySem PySem.Spec PyProof.Rows L2 DL
section
variable {X : Cx} {W : WX} {R : Rx X.K} {I : Iv X.K} {e : Expr} {δ : DEnv} {P : D → Iv X.K → Prop} {pos apos : Pos} {t : Tb}
end
end LK
set_option Elab.async false
set_option linter.all false
set_option maxRecDepth 100000
set_option maxHeartbeats 1000000
namespace LK
open PySem PySem.Spec PyProof.Rows L2 DL
def rowOf (t : Tb) (n : Str) : Option (List Wr) := (t.find? fun p => decide (p.1 = n)).map (·.2)
theorem rowOf_some {t : Tb} (nd : (t.map (·.1)).Nodup) {p : Str × List Wr} (hp : p ∈ t) : rowOf t p.1 = some p.2 := by
  unfold rowOf
  cases h : t.find? fun q => decide (q.1 = p.1) with
  | none => exact absurd (List.find?_eq_none.mp h p hp) (by simp)
  | some q =>
    have h1 := List.mem_of_find?_eq_some h
    have h2 : q.1 = p.1 := by simpa using List.find?_some h
    rw [nd_inj nd h1 hp h2]; rfl
def total (t : Tb) : Nat := (t.map fun p => p.2.length).sum
section
variable {P : Program} {w : World} {K : PySem.W.Frag} {mg : Str → Option Value} {base : Heap}
end
section
variable {X : Cx} {W : WX} {R : Rx X.K} {I : Iv X.K} {a b : Expr} {δ : DEnv} {P : D → Iv X.K → Prop} {pos p : Pos} {t : Tb} {n : Str} {ws : List Wr}
end
end LK
set_option Elab.async false
set_option linter.all false
set_option maxRecDepth 100000
set_option maxHeartbeats 1000000
namespace LK
open PySem PySem.Spec PyProof.Rows L2 DL
abbrev cO (K : PySem.W.Frag) : Addr := He.ga K "Course"
abbrev nmT (t : Tb) : List Str := t.map (·.1)
abbrev coF (K : PySem.W.Frag) (t : Tb) (hs : List (Str × Nat)) (q : Addr) : List (Str × D) := [("troupe", cD K t), ("titles", .tub ((nmT t).map D.str)), ("holds", .tup (hs.map pairD)), ("many", .adr q)]
def cAt (cs : List Nat) (i : Nat) : Nat := (cs[i]?).getD 0
def readyS (t : Tb) (cs : List Nat) (b : Str) : List Str := (((nmT t).zipIdx.filter fun p => decide (cAt cs p.2 < ((rowOf t p.1).getD []).length)).map (·.1)).filter fun n => decide (b = "") || decide (b = n)
def afterC (t : Tb) (cs : List Nat) (n : Str) : List Nat := cs.set ((nmT t).idxOf n) (cAt cs ((nmT t).idxOf n) + 1)
def afterB (t : Tb) (hs : List (Str × Nat)) (cs : List Nat) (n : Str) : Str := if (n, cAt cs ((nmT t).idxOf n)) ∈ hs then n else ""
structure CoI {K : PySem.W.Frag} (I : Iv K) (x : Addr) (t : Tb) (hs : List (Str × Nat)) : Prop where
  ex : ∃ (c : Rc K) (dx q : Addr), I = c.fill (iIns K x (cO K) dx (coF K t hs q))
theorem TbOk.tot {t : Tb} (o : TbOk t) : total t ≤ 48 := by
  have h : ∀ {s : Tb}, (∀ p ∈ s, p ∈ t) → total s ≤ 8 * s.length := by
    intro s
    induction s with
    | nil => intro _; simp [total]
    | cons p s ih =>
      intro h
      have h1 := (o.row p (h p (by simp))).m
      have h2 := ih fun q hq => h q (by simp [hq])
      show p.2.length + total s ≤ 8 * (s.length + 1)
      omega
  have := h (s := t) fun p hp => hp
  have := o.m
  omega
section
variable {P : Program} {w : World} {K : PySem.W.Frag} {mg : Str → Option Value} {base : Heap}
end
end LK
set_option Elab.async false
set_option linter.all false
set_option maxRecDepth 100000
set_option maxHeartbeats 1000000
namespace LK
open PySem PySem.Spec PyProof.Rows L2 DL
def st0 (t : Tb) : List Nat × Str := (List.replicate t.length 0, "")
structure Whole (t : Tb) (ns : List Str) : Prop where
  sub : ∀ n ∈ ns, n ∈ nmT t
  cnt : ∀ p ∈ t, ns.count p.1 = p.2.length
def posOf (ns : List Str) (n : Str) : List Nat := (ns.zipIdx.filter fun p => decide (p.1 = n)).map (·.2)
def brk (ns : List Str) (q : Str × Nat) : Bool := decide ((posOf ns q.1).getD q.2 0 + 1 < (posOf ns q.1).getD (q.2 + 1) 0)
end LK
set_option Elab.async false
set_option linter.all false
set_option maxRecDepth 100000
set_option maxHeartbeats 1000000
namespace LK
open PySem PySem.Spec PyProof.Rows L2 DL
section
variable {X : Cx} {W : WX} {R : Rx X.K} {I : Iv X.K} {o a b e : Expr} {δ : DEnv} {P : D → Iv X.K → Prop} {pos apos p : Pos} {t : Tb} {hs : List (Str × Nat)} {x : Addr} {cs : List Nat} {n : Str}
theorem CoI.ins {m : Str} (h : CoI I x t hs) (hm : ∀ q : Addr, (coF X.K t hs q).lookup m = none := by intro _; rfl) : InsD (cO X.K) m (.adr x) I := by
  obtain ⟨c, dx, q, rfl⟩ := h.ex
  exact insD_ins c (hm q)
end
theorem ready_nm {t : Tb} {cs : List Nat} {b n : Str} (h : n ∈ readyS t cs b) : n ∈ nmT t := by
  unfold readyS at h
  obtain ⟨h, _⟩ := List.mem_filter.mp h
  obtain ⟨p, hp, rfl⟩ := List.mem_map.mp h
  exact List.mem_of_getElem? (mem_zipIdx (x := p.1) (i := p.2) (List.mem_filter.mp hp).1)
section
variable {P : Program} {w : World} {K : PySem.W.Frag} {mg : Str → Option Value} {base : Heap}
end
end LK
set_option Elab.async false
set_option linter.all false
set_option maxRecDepth 100000
set_option maxHeartbeats 1000000
namespace LK
open PySem PySem.Spec PyProof.Rows L2 DL
def cntS (t : Tb) (hs : List (Str × Nat)) : Nat → List Nat → Str → Nat
  | 0, cs, _ => if cs.sum = total t then 1 else 0
  | n + 1, cs, b => if cs.sum = total t then 1 else ((readyS t cs b).map fun m => cntS t hs n (afterC t cs m) (afterB t hs cs m)).sum
def cnt (t : Tb) (hs : List (Str × Nat)) (cs : List Nat) (b : Str) : Nat := cntS t hs (total t - cs.sum) cs b
structure VS (t : Tb) (cs : List Nat) (b : Str) : Prop where
  len : cs.length = t.length
  le : ∀ i p, t[i]? = some p → cAt cs i ≤ p.2.length
  bd : b = "" ∨ b ∈ nmT t
def keyOf (cs : List Nat) (b : Str) : NestedKey := .tup [.tup (cs.map fun n : Nat => .num n), .text b]
theorem keyOf_inj {cs ds : List Nat} {b e : Str} (h : keyOf cs b = keyOf ds e) : cs = ds ∧ b = e := by
  unfold keyOf at h
  injection h with h
  injection h with h1 h2
  injection h1 with h1
  injection h2 with h2
  injection h2 with h2
  refine ⟨?_, h2⟩
  clear h2
  induction cs generalizing ds with
  | nil => cases ds with
    | nil => rfl
    | cons _ _ => cases h1
  | cons c cs ih => cases ds with
    | nil => cases h1
    | cons d ds =>
      injection h1 with h3 h4
      injection h3 with h3
      rw [ih h4]
      congr 1; omega
structure MemoOk (t : Tb) (hs : List (Str × Nat)) (kds : List (NestedKey × D)) : Prop where
  nd : (kds.map (·.1)).Nodup
  at_ : ∀ p ∈ kds, ∃ cs b, VS t cs b ∧ p = (keyOf cs b, .int (cnt t hs cs b))
def Grow (kds kds' : List (NestedKey × D)) (m : Nat) : Prop := ∀ p ∈ kds', p ∈ kds ∨ ∃ cs b, p.1 = keyOf cs b ∧ m ≤ cs.sum
theorem sum_le_rows : ∀ (cs rs : List Nat), cs.length = rs.length → (∀ (i : Nat) (c r : Nat), cs[i]? = some c → rs[i]? = some r → c ≤ r) → cs.sum ≤ rs.sum
  | [], [], _, _ => Nat.le_refl _
  | c :: cs, r :: rs, hl, h => by
    rw [List.sum_cons, List.sum_cons]
    have h1 := h 0 c r rfl rfl
    have h2 := sum_le_rows cs rs (by simpa using hl) fun i c r hc hr => h (i + 1) c r (by simpa using hc) (by simpa using hr)
    omega
  | [], _ :: _, hl, _ => by simp at hl
  | _ :: _, [], hl, _ => by simp at hl
theorem sum_set1 : ∀ (cs : List Nat) (i : Nat), i < cs.length → (cs.set i (cAt cs i + 1)).sum = cs.sum + 1
  | c :: cs, 0, _ => by
    show (c + 1) + cs.sum = c + cs.sum + 1
    omega
  | c :: cs, i + 1, h => by
    have ih := sum_set1 cs i (by simpa using h)
    have e : cAt (c :: cs) (i + 1) = cAt cs i := by unfold cAt; simp
    rw [e]
    show c + (cs.set i (cAt cs i + 1)).sum = c + cs.sum + 1
    omega
theorem VS.sum {t : Tb} {cs : List Nat} {b : Str} (v : VS t cs b) : cs.sum ≤ total t := by
  unfold total
  refine sum_le_rows cs _ (by rw [List.length_map]; exact v.len) fun i c r hc hr => ?_
  rw [List.getElem?_map] at hr
  cases e : t[i]? with
  | none => rw [e] at hr; cases hr
  | some p =>
    rw [e] at hr
    have := v.le i p e
    unfold cAt at this
    rw [hc] at this
    cases hr
    exact this
theorem VS.start (t : Tb) : VS t (st0 t).1 (st0 t).2 := by
  refine ⟨by unfold st0; simp, fun i p hp => ?_, .inl rfl⟩
  unfold st0 cAt
  show ((List.replicate t.length 0)[i]?).getD 0 ≤ _
  rw [List.getElem?_replicate]
  split <;> simp
theorem ready_at {t : Tb} (o : TbOk t) {cs : List Nat} {b m : Str} (hm : m ∈ readyS t cs b) : ∃ i p, t[i]? = some p ∧ p.1 = m ∧ (nmT t).idxOf m = i ∧ cAt cs i < p.2.length := by
  unfold readyS at hm
  obtain ⟨h, _⟩ := List.mem_filter.mp hm
  obtain ⟨⟨n, i⟩, hp, rfl⟩ := List.mem_map.mp h
  obtain ⟨hz, hc⟩ := List.mem_filter.mp hp
  have hg := mem_zipIdx hz
  have hg2 := hg
  rw [List.getElem?_map] at hg
  cases e : t[i]? with
  | none => rw [e] at hg; cases hg
  | some p =>
    rw [e] at hg
    have en : p.1 = n := Option.some.inj hg
    refine ⟨i, p, e, en, ?_, ?_⟩
    · have hl := (List.getElem?_eq_some_iff.mp hg2).1
      have hv := (List.getElem?_eq_some_iff.mp hg2).2
      have nd : (nmT t).Nodup := o.nd
      have hi := List.idxOf_lt_length_of_mem (List.mem_of_getElem? hg2)
      have e2 : (nmT t)[(nmT t).idxOf n] = n := List.getElem_idxOf hi
      exact (List.getElem_inj nd).mp (e2.trans hv.symm)
    · have hw : rowOf t n = some p.2 := by rw [← en]; exact rowOf_some o.nd (List.mem_of_getElem? e)
      have hc : decide (cAt cs i < ((rowOf t n).getD []).length) = true := hc
      rw [hw] at hc
      exact of_decide_eq_true hc
theorem VS.after {t : Tb} (o : TbOk t) {hs : List (Str × Nat)} {cs : List Nat} {b m : Str} (v : VS t cs b) (hm : m ∈ readyS t cs b) : VS t (afterC t cs m) (afterB t hs cs m) ∧ (afterC t cs m).sum = cs.sum + 1 := by
  obtain ⟨i, p, hp, e1, e2, hlt⟩ := ready_at o hm
  have hi : i < cs.length := by rw [v.len]; exact (List.getElem?_eq_some_iff.mp hp).1
  unfold afterC
  rw [e2]
  refine ⟨⟨by rw [List.length_set]; exact v.len, fun j r hr => ?_, ?_⟩, sum_set1 cs i hi⟩
  · unfold cAt
    rw [List.getElem?_set]
    by_cases hj : i = j
    · subst hj
      rw [if_pos rfl, if_pos hi]
      rw [hp] at hr
      cases hr
      exact hlt
    · rw [if_neg hj]
      exact v.le j r hr
  · unfold afterB
    split
    · exact .inr (ready_nm hm)
    · exact .inl rfl
theorem nodup_len {α : Type} : ∀ {l m : List α}, l.Nodup → (∀ x ∈ l, x ∈ m) → l.length ≤ m.length
  | [], _, _, _ => Nat.zero_le _
  | x :: l, m, nd, h => by
    classical
    obtain ⟨h1, h2⟩ := List.nodup_cons.mp nd
    have hx := h x (by simp)
    have h3 := nodup_len (l := l) (m := m.erase x) h2 fun y hy => (List.mem_erase_of_ne (fun e => h1 (by rw [← e]; exact hy))).mpr (h y (by simp [hy]))
    have h4 := List.length_erase_of_mem hx
    have h5 := List.length_pos_of_mem hx
    rw [List.length_cons]; omega
def allCs : List Nat → List (List Nat)
  | [] => [[]]
  | r :: rs => (List.range (r + 1)).flatMap fun k => (allCs rs).map (k :: ·)
theorem allCs_mem : ∀ (cs rs : List Nat), cs.length = rs.length → (∀ (i : Nat) (c r : Nat), cs[i]? = some c → rs[i]? = some r → c ≤ r) → cs ∈ allCs rs
  | [], [], _, _ => by simp [allCs]
  | c :: cs, r :: rs, hl, h => by
    have h1 := h 0 c r rfl rfl
    have h2 := allCs_mem cs rs (by simpa using hl) fun i c r hc hr => h (i + 1) c r (by simpa using hc) (by simpa using hr)
    exact List.mem_flatMap.mpr ⟨c, List.mem_range.mpr (by omega), List.mem_map.mpr ⟨cs, h2, rfl⟩⟩
  | [], _ :: _, hl, _ => by simp at hl
  | _ :: _, [], hl, _ => by simp at hl
theorem sum_const {α : Type} (n : Nat) : ∀ l : List α, (l.map fun _ => n).sum = l.length * n
  | [] => by simp
  | _ :: l => by rw [List.map_cons, List.sum_cons, sum_const n l, List.length_cons, Nat.succ_mul]; omega
theorem allCs_len : ∀ (rs : List Nat), (∀ r ∈ rs, r ≤ 3) → (allCs rs).length ≤ 4 ^ rs.length
  | [], _ => Nat.le_refl _
  | r :: rs, h => by
    have h1 := h r (by simp)
    have h2 := allCs_len rs fun r hr => h r (by simp [hr])
    show ((List.range (r + 1)).flatMap fun k => (allCs rs).map (k :: ·)).length ≤ 4 ^ (rs.length + 1)
    have e : ((List.range (r + 1)).flatMap fun k => (allCs rs).map (k :: ·)).length = (r + 1) * (allCs rs).length := by
      rw [List.length_flatMap]
      simp only [List.length_map]
      rw [sum_const, List.length_range]
    rw [e, Nat.pow_succ, Nat.mul_comm (4 ^ rs.length)]
    exact Nat.mul_le_mul (by omega) h2
structure Small (t : Tb) : Prop where
  s : ∀ p ∈ t, p.2.length ≤ 3
theorem MemoOk.len {t : Tb} (o : TbOk t) (sm : Small t) {hs : List (Str × Nat)} {kds : List (NestedKey × D)} (h : MemoOk t hs kds) : kds.length < 100000 := by
  have h1 : kds.length ≤ ((allCs (t.map fun p => p.2.length)).flatMap fun cs => ((("" : Str)) :: nmT t).map (keyOf cs)).length := by
    have := nodup_len (l := kds.map (·.1)) (m := (allCs (t.map fun p => p.2.length)).flatMap fun cs => ((("" : Str)) :: nmT t).map (keyOf cs)) h.nd fun k hk => by
      obtain ⟨p, hp, rfl⟩ := List.mem_map.mp hk
      obtain ⟨cs, b, v, e⟩ := h.at_ p hp
      rw [e]
      refine List.mem_flatMap.mpr ⟨cs, allCs_mem cs _ (by rw [List.length_map]; exact v.len) fun i c r hc hr => ?_, List.mem_map.mpr ⟨b, ?_, rfl⟩⟩
      · rw [List.getElem?_map] at hr
        cases e2 : t[i]? with
        | none => rw [e2] at hr; cases hr
        | some p =>
          rw [e2] at hr
          have := v.le i p e2
          unfold cAt at this
          rw [hc] at this
          cases hr
          exact this
      · rcases v.bd with hb | hb
        · rw [hb]; simp
        · exact List.mem_cons_of_mem _ hb
    rwa [List.length_map] at this
  have h2 : ((allCs (t.map fun p => p.2.length)).flatMap fun cs => ((("" : Str)) :: nmT t).map (keyOf cs)).length = (allCs (t.map fun p => p.2.length)).length * (t.length + 1) := by
    rw [List.length_flatMap]
    simp only [List.length_map, List.length_cons]
    rw [sum_const]
  have h3 := allCs_len (t.map fun p => p.2.length) fun r hr => by
    obtain ⟨p, hp, rfl⟩ := List.mem_map.mp hr
    exact sm.s p hp
  rw [List.length_map] at h3
  have h4 : 4 ^ t.length ≤ 4 ^ 6 := Nat.pow_le_pow_right (by decide) o.m
  have h5 := o.m
  have h6 : (allCs (t.map fun p => p.2.length)).length * (t.length + 1) ≤ 4096 * 7 := Nat.mul_le_mul (Nat.le_trans h3 (Nat.le_trans h4 (by decide))) (by omega)
  rw [h2] at h1
  omega
end LK
set_option Elab.async false
set_option linter.all false
set_option maxRecDepth 100000
set_option maxHeartbeats 1000000
namespace LK
open PySem PySem.Spec PyProof.Rows L2 DL
section
variable {P : Program} {w : World} {K : PySem.W.Frag} {c : Rc K} {x dx q : Addr} {t : Tb} {hs : List (Str × Nat)} {kds : List (NestedKey × D)}
end
theorem getN_mem {kds : List (NestedKey × D)} {k : NestedKey} {d : D} (h : getN kds k = some d) : (k, d) ∈ kds := by
  unfold getN at h
  cases e : kds.find? fun p => decide (p.1 = k) with
  | none => rw [e] at h; cases h
  | some p =>
    rw [e] at h
    have h1 := List.mem_of_find?_eq_some e
    have h2 : p.1 = k := by simpa using List.find?_some e
    cases h
    rw [← h2]; exact h1
theorem Grow.refl (kds : List (NestedKey × D)) (m : Nat) : Grow kds kds m := fun _ h => .inl h
theorem Grow.trans {a b c : List (NestedKey × D)} {m n : Nat} (h1 : Grow a b m) (h2 : Grow b c n) (hn : m ≤ n) : Grow a c m := fun p hp => by
  rcases h2 p hp with h | ⟨cs, b, e, hl⟩
  · exact h1 p h
  · exact .inr ⟨cs, b, e, by omega⟩
theorem Grow.weak {a b : List (NestedKey × D)} {m n : Nat} (h : Grow a b n) (hn : m ≤ n) : Grow a b m := fun p hp => (h p hp).imp id fun ⟨cs, b, e, hl⟩ => ⟨cs, b, e, by omega⟩
theorem MemoOk.val {t : Tb} {hs : List (Str × Nat)} {kds : List (NestedKey × D)} (h : MemoOk t hs kds) {cs : List Nat} {b : Str} {d : D} (hd : getN kds (keyOf cs b) = some d) : d = .int (cnt t hs cs b) := by
  obtain ⟨cs', b', _, e⟩ := h.at_ _ (getN_mem hd)
  obtain ⟨e1, e2⟩ := keyOf_inj (Prod.mk.inj e).1
  rw [(Prod.mk.inj e).2, e1, e2]
section
variable {P : Program} {w : World} {K : PySem.W.Frag} {mg : Str → Option Value} {base : Heap}
end
end LK
set_option Elab.async false
set_option linter.all false
set_option maxRecDepth 100000
set_option maxHeartbeats 1000000
namespace LK
open PySem PySem.Spec PyProof.Rows L2 DL
def sIsInt {K : PySem.W.Frag} : Spec K := fun I ds P _ => ∃ n : Int, ds = [.int n] ∧ P (.bl true) I
section
variable {P : Program} {w : World} {K : PySem.W.Frag} {mg : Str → Option Value} {base : Heap}
theorem D_is_integer (E : Env P w K mg base) : Def P w K mg base "is_integer" 1 ["value"] [] sIsInt := mk_f_is_integer E fun fd F => by
  refine fn_d F sc_f_is_integer (fun I ds P R h => by obtain ⟨n, rfl, _⟩ := h; rfl) fun cdv A outer s H EE hr tk po I ds Q R h => ?_
  obtain ⟨n, rfl, q⟩ := h
  exact s_one (s_retP (pv_andT (pv_cb call_isi E.b_isinstance (va_cons (pv_v 0) (va_cons (pv_gty (n := "int") E.b_int) va_nil)) (pn_isiT (t := "int") rfl)) (pv_one (pv_not (k := false) (pv_cb call_isi E.b_isinstance (va_cons (pv_v 0) (va_cons (pv_gty (n := "bool") E.b_bool) va_nil)) (pn_isiF (t := "int") rfl (by decide +kernel)))))) q)
end
end LK
set_option Elab.async false
set_option linter.all false
set_option maxRecDepth 100000
set_option maxHeartbeats 1000000
namespace LK
open PySem PySem.Spec PyProof.Rows L2 DL
theorem Small.tot {t : Tb} (o : TbOk t) (sm : Small t) : total t ≤ 18 := by
  have h : ∀ {s : Tb}, (∀ p ∈ s, p ∈ t) → total s ≤ 3 * s.length := by
    intro s
    induction s with
    | nil => intro _; simp [total]
    | cons p s ih =>
      intro h
      have h1 := sm.s p (h p (by simp))
      have h2 := ih fun q hq => h q (by simp [hq])
      show p.2.length + total s ≤ 3 * (s.length + 1)
      omega
  have := h (s := t) fun p hp => hp
  have := o.m
  omega
theorem MemoOk.nil {t : Tb} {hs : List (Str × Nat)} : MemoOk t hs [] := ⟨List.nodup_nil, fun p hp => nomatch hp⟩
section
variable {X : Cx} {W : WX} {R : Rx X.K} {I : Iv X.K} {o a b : Expr} {δ : DEnv} {PP : D → Iv X.K → Prop} {pos apos : Pos} {c : Rc X.K} {x dx q : Addr} {t : Tb} {hs : List (Str × Nat)} {kds : List (NestedKey × D)} {cs : List Nat} {n : Str}
end
section
variable {P : Program} {w : World} {K : PySem.W.Frag} {mg : Str → Option Value} {base : Heap}
end
end LK
set_option Elab.async false
set_option linter.all false
set_option maxRecDepth 100000
set_option maxHeartbeats 1000000
namespace LK
open PySem PySem.Spec PyProof.Rows L2 DL
end LK
set_option Elab.async false
set_option linter.all false
set_option maxRecDepth 100000
set_option maxHeartbeats 400000
namespace LK
open PySem PySem.Spec PyProof.Rows L2 DL
def ahead (t : Tb) (hs : List (Str × Nat)) (s : List Nat × Str) (pre : List Str) : Nat := (pre.map fun m => cnt t hs (afterC t s.1 m) (afterB t hs s.1 m)).sum
end LK
set_option Elab.async false
set_option linter.all false
set_option maxRecDepth 100000
set_option maxHeartbeats 400000
namespace LK
open PySem PySem.Spec PyProof.Rows L2 DL
end LK
set_option Elab.async false
set_option linter.all false
set_option maxRecDepth 100000
set_option maxHeartbeats 400000
namespace LK
open PySem PySem.Spec PyProof.Rows L2 DL
end LK
set_option Elab.async false
set_option linter.all false
set_option maxRecDepth 100000
set_option maxHeartbeats 400000
namespace LK
open PySem PySem.Spec PyProof.Rows L2 DL
end LK
set_option Elab.async false
set_option linter.all false
set_option maxRecDepth 100000
set_option maxHeartbeats 1000000
namespace LK
open PySem PySem.Spec PyProof.Rows L2 DL
end LK
set_option Elab.async false
set_option linter.all false
set_option maxRecDepth 100000
set_option maxHeartbeats 1000000
namespace LK
open PySem PySem.Spec PyProof.Rows L2 DL
abbrev Cell := Option (Str × Nat × Nat)
def noWr : Wr := ⟨"", "", "", ""⟩
def wrAt (t : Tb) (n : Str) (k : Nat) : Wr := ((rowOf t n).getD []).getD k noWr
structure Pg where
  s : Scr Cell
  ap : List (Str × Nat)
def thingsO (t : Tb) (n : Str) (k : Nat) : List Cell := (List.range (wrAt t n k).t.length).map fun j => some (n, k, j)
def scrStep (t : Tb) (few : List (Str × Nat)) (w : Nat) (s : Scr Cell) (n : Str) (k : Nat) : Scr Cell := if (n, k) ∈ few then sAbove w none s (thingsO t n k) else sWord w none (wrAt t n k).e (sType w none (sWord w none (wrAt t n k).l s) (thingsO t n k))
section
variable {t : Tb} {few : List (Str × Nat)} {w : Nat} {ns : List Str} {n : Str}
def Fits (t : Tb) (ns : List Str) : Prop := ∀ (p r : List Str) (n : Str), ns = p ++ n :: r → p.count n < lenT' t n
where lenT' (t : Tb) (n : Str) : Nat := ((rowOf t n).getD []).length
theorem Fits.pre {p r : List Str} (h : Fits t (p ++ r)) : Fits t p := fun a b n e => h a (b ++ r) n (by rw [e]; simp)
theorem SOk.step {s : Scr Cell} {k : Nat} (h : SOk w s) : SOk w (scrStep t few w s n k) := by
  unfold scrStep
  split
  · exact h.above
  · exact h.word.type.word
end
end LK
set_option Elab.async false
set_option linter.all false
set_option maxRecDepth 100000
set_option maxHeartbeats 400000
namespace LK
open PySem PySem.Spec PyProof.Rows L2 DL
def ScrAll {α : Type} (Q : α → Prop) (s : Scr α) : Prop := (∀ r ∈ s.up, ∀ c ∈ r, Q c) ∧ ∀ c ∈ s.cur, Q c
section
variable {α : Type} {Q : α → Prop} {s : Scr α} {w : Nat} {e x : α} {b : Bool} {wd : Str}
theorem mem_rep {n : Nat} (he : Q e) : ∀ c ∈ List.replicate n e, Q c := fun c hc => by rw [List.eq_of_mem_replicate hc]; exact he
theorem ScrAll.new (he : Q e) : ScrAll Q (sNew w e) := ⟨(fun r hr => nomatch hr), mem_rep he⟩
theorem ScrAll.down (h : ScrAll Q s) (he : Q e) : ScrAll Q (sDown w e b s) := ⟨fun r hr => by
  rcases List.mem_append.mp hr with hr | hr
  · exact h.1 r hr
  · rw [List.mem_singleton.mp hr]; exact h.2, mem_rep he⟩
theorem ScrAll.word1 (h : ScrAll Q s) : ScrAll Q (sWord1 wd s) := by unfold sWord1; split <;> exact h
theorem ScrAll.word2 (h : ScrAll Q s) (he : Q e) : ScrAll Q (sWord2 e wd s) := by
  unfold sWord2
  split
  · refine ⟨h.1, fun c hc => ?_⟩
    rcases List.mem_append.mp hc with hc | hc
    · exact h.2 c (List.mem_of_mem_take hc)
    · exact mem_rep he c hc
  · exact h
theorem ScrAll.word (h : ScrAll Q s) (he : Q e) : ScrAll Q (sWord w e wd s) := by
  unfold sWord sWord3
  split
  · exact (h.word1.word2 he).down he
  · exact h.word1.word2 he
theorem ScrAll.put (h : ScrAll Q s) (he : Q e) (hx : Q x) : ScrAll Q (sPut w e s x) := by
  have h1 : ScrAll Q (sWrap w e s) := by
    unfold sWrap
    split
    · exact h.down he
    · exact h
  refine ⟨h1.1, fun c hc => ?_⟩
  rcases List.mem_or_eq_of_mem_set hc with hc | hc
  · exact h1.2 c hc
  · rw [hc]; exact hx
theorem ScrAll.type (he : Q e) : ∀ {xs : List α} {s : Scr α}, ScrAll Q s → (∀ x ∈ xs, Q x) → ScrAll Q (sType w e s xs)
  | [], _, h, _ => h
  | x :: xs, s, h, hx => ScrAll.type he (xs := xs) (s := sPut w e s x) (h.put he (hx x (by simp))) fun y hy => hx y (by simp [hy])
theorem ScrAll.above {xs : List α} (h : ScrAll Q s) (he : Q e) (hx : ∀ x ∈ xs, Q x) : ScrAll Q (sAbove w e s xs) := by
  have ho : ScrAll Q (sType w e (sNew w e) xs) := ScrAll.type he (ScrAll.new he) hx
  refine ⟨fun r hr => ?_, h.2⟩
  rcases List.mem_append.mp hr with hr | hr
  · rcases List.mem_append.mp hr with hr | hr
    · exact h.1 r (List.mem_of_mem_take hr)
    · rcases List.mem_append.mp hr with hr | hr
      · exact ho.1 r hr
      · rw [List.mem_singleton.mp hr]; exact ho.2
  · exact h.1 r (List.mem_of_mem_drop hr)
end
section
variable {t : Tb} {few : List (Str × Nat)} {w : Nat} {Q : Cell → Prop}
end
end LK
set_option Elab.async false
set_option linter.all false
set_option maxRecDepth 100000
set_option maxHeartbeats 1000000
namespace LK
open PySem PySem.Spec PyProof.Rows L2 DL
section
variable {P : Program} {w : World} {K : PySem.W.Frag} {mg : Str → Option Value} {base : Heap}
end
end LK
set_option Elab.async false
set_option linter.all false
set_option maxRecDepth 100000
set_option maxHeartbeats 4000000
namespace DL
open PySem PySem.Spec PyProof.Rows L2
section
variable {X : Cx} {W : WX} {R : Rx X.K} {a b e o : Expr} {es : List Expr} {δ : DEnv} {I : Iv X.K} {P : D → Iv X.K → Prop} {pos q' p : Pos} {n : Str} {d z : D} {x C dx pd : Addr} {ds : List D} {i : Nat} {κ : Ko X.K}
end
end DL
set_option Elab.async false
set_option linter.all false
set_option maxRecDepth 100000
set_option maxHeartbeats 4000000
namespace DL
open PySem PySem.Spec PyProof.Rows L2
section
variable {X : Cx} {W : WX} {R : Rx X.K} {elt tg iter c e : Expr} {scope : Scope} {δ : DEnv} {I : Iv X.K} {pos : Pos} {p : Addr}
end
section
variable {X : Cx} {I : Iv X.K} {e : Expr} {δ : DEnv} {pos : Pos} {C p g x dx : Addr} {f : Str} {n : Nat} {S : Spec X.K} {fs : List (Str × D)} {d : D} {fd : FuncData}
theorem pv_propI (k : Rc X.K) (c : Cls X.K C) (pr : PropC X.K C f p g) (F : FnOk X.prog X.w X.K X.mg X.base (L2.CX X.prog X.w) n g fd ["self"] (spD X.K S)) (hb : L2.Binds X.K fd ["self"] []) (hr : Room (n + 1) X.A) (he : PV X I e δ (.adr x)) (hS : ∀ P : D → Iv X.K → Prop, P d I → S I [.adr x] P F0)
    (hab : attributeBase e f X.env (eval e X.env) = eval e X.env := by rfl) (eI : I = k.fill (iIns X.K x C dx fs) := by rfl) : PV X I (.Attribute e f pos) δ d := fun W R P pp σ G H Q hE s hI qx q =>
  PE.wp (pe_prop (E := fun _ _ _ => False) peC c ⟨pr.at_, pr.get, pr.tk, pr.rc⟩ F hr hb .nil takesPF hab) (he W R (fun z I1 => z = .adr x ∧ I1 = I) ⟨rfl, rfl⟩ σ G H _ hE s hI qx fun v d1 G1 H1 I1 s1 t1 h1 r1 ⟨ed, ei⟩ => by
    subst ed ei
    obtain rfl : v = .ref x := r1
    obtain ⟨vs, h2, h3, _⟩ := (show Hd (k.fill (iIns X.K x C dx fs)) G1 H1 by rw [← eI]; exact h1).ins
    exact ⟨x, dx, vs, rfl, h2, spD_of (ds := [.adr x]) t1 h1 ⟨.ref x, [], rfl, rfl, rfl⟩ (hS P pp) (q.mono s1)⟩)
end
end DL
set_option Elab.async false
set_option linter.all false
set_option maxRecDepth 100000
set_option maxHeartbeats 1000000
namespace LK
open PySem PySem.Spec PyProof.Rows L2 DL
structure PgA where
  y : Addr
  dy : Addr
  gx : Addr
  dg : Addr
  ad : Addr
  ax : Addr
section
variable {K : PySem.W.Frag} {t : Tb} {w : Nat} {A : PgA} {bl bj q : Addr} {qs : List Addr} {done : List (Str × Nat)} {pg : Pg} {c : Rc K}
end
def sLookW {K : PySem.W.Frag} : Spec K := fun I ds P _ => ∃ w : Nat, ds = [.int w] ∧ 1 ≤ w ∧ w ≤ 99 ∧ P .non I
section
variable {P : Program} {w : World} {K : PySem.W.Frag} {mg : Str → Option Value} {base : Heap}
theorem D_lookW (E : Env P w K mg base) : Def P w K mg base "look_at_width" 2 ["value"] [] sLookW := mk_f_look_at_width E fun fd F => by
  refine fn_d F sc_f_look_at_width (fun I ds P R h => by obtain ⟨n, rfl, _⟩ := h; rfl) fun cdv A outer s H EE hr tk po I ds Q R h => ?_
  obtain ⟨n, rfl, h1, h2, q⟩ := h
  have hr1 : Room 1 _ := hr
  refine s_one (s_ifF (PVT.is (c := false) (ptw (ww_orF (ptn (k := true) (pt_v (pv_def (D_is_integer E) hr1 (va_cons (pv_v (d := .int n) 0) va_nil) fun P pp => ⟨_, rfl, pp⟩))) (ww_or1 (ptn (pt_chn op_le op_le pv_int (pv_v (d := .int n) 0) p2_le (pv_gint E.c_MOST_WIDTH) p2_le))))) ?_) (s_nil q))
  have e1 : (1 : Int) ≤ n := by omega
  have e2 : (n : Int) ≤ 99 := by omega
  simp [e1, e2]
end
end LK
set_option Elab.async false
set_option linter.all false
set_option maxRecDepth 100000
set_option maxHeartbeats 1000000
namespace LK
open PySem PySem.Spec PyProof.Rows L2 DL
section
variable {P : Program} {w : World} {K : PySem.W.Frag} {mg : Str → Option Value} {base : Heap}
end
end LK
set_option Elab.async false
set_option linter.all false
set_option maxRecDepth 100000
set_option maxHeartbeats 1000000
namespace DL
open PySem PySem.Spec PyProof.Rows L2
section
variable {X : Cx} {I : Iv X.K} {o e : Expr} {δ : DEnv} {pos apos : Pos} {z w : Str}
theorem pv_rstrip (ho : PV X I o δ (.str z)) (he : PV X I e δ (.str w)) (hz : z.length ≤ 100000)
    (hbase : attributeBase o "rstrip" X.env (eval o X.env) = eval o X.env := by rfl)
    (hfew : ((backTo pos (starEach [e] X.env)).all (fun x => !x.1) && (backToKw pos (keywordEach [] X.env)).all (fun x => x.1.isSome) && decide ([e].length + ([] : List Keyword).length + (if ([] : List Keyword).isEmpty then 0 else 1) < 30)) = true := by rfl)
    (hline : (apos.endLine == pos.line) = true := by rfl) (hst : starEach [e] X.env = (false, eval e X.env) :: starEach [] X.env := by rfl) (hpl : (backTo pos (starEach [] X.env)).any (·.1) = false := by rfl) : PV X I (.Call (.Attribute o "rstrip" apos) [e] [] pos) δ (.str (Txt.rstripChars z w)) := fun W R P pp σ G H Q hE s hI qx qq =>
  PE.wp (pe_bm PySem.F.plainAttrs_str PySem.F.slot_str_rstrip PySem.F.type_str_rstrip mt_rstripChars peC (pa_cons peC pa_nil hst) hbase hfew hline hst hpl) (ho W R (fun y I1 => y = .str z ∧ I1 = I) ⟨rfl, rfl⟩ σ G H _ hE s hI qx fun v d1 G1 H1 I1 s1 t1 h1 r1 ⟨ed, ei⟩ => by
    subst ed ei
    obtain rfl : v = .str z := r1
    refine ⟨rfl, ?_⟩
    refine he W R (fun y J => y = .str w ∧ J = I1) ⟨rfl, rfl⟩ σ G1 H1 _ (hE.mono s1) t1 h1 (qx.mono s1) fun v2 d2 G2 H2 I2 s2 t2 h2 r2 ⟨ed2, ei2⟩ => ?_
    subst ed2 ei2
    obtain rfl : v2 = .str w := r2
    exact ⟨z, w, rfl, rfl, by rw [sizeLine_eq]; omega, qq (.str _) (.str _) G2 H2 _ (s1.trans s2) t2 h2 rfl pp⟩)
end
end DL
namespace LK
open PySem PySem.Spec PyProof.Rows L2 DL
def rsp (l : List Nat) : List Nat := (l.reverse.dropWhile fun c => c == 32).reverse
theorem rsp_snoc {l : List Nat} {c : Nat} : rsp (l ++ [c]) = if c = 32 then rsp l else l ++ [c] := by
  unfold rsp
  rw [List.reverse_append]
  show ((c :: l.reverse).dropWhile _).reverse = _
  by_cases h : c = 32
  · subst h; simp
  · rw [if_neg h, List.dropWhile_cons, if_neg (by simpa using h)]; simp
theorem space_goes : (Str.cps (" " : Str)).contains = fun c : Nat => c == 32 := by
  funext c
  show (#[32] : Array Nat).contains c = _
  simp
  rfl
theorem rsp_take (l : List Nat) : rsp l = l.take (l.length - (l.reverse.takeWhile fun c => c == 32).length) := by
  unfold rsp
  have h : l = (l.reverse.dropWhile fun c => c == 32).reverse ++ (l.reverse.takeWhile fun c => c == 32).reverse := by
    rw [← List.reverse_append, List.takeWhile_append_dropWhile, List.reverse_reverse]
  have hl : l.length = (l.reverse.dropWhile fun c => c == 32).reverse.length + (l.reverse.takeWhile fun c => c == 32).length := by
    conv => lhs; rw [h]
    rw [List.length_append, List.length_reverse (as := l.reverse.takeWhile _)]
  rw [hl, Nat.add_sub_cancel]
  conv => rhs; rw [h]
  rw [List.length_reverse, List.take_append_of_le_length (by simp)]
  rw [List.take_of_length_le (by simp)]
theorem rstrip_rsp (l : List Nat) : Txt.rstripChars ⟨l.toArray⟩ " " = ⟨(rsp l).toArray⟩ := by
  show Txt.stripBy (Str.cps (" " : Str)).contains false true ⟨l.toArray⟩ = _
  rw [stripBy_eq, space_goes]
  apply str_ext
  rw [rsp_take]
  show (Array.extract l.toArray 0 (l.toArray.size - ((l.toArray.toList.drop 0).reverse.takeWhile fun c => c == 32).length)).toList = _
  simp
def sgS : Option Nat → Str
  | none => ""
  | some c => one c
def rowTx (l : List (Option Nat)) : Str := ⟨(rsp (l.map fun c => c.getD 32)).toArray⟩
theorem sgS_nil {c : Option Nat} : sgS c = "" ↔ c = none := by
  cases c with
  | none => exact ⟨fun _ => rfl, fun _ => rfl⟩
  | some x => exact ⟨fun h => by
      have := congrArg (fun s : Str => s.cps.size) h
      exact absurd this (by show ¬ (1 = 0); decide), fun h => nomatch h⟩
theorem sgS_some {c : Option Nat} (h : c ≠ none) : sgS c = one (c.getD 32) := by
  cases c with
  | none => exact absurd rfl h
  | some x => rfl
theorem one_len (l : List Nat) : ((l.map one).map (·.length)).sum = l.length := by
  induction l with
  | nil => rfl
  | cons c l ih => rw [List.map_cons, List.map_cons, List.sum_cons, ih]; show 1 + _ = _ + 1; omega
theorem cut_last1 {l : List Nat} {c : Nat} : cutS ⟨(l ++ [c]).toArray⟩ (some (-1)) none = one c := by
  unfold cutS
  apply str_ext
  show (((l ++ [c]).toArray.toList.drop _).take _) = [c]
  have hz : (Str.length ⟨(l ++ [c]).toArray⟩) = l.length + 1 := by simp [Str.length]
  rw [hz]
  have e1 : HT.sIx (l.length + 1) 0 (some (-1)) = l.length := by
    show (if (-1 : Int) < 0 then ((-1 : Int) + ((l.length + 1 : Nat) : Int)).toNat else min (-1 : Int).toNat (l.length + 1)) = _
    rw [if_pos (by decide)]; omega
  have e2 : HT.sIx (l.length + 1) (l.length + 1) none = l.length + 1 := rfl
  rw [e1, e2]
  show ((l ++ [c]).drop l.length).take _ = [c]
  rw [List.drop_left, Nat.add_sub_cancel_left]; rfl
theorem cut_last0 : cutS ⟨([] : List Nat).toArray⟩ (some (-1)) none = "" := by decide +kernel
theorem cut_init1 {l : List Nat} {c : Nat} : cutS ⟨(l ++ [c]).toArray⟩ none (some (-1)) = ⟨l.toArray⟩ := by
  unfold cutS
  apply str_ext
  show (((l ++ [c]).toArray.toList.drop _).take _) = l
  have hz : (Str.length ⟨(l ++ [c]).toArray⟩) = l.length + 1 := by simp [Str.length]
  rw [hz]
  have e1 : HT.sIx (l.length + 1) (l.length + 1) (some (-1)) = l.length := by
    show (if (-1 : Int) < 0 then ((-1 : Int) + ((l.length + 1 : Nat) : Int)).toNat else min (-1 : Int).toNat (l.length + 1)) = _
    rw [if_pos (by decide)]; omega
  have e2 : HT.sIx (l.length + 1) 0 none = 0 := rfl
  rw [e1, e2, List.drop_zero, Nat.sub_zero]
  show (l ++ [c]).take l.length = l
  rw [List.take_left]
def sRowText {K : PySem.W.Frag} : Spec K := fun I ds P _ => ∃ l : List (Option Nat), ds = [.lst (l.map fun c => .str (sgS c))] ∧ l.length ≤ 10000 ∧ P (.str (rowTx l)) I
section
variable {P : Program} {w : World} {K : PySem.W.Frag} {mg : Str → Option Value} {base : Heap}
theorem D_row_text (E : Env P w K mg base) : Def P w K mg base "row_text" 1 ["signs"] [] sRowText := mk_f_row_text E fun fd F => by
  refine fn_d F sc_f_row_text (fun I ds P R h => by obtain ⟨l, rfl, _⟩ := h; rfl) fun cdv Ac outer s0 H EE hr tk po I ds Q R h => ?_
  obtain ⟨l, rfl, hl, k⟩ := h
  have nd := sc_f_row_text.nd
  have hu := hr.units
  have e1 : (l.map fun c => D.str (one (c.getD 32))) = ((l.map fun c => c.getD 32).map one).map D.str := by rw [List.map_map, List.map_map]; rfl
  have hj : Txt.join ("" : Str) ((l.map fun c => c.getD 32).map DL.one) = ⟨(l.map fun c => c.getD 32).toArray⟩ := DL.join_ones ("" : Str) (by rfl) (l.map fun c => c.getD 32)
  refine s_one (s_retP (PV.is (pv_rstrip (z := ⟨(l.map fun c => c.getD 32).toArray⟩) ?_ (pv_str (w := " ")) (by simp [Str.length]; omega)) (by rw [rstrip_rsp]; rfl)) k)
  intro W R P pp
  refine ev_join (pv_str (w := "")) (PV.ev (PV.is (pv_lcTM (xs := l) (g := fun c => D.str (sgS c)) (fun c => .str (one (c.getD 32))) [("sign", 1)] (fun c => [some (.lst (l.map fun c => .str (sgS c))), some (.str (sgS c))]) (vi_lst (pv_v (d := .lst (l.map fun c => .str (sgS c))) 0)) (by omega) (fun c s H C cl fp => bind_name 1) fun c hc J s H C cl fp => pv_if (pt_ne hu (pv_v (d := .str (sgS c)) 1) pv_str trivial) (fun h => ?_) fun h => ?_) (congrArg D.lst e1)) ⟨_, rfl, ?_, by rw [hj]; exact pp⟩)
  · have h : c ≠ none := fun e => by
      rw [e] at h
      exact absurd h (by decide)
    exact PV.is (pv_v (d := .str (sgS c)) 1) (by rw [sgS_some h])
  · have h : c = none := by
      have h : decide (sgS c = "") = true := by simpa using h
      exact sgS_nil.mp (of_decide_eq_true h)
    subst h
    exact pv_str (w := " ")
  · rw [one_len, List.length_map]
    simp only [List.length_map]
    have : Str.length ("" : Str) = 0 := rfl
    rw [this]; omega
end
end LK
set_option Elab.async false
set_option linter.all false
set_option maxRecDepth 100000
set_option maxHeartbeats 4000000
namespace DL
open PySem PySem.Spec PyProof.Rows L2
section
variable {X : Cx} {W : WX} {R : Rx X.K} {n : Nat} {C : Addr} {S : Spec X.K} {δ : DEnv} {I I' : Iv X.K} {e : Expr} {pos pos' : Pos} {κ : Ko X.K} {x' : Str} {x : D} {sts : List Stmt} {st : Stmt} {P : D → Iv X.K → Prop}
theorem s_augOwn {op : Operator} (i : Nat) (tk : Takes X W) (hf : PySem.W.findIn X.K (.ref C) (PySem.dunderI op.info.2) = some (some (.ref (He.ma X.K C (PySem.dunderI op.info.2))))) (hfn : PySem.W.isFn X.K (.ref (He.ma X.K C (PySem.dunderI op.info.2))) = true) (hc : PySem.W.selfFirst X.K C = true)
    (F : FnR X.prog X.w X.K X.mg X.base (L2.CX X.prog X.w) n (He.ma X.K C (PySem.dunderI op.info.2)) (spD X.K S)) (hr : Room n X.A) (hd : δ[i]? = some (some x))
    (h : EvX X W (κ.r δ) e δ I fun y I1 => InsD C "" x I1 ∧ S I1 [x, y] (fun d I3 => κ.nx (δ.set i (some d)) I3) (κ.r δ))
    (hN : X.N.Nodup := by assumption) (hi : X.N[i]? = some x' := by rfl) (hx : Loc X.env.scope x' := by first | exact Or.inl rfl | exact Or.inr rfl)
    (hl0 : X.fn x' = true ∨ X.env.scope.names.lookup x' = some .local := by first | exact .inl rfl | exact .inr rfl) : S1 X W (.AugAssign (.Name x' pos') op e pos) δ I κ := fun σ G H E hE s hI k => by
  obtain ⟨v, hv, rv⟩ := hE.2 i _ hd
  refine ⟨fun pins st J => ?_⟩
  obtain ⟨m, hn, hl⟩ := J.loc
  have vis : Vis X.env.scope x' := by rcases hx with k | k; exact .inl k; exact .inr (.inl k)
  obtain ⟨u, r, l⟩ := hl i x' v hi hv vis
  refine wpAny_AugAssign_Name ?_
  have go : wpAny (model X.prog X.w) X.A (eval e X.env) (fun w s₂ => wpAny (model X.prog X.w) X.A (inplaceOp op u w) (fun r s₃ => wpAny (model X.prog X.w) X.A (storeName X.env x' r) (fun _ => SP X pins E .next) X.xe s₃) X.xe s₂) X.xe st := by
    refine thn (peC.run pins st σ H _ J (h σ G H (fun w H1 => ∃ c, v = .ref c ∧ IsI H1 c C "" ∧ spD X.K S [v, w] H1 (fun z H3 => E.nx (σ.set i (some z)) H3) (WE W σ)) hE s hI (k.kx hE) fun w y G1 H1 I1 s1 t1 h1 r1 ⟨hx1, kS⟩ => ?_)) fun w s1 ⟨y, H1, J1, r1, c, ec, hic, q2⟩ => ?_
    · obtain ⟨c, ec, hic⟩ := hx1 G1 H1 v t1 h1 (rv.mono s1)
      refine ⟨c, ec, hic, spD_at t1 h1 (.cons (rv.mono s1) (.cons r1 .nil)) kS (fun z d G3 H3 I3 s3 t3 h3 r3 p => ?_) ((k.kx hE).mono s1)⟩
      exact k.nx _ _ G3 H3 I3 (s1.trans s3) t3 h3 ((hE.mono (s1.trans s3)).set r3) p
    · subst ec
      obtain rfl : u = Value.ref c := r
      obtain ⟨ox, od, O, _⟩ := isi_inst J1 hic
      obtain ⟨mm, hF⟩ := J1.fr
      refine PySem.W.ksp_inplace hF J1.ok.mod.kin O hc hf hfn (wpAny_mono (wpAny_call (run_own tk F hr J1.env0 J1 (us := [.ref c, w]) (ws := [.ref c, y]) (.cons rfl (.cons r1 .nil)) q2)) (fun r s3 z => ?_) fun _ _ x => x)
      obtain ⟨z', H3, J3, rz, qz⟩ := z
      exact SlX.cmpback rz (store_ok J3 hN hi hx rz (fun s4 I4 => ⟨_, H3, I4, qz⟩) hl0)
  rcases l with ⟨hk, hm⟩ | ⟨hk, c, hc2, hcell⟩
  · exact wpAny_loadName_local J.ok.kind hk hn hm go
  · rcases hk with hk | hk
    · exact wpAny_loadName_cell J.ok.kind hk hc2 hcell go
    · rcases hx with k | k
      · have : X.env.scope.names.lookup x' = some .free := hk
        rw [k] at this; cases this
      · have : X.env.scope.names.lookup x' = some .free := hk
        rw [k] at this; cases this
def Fz {K : PySem.W.Frag} (I I' : Iv K) : Prop := ∀ (G H : Hp), Same G H → Hd I G H → ∃ G2, Same G G2 ∧ Same G2 H ∧ Hd I' G2 H
theorem Fz.sx (f : Fz I I') (h : SX X W sts δ I' κ) : SX X W sts δ I κ := fun σ G H E hE s hI k => by
  obtain ⟨G2, s2, t2, h2⟩ := f G H s hI
  exact h σ G2 H E (hE.mono s2) t2 h2 (k.mono s2)
theorem Fz.s1 (f : Fz I I') (h : S1 X W st δ I' κ) : S1 X W st δ I κ := fun σ G H E hE s hI k => by
  obtain ⟨G2, s2, t2, h2⟩ := f G H s hI
  exact h σ G2 H E (hE.mono s2) t2 h2 (k.mono s2)
theorem Fz.ev (h : EvX X W R e δ I fun d I1 => ∃ I2, Fz I1 I2 ∧ P d I2) : EvX X W R e δ I P := fun σ G H Q hE s hI qx q =>
  h σ G H Q hE s hI qx fun v d G1 H1 I1 s1 t1 h1 r1 ⟨I2, f, p⟩ => by
    obtain ⟨G2, s2, t2, h2⟩ := f G1 H1 t1 h1
    exact q v d G2 H1 I2 (s1.trans s2) t2 h2 (r1.mono s2) p
theorem Fz.wk {K : PySem.W.Frag} {I J L : Iv K} (w : Wk I J) (f : Fz J L) : Fz I L := fun G H s h => f G H s (h.wk w)
end
end DL
set_option Elab.async false
set_option linter.all false
set_option maxRecDepth 100000
set_option maxHeartbeats 4000000
namespace L2
open PySem PySem.Spec PyProof.Rows
section
variable {X : Cx}
def sgnV (z : Str) : List V := z.cps.toList.map fun c => V.str ⟨#[c]⟩
theorem signs_at {z : Str} {acc : Array Value} (h : ItemsOf (SignAt z) acc z.cps.size) : Vals (sgnV z) acc.toList := by
  unfold sgnV
  have hl : acc.toList.length = z.cps.toList.length := by simpa using h.1
  have ha : ∀ (j : Nat) (v : Value), acc.toList[j]? = some v → ∃ c u, z.cps.toList[j]? = some c ∧ v = .str ⟨#[c]⟩ u := fun j v e => by
    obtain ⟨c, u, h1, h2⟩ := h.2 j v (by rw [← Array.getElem?_toList]; exact e)
    exact ⟨c, u, by rw [Array.getElem?_toList]; exact h1, h2⟩
  generalize acc.toList = as at hl ha
  generalize z.cps.toList = cs at hl ha
  induction cs generalizing as with
  | nil =>
    have e : as = [] := List.eq_nil_of_length_eq_zero hl
    subst e
    exact .nil
  | cons c cs ih =>
    cases as with
    | nil => cases hl
    | cons a as =>
      obtain ⟨c', u, h1, h2⟩ := ha 0 a rfl
      have h1 : c = c' := Option.some.inj h1
      subst h1
      subst h2
      exact .cons ⟨u, rfl⟩ (ih as (Nat.succ.inj hl) fun j v e => ha (j + 1) v e)
theorem call_listStr (hc : X.calm = true) : CallR X (.type "list") (fun xs H Q => ∃ z : Str, xs = [.str z] ∧ z.cps.size ≤ sizeLine ∧ ∀ p, H p = none → Q (.ref p) (upd H p (.lst (sgnV z)))) := by
  intro pins s σ H xs us Q I r q
  obtain ⟨z, ex, hz, q⟩ := q
  subst ex
  obtain ⟨u, eu, rx⟩ := vals1 r
  subst eu
  obtain ⟨t, rfl⟩ := (show ∃ t, u = Value.str z t from rx)
  refine call_list_str (I.ok.hd hc) z t (hn := hz) fun h' tk acc c' hk hD hacc => ?_
  refine ⟨.ref s.heap.objs.size, upd H s.heap.objs.size (.lst (sgnV z)), I.laid (t' := tk) hk (Nat.le_refl _)
    (show ObjOk X.prog X.w _ _ _ (.lst (sgnV z)) from ⟨by unfold sgnV; simpa using hz, acc.toList, c', signs_at hacc, by rw [Array.toArray_toList]; exact hD⟩), rfl, q _ (I.hok.fresh (Nat.le_refl _))⟩
end
end L2
namespace DL
open PySem PySem.Spec PyProof.Rows L2
section
variable {X : Cx} {W : WX} {R : Rx X.K} {I : Iv X.K} {e : Expr} {δ : DEnv} {pos p : Pos} {z : Str} {P : D → Iv X.K → Prop}
theorem reps_sgn {K : PySem.W.Frag} {G : Hp} (z : Str) : Reps K G (z.cps.toList.map fun c => D.str ⟨#[c]⟩) (sgnV z) := by
  unfold sgnV
  induction z.cps.toList with
  | nil => exact .nil
  | cons c l ih => exact .cons rfl ih
theorem ev_listStr (hm : X.mg "list" = none) (h : EvX X W R e δ I fun d I1 => ∃ z : Str, d = .str z ∧ z.length ≤ 100000 ∧ ∀ q, P (.adr q) (I1.and (iLst X.K q (z.cps.toList.map fun c => D.str ⟨#[c]⟩)))) (hc : X.calm = true := by rfl) (hg : Gl X "list" := by rfl)
    (he : starEach [e] X.env = (false, eval e X.env) :: starEach [] X.env := by rfl) (hpl : (backTo pos (starEach [] X.env)).any (·.1) = false := by rfl) : EvX X W R (.Call (.Name "list" p) [e] [] pos) δ I P :=
  ev_ct (call_listStr hc) hm (ea_cons (h.imp fun d I1 ⟨z, ed, hz, pp⟩ => ea_nil (fun G H vs Q s hI ⟨v, r, e1, e2, e3⟩ q => by
    subst ed
    rw [e1, show r = [] from e3]
    obtain rfl : v = .str z := e2
    exact ⟨z, rfl, by rw [sizeLine_eq]; exact Nat.le_trans hz (by decide), fun l hl => q (.ref l) (.adr l) G _ (I1.and (iLst X.K l (z.cps.toList.map fun c => D.str ⟨#[c]⟩))) (Same.refl G) (same_upd s (s.free hl)) (Hd.mk2 (J := iLst X.K l (z.cps.toList.map fun c => D.str ⟨#[c]⟩)) (hI.newp hl) ⟨⟨_, upd_same, _, rfl, reps_sgn z⟩, fun a ha => by rw [show a = l from ha]; exact s.free hl⟩ fun a ha => hI.dom ha.1 (by rw [show a = l from ha.2]; exact hl)) rfl (pp l)⟩)) he) (by decide +kernel) hg (by decide) (by decide) he hpl
theorem pv_listStr (hm : X.mg "list" = none) (h : PV X I e δ (.str z)) (hz : z.length ≤ 100000) (hc : X.calm = true := by rfl) (hg : Gl X "list" := by rfl)
    (he : starEach [e] X.env = (false, eval e X.env) :: starEach [] X.env := by rfl) (hpl : (backTo pos (starEach [] X.env)).any (·.1) = false := by rfl) : PV X I (.Call (.Name "list" p) [e] [] pos) δ (.lst (z.cps.toList.map fun c => D.str ⟨#[c]⟩)) := fun W R P pp =>
  ev_freezeL (ev_listStr hm (h.ev ⟨z, rfl, hz, fun q => ⟨q, _, _, rfl, rfl, pp⟩⟩) hc hg he hpl)
end
end DL
set_option Elab.async false
set_option linter.all false
set_option maxRecDepth 100000
set_option maxHeartbeats 4000000
namespace DL
open PySem PySem.Spec PyProof.Rows L2
abbrev TsA := Addr → Value → Option Addr → TS
structure AsC (X : Cx) (hd : ExceptHandler) (q : Value × Nat × TsA) : Prop where
  e : ∃ (x n : Str) (b0 : Stmt) (su : List Stmt) (p1 p2 : Pos), hd = .ExceptHandler (some (.Name x p1)) (some n) (b0 :: su) p2 ∧ Names X x q.1 ∧ X.N[q.2.1]? = some n ∧ X.env.kindOf n = some .local ∧
    ∀ (p : Addr) (o : Obj) (C : Value) (dd : Option Addr) (pn : List (Addr × Obj)), Zc C dd o → (∃ fv, o.data = .fields fv) → PSs (X.suite p ((p, o) :: pn)) (b0 :: su) (q.2.2 p C dd)
inductive AsAll (X : Cx) : List ExceptHandler → List (Value × Nat × TsA) → Prop
  | nil : AsAll X [] []
  | cons {h : ExceptHandler} {q : Value × Nat × TsA} {hs : List ExceptHandler} {l : List (Value × Nat × TsA)} : AsC X h q → AsAll X hs l → AsAll X (h :: hs) (q :: l)
section
variable {X : Cx} {sts : List Stmt} {h0 : ExceptHandler} {hds : List ExceptHandler} {l : List (Value × Nat × TsA)} {pos : Pos} {tb : WX → TS} {Wo : WX}
end
inductive ClsAll (X : Cx) : List ExceptHandler → List (Value × Nat × List Stmt) → Prop
  | nil : ClsAll X [] []
  | cons {x n : Str} {c : Value} {i : Nat} {b0 : Stmt} {su : List Stmt} {p1 p2 : Pos} {hs : List ExceptHandler} {m : List (Value × Nat × List Stmt)} (nm : Names X x c) (r : ClsAll X hs m) (hi : X.N[i]? = some n := by rfl) (hln : X.env.kindOf n = some .local := by rfl) : ClsAll X (.ExceptHandler (some (.Name x p1)) (some n) (b0 :: su) p2 :: hs) ((c, i, b0 :: su) :: m)
def tsA (X : Cx) (sts : List Stmt) : TsA := fun a cls d D σ H => ∀ (oe : Obj) (pn : List (Addr × Obj)), Zc cls d oe → (∃ vs, oe.data = .fields vs) → wpB (X.suite a ((a, oe) :: pn)) sts D σ H
theorem ClsAll.as {X : Cx} : ∀ {hs : List ExceptHandler} {m : List (Value × Nat × List Stmt)}, ClsAll X hs m → AsAll X hs (m.map fun q => (q.1, q.2.1, tsA X q.2.2))
  | _, _, .nil => .nil
  | _, _, .cons nm r hi hln => .cons ⟨⟨_, _, _, _, _, _, rfl, nm, hi, hln, fun p o C dd pn hz hf => ⟨fun pins s σ H D J q => (q o pn hz hf).run pins s J⟩⟩⟩ r.as
section
variable {X : Cx} {δ : DEnv} {I : Iv X.K} {W : WX} {κ : Ko X.K} {body : List Stmt} {h0 : ExceptHandler} {hds : List ExceptHandler} {m : List (Value × Nat × List Stmt)} {pos : Pos}
end
end DL
set_option Elab.async false
set_option linter.all false
set_option maxRecDepth 100000
set_option maxHeartbeats 1000000
namespace DL
theorem Wk.addE {K : PySem.W.Frag} {I : Iv K} : Wk I (I.and (iEmp K)) := ⟨fun a h => h.elim id fun h => h.elim, fun G H h => ⟨h, trivial, fun a ha => ha.2⟩⟩
end DL
namespace LK
open PySem PySem.Spec PyProof.Rows L2 DL
abbrev cTm (K : PySem.W.Frag) : Addr := He.ga K "Terminal"
abbrev sgD (c : Option Nat) : D := .str (sgS c)
abbrev gdG {α : Type} (g : α → D) (e : α) (w : Nat) (s : Scr α) : List (Str × D) := [("span", .int w), ("empty", g e), ("cells", .lst (s.rows.map fun r => .lst (r.map g))), ("joined", .lst (s.jo.map D.bl)), ("row", .int (s.up.length : Nat)), ("column", .int (s.co : Nat))]
theorem ins_reT {K : PySem.W.Frag} {I : Iv K} {G H : Hp} {x C dx : Addr} {fs fs' : List (Str × D)} (h : Hd (I.and (iIns K x C dx fs)) G H) (r : ∀ vs, FRep K G fs vs → FRep K G fs' vs) : Hd (I.and (iIns K x C dx fs')) G H := by
  obtain ⟨h1, h0, vs, h2, h3⟩ := h.right.ph
  exact Hd.mk2 h.left ⟨⟨h1, h0, vs, h2, r vs h3⟩, fun a ha => h.right.fr a ha⟩ h.apart
theorem freeze_grid {α : Type} {g : α → D} {e : α} {K : PySem.W.Frag} {w : Nat} {x dx bl bj q : Addr} {qs : List Addr} {s : Scr α} {I : Iv K} (hq : qs.length = s.up.length) : Fz (I.and (iGrid K bl bj qs q g s x dx w e)) (I.and (iIns K x (cG K) dx (gdG g e w s))) := fun G H sm h => by
  have w2 : Wk ((iRows K qs (s.up.map fun r => r.map g)).and (iLst K q (s.cur.map g))) (iRows K (qs ++ [q]) (s.rows.map fun r => r.map g)) := by
    unfold Scr.rows
    rw [List.map_append]
    exact (Wk.row1.andR).trans (Wk.rows_app (by simpa using hq))
  have h1 : Hd ((((I.and (iIns K x (cG K) dx (grF w g e bl bj s))).and (iLst K bj (s.jo.map D.bl))).and (iRows K (qs ++ [q]) (s.rows.map fun r => r.map g))).and (iLst K bl ((qs ++ [q]).map D.adr))) G H := by
    refine h.wk (Wk.trans (Wk.re [I, iIns K x (cG K) dx (grF w g e bl bj s), iLst K bl ((qs ++ [q]).map D.adr), iLst K bj (s.jo.map D.bl), iRows K qs (s.up.map fun r => r.map g), iLst K q (s.cur.map g)] (0 + (1 + (2 + (3 + (4 + 5))))) (0 + 1 + 3 + (4 + 5) + 2)) ?_)
    exact (w2.andR).andL
  obtain ⟨G1, s1, t1, h2, r1⟩ := freeze_lrows (by simp [Scr.rows, hq]) sm h1
  obtain ⟨G2, s2, t2, h3, r2⟩ := freeze_lst t1 h2
  refine ⟨G2, s1.trans s2, t2, ?_⟩
  have r1' : Rep K G2 (.lst (s.rows.map fun r => .lst (r.map g))) (.ref bl) := by
    have e9 : (s.rows.map fun r => r.map g).map D.lst = s.rows.map fun r => .lst (r.map g) := by rw [List.map_map]; rfl
    rw [← e9]; exact r1.mono s2
  exact ins_reT (fs' := gdG g e w s) h3 (fun vs ⟨v1, m1, e1, q1, v2, m2, e2, q2, v3, m3, e3, q3, v4, m4, e4, q4, r⟩ => by
    obtain rfl : v3 = .ref bl := q3
    obtain rfl : v4 = .ref bj := q4
    exact ⟨v1, m1, e1, q1, v2, m2, e2, q2, _, m3, e3, r1', _, m4, e4, r2, r⟩)
def sTwin {K : PySem.W.Frag} : Spec K := fun I ds P _ => ∃ (α : Type) (g : α → D) (e : α) (w : Nat) (s : Scr α) (c : Rc K) (gx dg : Addr), ds = [.adr gx] ∧ I = c.fill (iIns K gx (cG K) dg (gdG g e w s)) ∧ SOk w s ∧ s.up.length ≤ 10000 ∧
  ∀ x dx bl bj q qs, qs.length = s.up.length → P (.adr x) (I.and (iGrid K bl bj qs q g s x dx w e))
section
variable {P : Program} {w : World} {K : PySem.W.Frag} {mg : Str → Option Value} {base : Heap}
theorem M_twin (E : Env P w K mg base) : FnR P w K mg base (L2.CX P w) 3 (He.ma K (cG K) "twin") (spD K sTwin) := mk_m_Grid_twin E fun fd F => by
  refine fn_d F sc_m_Grid_twin (fun I ds P R h => by obtain ⟨α, g, e, w, s, c, gx, dg, rfl, _⟩ := h; rfl) fun cdv A outer s0 H EE hr tk po I ds Q R h => ?_
  obtain ⟨α, g, e, n, s, c, gx, dg, rfl, rfl, ok, hz, k⟩ := h
  have nd := sc_m_Grid_twin.nd
  have hr2 : Room 2 _ := hr
  have hrl : s.rows.length ≤ 10001 := by unfold Scr.rows; rw [List.length_append]; simp; omega
  obtain ⟨fdI, FI, bI⟩ := M_grInit E
  refine SX.k ?_
  refine s_cons (s_set 1 (ev_makeI tk E.m_Grid FI hr2 E.g_Grid bI (ea_cons ((pv_fld (d := .int n) c E.l_Grid E.a_Grid_span (pv_v 0) rfl).ev (ea_cons ((pv_fld (d := g e) c E.l_Grid E.a_Grid_empty (pv_v 0) rfl).ev (ea_nil fun x dx _ => ⟨x, dx, _, α, g, e, n, rfl, rfl, ok.w99, fun bl bj q => ⟨rfl, ?_⟩⟩)))))))
  refine SX.wk (I' := ((c.fill (iIns K gx (cG K) dg (gdG g e n s))).and (iIns K x (cG K) dx (grF n g e bl bj (sNew n e)))).and (iRows K [] [])) ((Wk.andR Wk.dropR).trans Wk.addE) ?_
  refine s_cons (s_fld E.l_Grid E.a_Grid_cells (ev_lcR [("row", 2)] nd (blkOk_by (by rfl)) (eir_d (vi_lst (pv_fld (d := .lst (s.rows.map fun r => .lst (r.map g))) (.l (.l c (iIns K x (cG K) dx (grF n g e bl bj (sNew n e)))) (iRows K [] [])) E.l_Grid E.a_Grid_cells (pv_v 0) rfl) _ _ _ ⟨by rw [List.length_map]; omega, fun i ys I' => ∃ qs : List Addr, qs.length = i ∧ ys = qs.map D.adr ∧ I' = ((c.fill (iIns K gx (cG K) dg (gdG g e n s))).and (iIns K x (cG K) dx (grF n g e bl bj (sNew n e)))).and (iRows K qs ((s.rows.take i).map fun r => r.map g)), ⟨[], rfl, rfl, rfl⟩, fun _ _ _ _ => trivial, ?_, ?_⟩))))
  · rintro i d ys I' hd ⟨qs, rfl, rfl, rfl⟩
    obtain ⟨r, hri, rfl⟩ := get_map hd
    refine ⟨fun b => b = true, [some (.adr gx), some (.adr x), some (.lst (r.map g))], fun J s H C cl fp => ⟨bind_name 2, ets_nil ⟨rfl, rfl⟩⟩, fun _ J s' H C cl fp => ?_, fun h => nomatch h⟩
    refine ev_ct call_list_of E.b_list (ea_cons ((pv_w (d := .lst (r.map g)) 2 rfl).ev (ea_nil (on_listI LsI.k fun p => ⟨((c.fill (iIns K gx (cG K) dg (gdG g e n s))).and (iIns K x (cG K) dx (grF n g e bl bj (sNew n e)))).and (iRows K (qs ++ [p]) ((s.rows.take (qs.length + 1)).map fun r => r.map g)), ?_, qs ++ [p], by simp, by simp, rfl⟩)))) (by decide +kernel) rfl (by decide) (by decide) rfl rfl
    rw [take_snoc hri, List.map_append]
    refine Wk.swapR.trans (Wk.andL ?_)
    exact Wk.assoc.trans (Wk.andR ((Wk.andR Wk.row1).trans (Wk.rows_app (by rw [List.length_map, List.length_take]; have := (List.getElem?_eq_some_iff.mp hri).1; omega))))
  · rintro ys I' ⟨qs, hqs, rfl, rfl⟩ p
    rw [List.length_map] at hqs ⊢
    rw [List.take_length]
    refine ⟨.l (.l (.r (c.fill (iIns K gx (cG K) dg (gdG g e n s))) .here) (iRows K qs (s.rows.map fun r => r.map g))) (iLst K p (qs.map D.adr)), x, dx, _, rfl, pv_v 1, of_decide_eq_true (by rfl), ?_⟩
    refine s_cons (s_fld E.l_Grid E.a_Grid_joined (ev_ct call_list_of E.b_list (ea_cons ((pv_fld (d := .lst (s.jo.map D.bl)) (.l (.l (.l c (iIns K x (cG K) dx _)) (iRows K qs (s.rows.map fun r => r.map g))) (iLst K p (qs.map D.adr))) E.l_Grid E.a_Grid_joined (pv_v 0) rfl).ev (ea_nil (on_listI LsI.k fun bj' => ⟨.l (.l (.l (.r (c.fill (iIns K gx (cG K) dg (gdG g e n s))) .here) (iRows K qs (s.rows.map fun r => r.map g))) (iLst K p (qs.map D.adr))) (iLst K bj' (s.jo.map D.bl)), x, dx, _, rfl, pv_v 1, of_decide_eq_true (by rfl), ?_⟩)))) (by decide +kernel) rfl (by decide) (by decide) rfl rfl))
    refine s_cons (s_fldP (.l (.l (.l (.r (c.fill (iIns K gx (cG K) dg (gdG g e n s))) .here) (iRows K qs (s.rows.map fun r => r.map g))) (iLst K p (qs.map D.adr))) (iLst K bj' (s.jo.map D.bl))) E.l_Grid E.a_Grid_row (pv_v 1) (pv_fld (d := .int (s.up.length : Nat)) (.l (.l (.l (.l c (iIns K x (cG K) dx _)) (iRows K qs (s.rows.map fun r => r.map g))) (iLst K p (qs.map D.adr))) (iLst K bj' (s.jo.map D.bl))) E.l_Grid E.a_Grid_row (pv_v 0) rfl) ?_)
    refine s_cons (s_fldP (.l (.l (.l (.r (c.fill (iIns K gx (cG K) dg (gdG g e n s))) .here) (iRows K qs (s.rows.map fun r => r.map g))) (iLst K p (qs.map D.adr))) (iLst K bj' (s.jo.map D.bl))) E.l_Grid E.a_Grid_column (pv_v 1) (pv_fld (d := .int (s.co : Nat)) (.l (.l (.l (.l c (iIns K x (cG K) dx _)) (iRows K qs (s.rows.map fun r => r.map g))) (iLst K p (qs.map D.adr))) (iLst K bj' (s.jo.map D.bl))) E.l_Grid E.a_Grid_column (pv_v 0) rfl) ?_)
    have hqs2 : qs.length = s.up.length + 1 := by rw [hqs]; unfold Scr.rows; simp
    obtain ⟨qs', q', rfl⟩ : ∃ qs' q', qs = qs' ++ [q'] := by
      rcases List.eq_nil_or_concat qs with e | ⟨a, b, e⟩
      · rw [e] at hqs2; cases hqs2
      · exact ⟨a, b, by rw [e, List.concat_eq_append]⟩
    have hq' : qs'.length = s.up.length := by rw [List.length_append] at hqs2; simpa using hqs2
    refine s_one (s_retP (pv_v 1) ⟨_, ?_, k x dx p bj' q' qs' hq'⟩)
    have w2 : Wk (iRows K (qs' ++ [q']) (s.rows.map fun r => r.map g)) ((iRows K qs' (s.up.map fun r => r.map g)).and (iLst K q' (s.cur.map g))) := by
      unfold Scr.rows
      rw [List.map_append]
      exact (Wk.rows_split (by simpa using hq')).trans (Wk.andR Wk.dropR)
    refine Wk.trans (Wk.re [c.fill (iIns K gx (cG K) dg (gdG g e n s)), iIns K x (cG K) dx (grF n g e p bj' s), iRows K (qs' ++ [q']) (s.rows.map fun r => r.map g), iLst K p ((qs' ++ [q']).map D.adr), iLst K bj' (s.jo.map D.bl)] (0 + 1 + 2 + 3 + 4) (0 + (1 + (3 + (4 + 2))))) ?_
    exact Wk.andR (Wk.andR (Wk.andR (Wk.andR w2)))
end
end LK
set_option Elab.async false
set_option linter.all false
set_option maxRecDepth 100000
set_option maxHeartbeats 1000000
namespace DL
open PySem PySem.Spec PyProof.Rows L2
section
variable {X : Cx} {a b c : Expr} {δ : DEnv} {I : Iv X.K} {pos : Pos} {x y z : D}
theorem pv_chnT {op op' : CmpOp} {r r' : R2} {k l : Bool} (ho : OpR X (compareOp op) r) (ho' : OpR X (compareOp op') r') (ha : PV X I a δ x) (hb : PV X I b δ y) (h1 : P2 X.K I r x y (.bl k)) (hc : PV X I c δ z) (h2 : P2 X.K I r' y z (.bl l))
    (hm : lastMarks [op, op'] [b, c] = false := by with_unfolding_all rfl) : PV X I (.Compare a [op, op'] [b, c] pos) δ (.bl (k && l)) := fun W R P pp σ G H Q hE s hI qx q =>
  PE.wp (pe_chain ho ho' peC peC peC hm) (ha W R (fun z1 J => z1 = x ∧ J = I) ⟨rfl, rfl⟩ σ G H _ hE s hI qx fun v d1 G1 H1 I1 s1 t1 g1 r1 ⟨ed, ei⟩ => by
    subst ed ei
    refine hb W R (fun z1 J => z1 = y ∧ J = I1) ⟨rfl, rfl⟩ σ G1 H1 _ (hE.mono s1) t1 g1 (qx.mono s1) fun v2 d2 G2 H2 I2 s2 t2 g2 r2 ⟨ed2, ei2⟩ => ?_
    subst ed2 ei2
    refine h1 (fun z1 J => z1 = .bl k ∧ J = I2) ⟨rfl, rfl⟩ G2 H2 v v2 _ t2 g2 (r1.mono s2) r2 fun v3 d3 G3 H3 I3 s3 t3 g3 r3 ⟨ed3, ei3⟩ => ?_
    subst ed3 ei3
    refine ⟨k, r3, ?_⟩
    cases k with
    | false => exact q (.bl false) (.bl false) G3 H3 _ ((s1.trans s2).trans s3) t3 g3 rfl pp
    | true =>
      simp only [if_true]
      refine hc W R (fun z1 J => z1 = z ∧ J = I3) ⟨rfl, rfl⟩ σ G3 H3 _ (hE.mono ((s1.trans s2).trans s3)) t3 g3 (qx.mono ((s1.trans s2).trans s3)) fun v4 d4 G4 H4 I4 s4 t4 g4 r4 ⟨ed4, ei4⟩ => ?_
      subst ed4 ei4
      refine h2 (fun z1 J => z1 = .bl l ∧ J = I4) ⟨rfl, rfl⟩ G4 H4 v2 v4 _ t4 g4 ((r2.mono s3).mono s4) r4 fun v5 d5 G5 H5 I5 s5 t5 g5 r5 ⟨ed5, ei5⟩ => ?_
      subst ed5 ei5
      exact q v5 (.bl l) G5 H5 _ ((((s1.trans s2).trans s3).trans s4).trans s5) t5 g5 r5 pp)
end
end DL
namespace LK
open PySem PySem.Spec PyProof.Rows L2 DL
abbrev Sg := Option Nat
def iTm (K : PySem.W.Frag) (x dx gx dg : Addr) (w : Nat) (s : Scr Sg) : Iv K := (iIns K x (cTm K) dx [("grid", .adr gx)]).and (iIns K gx (cG K) dg (gdG sgD none w s))
section
variable {K : PySem.W.Frag} {x dx gx dg : Addr} {w : Nat} {s : Scr Sg} {c : Rc K}
theorem tm_x : c.fill (iTm K x dx gx dg w s) = (c.comp (.l .here (iIns K gx (cG K) dg (gdG sgD none w s)))).fill (iIns K x (cTm K) dx [("grid", .adr gx)]) := (fill_comp (I := iIns K x (cTm K) dx [("grid", .adr gx)]) (.l .here (iIns K gx (cG K) dg (gdG sgD none w s))) c).symm
theorem tm_g : c.fill (iTm K x dx gx dg w s) = (c.comp (.r (iIns K x (cTm K) dx [("grid", .adr gx)]) .here)).fill (iIns K gx (cG K) dg (gdG sgD none w s)) := (fill_comp (I := iIns K gx (cG K) dg (gdG sgD none w s)) (.r (iIns K x (cTm K) dx [("grid", .adr gx)]) .here) c).symm
end
theorem rowsG_len {α : Type} {w : Nat} {s : Scr α} (ok : SOk w s) : ∀ r ∈ s.rows, r.length = w := fun r hr => by
  unfold Scr.rows at hr
  rcases List.mem_append.mp hr with h | h
  · exact ok.ul r h
  · rw [List.mem_singleton.mp h]; exact ok.cl
def isInG {α : Type} (w : Nat) (s : Scr α) (r c : Int) : Bool := (decide (0 ≤ r) && decide (r < (s.rows.length : Nat))) && (decide (0 ≤ c) && decide (c < (w : Nat)))
def cellG {α : Type} (e : α) (s : Scr α) (r c : Int) : α := (s.rows.getD r.toNat []).getD c.toNat e
theorem cellG_get {α : Type} {e : α} {w : Nat} {s : Scr α} {r c : Int} (hl : ∀ x ∈ s.rows, x.length = w) (h : isInG w s r c = true) : ∃ row, s.rows[r.toNat]? = some row ∧ atI s.rows r = some row ∧ atI row c = some (cellG e s r c) := by
  unfold isInG at h
  simp only [Bool.and_eq_true, decide_eq_true_eq] at h
  obtain ⟨⟨h1, h2⟩, h3, h4⟩ := h
  obtain ⟨i, rfl⟩ : ∃ i : Nat, r = (i : Int) := ⟨r.toNat, by omega⟩
  obtain ⟨j, rfl⟩ : ∃ j : Nat, c = (j : Int) := ⟨c.toNat, by omega⟩
  have hi : i < s.rows.length := by omega
  have e1 : s.rows[i]? = some s.rows[i] := List.getElem?_eq_getElem hi
  generalize s.rows[i] = row at e1
  have hj : j < row.length := by rw [hl row (List.mem_of_getElem? e1)]; omega
  have e2 : row[j]? = some row[j] := List.getElem?_eq_getElem hj
  refine ⟨row, by rw [Int.toNat_natCast]; exact e1, atI_n e1, ?_⟩
  unfold cellG
  rw [Int.toNat_natCast, Int.toNat_natCast, List.getD_eq_getElem?_getD, List.getD_eq_getElem?_getD, e1]
  show atI row j = some ((row[j]?).getD e)
  rw [e2]
  exact atI_n e2
theorem atI_mG {α : Type} {f : α → D} {xs : List α} {i : Int} {x : α} (h : atI xs i = some x) : atI (xs.map f) i = some (f x) := by
  unfold atI at *
  rw [List.length_map]
  cases hx : ixN xs.length i with
  | none => rw [hx] at h; cases h
  | some j =>
    rw [hx] at h
    have h : xs[j]? = some x := h
    show (xs.map f)[j]? = _
    rw [List.getElem?_map, h]; rfl
def tmW (w : Nat) (s : Scr Sg) (t l e : Str) : Scr Sg := sWord w none e (sType w none (sWord w none l s) (t.cps.toList.map some))
theorem tmW_ok {w : Nat} {s : Scr Sg} {t l e : Str} (h : SOk w s) : SOk w (tmW w s t l e) := h.word.type.word
def sTmInit {K : PySem.W.Frag} : Spec K := fun I ds P _ => ∃ (x dx : Addr) (J : Iv K) (w : Nat), ds = [.adr x, .int w] ∧ I = J.and (iIns K x (cTm K) dx []) ∧ 1 ≤ w ∧ w ≤ 99 ∧ ∀ gx dg, P .non (J.and (iTm K x dx gx dg w (sNew w none)))
def sTmWidth {K : PySem.W.Frag} : Spec K := fun I ds P _ => ∃ (x dx gx dg : Addr) (w : Nat) (s : Scr Sg) (c : Rc K), ds = [.adr x] ∧ I = c.fill (iTm K x dx gx dg w s) ∧ P (.int w) I
def sTmPlace {K : PySem.W.Frag} : Spec K := fun I ds P _ => ∃ (x dx gx dg : Addr) (w : Nat) (s : Scr Sg) (c : Rc K), ds = [.adr x] ∧ I = c.fill (iTm K x dx gx dg w s) ∧ P (.tup [.int (s.up.length : Nat), .int (s.co : Nat)]) I
def sTmRows {K : PySem.W.Frag} : Spec K := fun I ds P _ => ∃ (x dx gx dg : Addr) (w : Nat) (s : Scr Sg) (c : Rc K), ds = [.adr x] ∧ I = c.fill (iTm K x dx gx dg w s) ∧ SOk w s ∧ s.up.length ≤ 10000 ∧ ∀ p, P (.adr p) (I.and (iLst K p (s.rows.map fun r => .str (rowTx r))))
def sTmAdd {K : PySem.W.Frag} : Spec K := fun I ds P _ => ∃ (x dx gx dg : Addr) (w : Nat) (s : Scr Sg) (c : Rc K) (kk t l e : Str), ds = [.adr x, wD K kk t l e] ∧ I = c.fill (iTm K x dx gx dg w s) ∧ SOk w s ∧ t.length ≤ 1000 ∧ s.up.length + t.length + 2 ≤ 10000 ∧
  ∀ gx' dg', P (.adr x) ((c.fill (iIns K x (cTm K) dx [("grid", .adr gx')])).and ((iIns K gx (cG K) dg (gdG sgD none w s)).and (iIns K gx' (cG K) dg' (gdG sgD none w (tmW w s t l e)))))
def sIsCellG {K : PySem.W.Frag} : Spec K := fun I ds P R => ∃ (α : Type) (g : α → D) (e : α) (w : Nat) (s : Scr α) (gx dg : Addr) (k : Rc K) (r c : Int), ds = [.adr gx, .int r, .int c] ∧ I = k.fill (iIns K gx (cG K) dg (gdG g e w s)) ∧ P (.bl (isInG w s r c)) I
def sTmGet {K : PySem.W.Frag} : Spec K := fun I ds P R => ∃ (x dx gx dg : Addr) (w : Nat) (s : Scr Sg) (k : Rc K) (r c : Int), ds = [.adr x, .tup [.int r, .int c]] ∧ I = k.fill (iTm K x dx gx dg w s) ∧ SOk w s ∧ if isInG w s r c = true then P (sgD (cellG none s r c)) I else R (He.ga K "NoCell") [("column", .int c), ("row", .int r)] I
section
variable {P : Program} {w : World} {K : PySem.W.Frag} {mg : Str → Option Value} {base : Heap}
theorem M_tmInit (E : Env P w K mg base) : ∃ fd, FnOk P w K mg base (L2.CX P w) 3 (He.ma K (cTm K) "__init__") fd ["self", "width"] (spD K sTmInit) ∧ L2.Binds K fd ["self", "width"] [] := by
  obtain ⟨fd, F⟩ := E.has _ in_m_Terminal_init
  have F : FunD K "__init__" "Terminal.__init__" (defArgs m_Terminal_init) (defBody m_Terminal_init) (defScope m_Terminal_init) [] [] (He.ma K (cTm K) "__init__") fd := F
  refine ⟨fd, ?_, F.bindsN fun _ _ _ _ _ _ us hl => match us, hl with | [_, _], _ => rfl⟩
  refine fn_d F sc_m_Terminal_init (fun I ds P R h => by obtain ⟨x, dx, J, w, rfl, _⟩ := h; rfl) fun cdv A outer s H EE hr tk po I ds Q R h => ?_
  obtain ⟨x, dx, J, n, rfl, rfl, w1, w99, k⟩ := h
  have hr2 : Room 2 _ := hr
  obtain ⟨fdG, FG, bG⟩ := M_grInit E
  refine SX.k ?_
  refine s_cons (s_expr (PV.ev (d := .non) (pv_def (D_lookW E) hr2 (va_cons (pv_v (d := .int n) 1) va_nil) fun P pp => ⟨n, rfl, w1, w99, pp⟩) ?_))
  refine s_one (s_fld E.l_Terminal E.a_Terminal_grid (Fz.ev (ev_makeI tk E.m_Grid FG hr2 E.g_Grid bG (ea_cons ((pv_v (d := .int n) 1).ev (ea_cons ((PV.is pv_str (show _ = sgD none from rfl)).ev (ea_nil fun gx dg _ => ⟨gx, dg, _, Sg, sgD, none, n, rfl, rfl, w99, fun bl bj q => ⟨rfl, _, freeze_grid rfl, .l (.r J .here) (iIns K gx (cG K) dg (gdG sgD none n (sNew n none))), x, dx, _, rfl, pv_v 0, of_decide_eq_true (by rfl), ?_⟩⟩))))))))
  exact ⟨_, Wk.assoc, k gx dg⟩
theorem M_tmWidth (E : Env P w K mg base) : ∃ fd, FnOk P w K mg base (L2.CX P w) 1 (gtr K (cTm K) "width") fd ["self"] (spD K sTmWidth) ∧ L2.Binds K fd ["self"] [] := by
  obtain ⟨fd, F⟩ := E.hasG _ in_m_Terminal_width
  have F : FunD K "width" "Terminal.width" (defArgs m_Terminal_width) (defBody m_Terminal_width) (defScope m_Terminal_width) [] [] (gtr K (cTm K) "width") fd := F
  refine ⟨fd, ?_, F.bindsN fun _ _ _ _ _ _ us hl => match us, hl with | [_], _ => rfl⟩
  refine fn_d F sc_m_Terminal_width (fun I ds P R h => by obtain ⟨x, dx, gx, dg, w, s, c, rfl, _⟩ := h; rfl) fun cdv A outer s0 H EE hr tk po I ds Q R h => ?_
  obtain ⟨x, dx, gx, dg, n, s, c, rfl, rfl, q⟩ := h
  exact s_one (s_retP (pv_fld (d := .int (n : Nat)) _ E.l_Grid E.a_Grid_span (pv_fld (d := .adr gx) _ E.l_Terminal E.a_Terminal_grid (pv_v 0) rfl (eI := tm_x)) rfl (eI := tm_g)) q)
theorem M_tmPlace (E : Env P w K mg base) : ∃ fd, FnOk P w K mg base (L2.CX P w) 1 (gtr K (cTm K) "place") fd ["self"] (spD K sTmPlace) ∧ L2.Binds K fd ["self"] [] := by
  obtain ⟨fd, F⟩ := E.hasG _ in_m_Terminal_place
  have F : FunD K "place" "Terminal.place" (defArgs m_Terminal_place) (defBody m_Terminal_place) (defScope m_Terminal_place) [] [] (gtr K (cTm K) "place") fd := F
  refine ⟨fd, ?_, F.bindsN fun _ _ _ _ _ _ us hl => match us, hl with | [_], _ => rfl⟩
  refine fn_d F sc_m_Terminal_place (fun I ds P R h => by obtain ⟨x, dx, gx, dg, w, s, c, rfl, _⟩ := h; rfl) fun cdv A outer s0 H EE hr tk po I ds Q R h => ?_
  obtain ⟨x, dx, gx, dg, n, s, c, rfl, rfl, q⟩ := h
  exact s_one (s_retP (pv_tup (va_cons (pv_fld (d := .int (s.up.length : Nat)) _ E.l_Grid E.a_Grid_row (pv_fld (d := .adr gx) _ E.l_Terminal E.a_Terminal_grid (pv_v 0) rfl (eI := tm_x)) rfl (eI := tm_g)) (va_cons (pv_fld (d := .int (s.co : Nat)) _ E.l_Grid E.a_Grid_column (pv_fld (d := .adr gx) _ E.l_Terminal E.a_Terminal_grid (pv_v 0) rfl (eI := tm_x)) rfl (eI := tm_g)) va_nil))) q)
theorem M_tmRows (E : Env P w K mg base) : FnR P w K mg base (L2.CX P w) 2 (He.ma K (cTm K) "rows") (spD K sTmRows) := mk_m_Terminal_rows E fun fd F => by
  refine fn_d F sc_m_Terminal_rows (fun I ds P R h => by obtain ⟨x, dx, gx, dg, w, s, c, rfl, _⟩ := h; rfl) fun cdv A outer s0 H EE hr tk po I ds Q R h => ?_
  obtain ⟨x, dx, gx, dg, n, s, c, rfl, rfl, ok, hz, q⟩ := h
  have nd := sc_m_Terminal_rows.nd
  have hr1 : Room 1 _ := hr
  have w99 := ok.w99
  have hrl := rowsG_len ok
  have hrn : s.rows.length ≤ 10001 := by unfold Scr.rows; rw [List.length_append]; simp; omega
  refine s_one (s_ret (ev_lcR [("row", 1)] nd (blkOk_by (by rfl)) (lcRM (xs := s.rows) (g := fun r : List Sg => .lst (r.map sgD)) (fun r => .str (rowTx r)) [("row", 1)] (fun r => [some (.adr x), some (.lst (r.map sgD))]) (vi_lst (pv_fld (d := .lst (s.rows.map fun r => .lst (r.map sgD))) _ E.l_Grid E.a_Grid_cells (pv_fld (d := .adr gx) _ E.l_Terminal E.a_Terminal_grid (pv_v 0) rfl (eI := tm_x)) rfl (eI := tm_g))) (by omega) (fun r s H C cl fp => bind_name 1) (fun r hr' J s H C cl fp => ?_) q)))
  exact pv_def (D_row_text E) hr1 (va_cons (pv_v (d := .lst (r.map sgD)) 1) va_nil) fun P pp => ⟨r, rfl, by rw [hrl r hr']; omega, pp⟩
theorem M_tmAdd (E : Env P w K mg base) : FnR P w K mg base (L2.CX P w) 4 (He.ma K (cTm K) "__iadd__") (spD K sTmAdd) := mk_m_Terminal_iadd E fun fd F => by
  refine fn_d F sc_m_Terminal_iadd (fun I ds P R h => by obtain ⟨x, dx, gx, dg, w, s, c, kk, t, l, e, rfl, _⟩ := h; rfl) fun cdv A outer s0 H EE hr tk po I ds Q R h => ?_
  obtain ⟨x, dx, gx, dg, n, s, c, kk, t, l, e, rfl, rfl, ok, ht, hz, q⟩ := h
  have nd := sc_m_Terminal_iadd.nd
  have hr3 : Room 3 _ := hr
  have hr2 : Room 2 _ := hr.mono (by decide)
  refine SX.k ?_
  refine s_cons (s_set 2 (ev_meth0 tk ⟨fun f => E.l_Grid.get f⟩ E.h_Grid_twin.f E.h_Grid_twin.i E.h_Grid_twin.k (M_twin E) hr3 (PV.ev (d := .adr gx) (pv_fld (d := .adr gx) _ E.l_Terminal E.a_Terminal_grid (pv_v 0) rfl (eI := tm_x)) ⟨insD_ins _ rfl tm_g, Sg, sgD, none, n, s, _, gx, dg, rfl, tm_g, ok, by omega, fun y dy bl bj q' qs hq => ?_⟩)))
  have eg : (c.fill (iTm K x dx gx dg n s)).and (iGrid K bl bj qs q' sgD s y dy n none) = (Rc.r (c.fill (iTm K x dx gx dg n s)) .here).fill (iGrid K bl bj qs q' sgD s y dy n none) := rfl
  have el : t.cps.toList.length = t.length := by simp [Str.length]
  refine s_cons (s_expr (ev_methA tk ⟨fun f => E.l_Grid.get f⟩ E.h_Grid_perform.f E.h_Grid_perform.i E.h_Grid_perform.k (M_perf E) hr3 (PV.ev (d := .adr y) (pv_v 2) ⟨insD_ins _ rfl (eg.trans grid_ins), ea_cons ((pv_v (d := wD K kk t l e) 1).ev (ea_cons (PV.ev (PV.is (pv_listStr E.b_list (pv_wtext E hr2 (pv_v (d := wD K kk t l e) 1)) (by omega)) (z := .lst ((t.cps.toList.map some).map sgD)) (by rw [List.map_map]; rfl)) (ea_nil ⟨Sg, sgD, none, n, s, .r (c.fill (iTm K x dx gx dg n s)) .here, y, dy, bl, bj, q', qs, _, _, _, rfl, ⟨t.cps.toList.map some, kk, t, l, e, rfl, rfl, rfl⟩, rfl, ok, hq, by rw [List.length_map, el]; omega, trivial, fun bl' bj' qs' q'' hq' => ?_⟩))))⟩)))
  refine Fz.sx (freeze_grid hq') ?_
  refine s_cons (s_fldP (.l (c.comp (.l .here (iIns K gx (cG K) dg (gdG sgD none n s)))) (iIns K y (cG K) dy (gdG sgD none n (tmW n s t l e)))) E.l_Terminal E.a_Terminal_grid (pv_v 0) (pv_v (d := .adr y) 2) ?_ (eI := congrArg (fun J : Iv K => J.and (iIns K y (cG K) dy (gdG sgD none n (tmW n s t l e)))) tm_x))
  refine s_one (s_retP (pv_v 0) ⟨_, ?_, q y dy⟩)
  show Wk (((c.comp (.l .here (iIns K gx (cG K) dg (gdG sgD none n s)))).fill (iIns K x (cTm K) dx [("grid", .adr y)])).and (iIns K y (cG K) dy (gdG sgD none n (tmW n s t l e)))) _
  rw [fill_comp]
  exact (Wk.andL (Wk.push c)).trans Wk.assoc
theorem M_isCellG (E : Env P w K mg base) : FnR P w K mg base (L2.CX P w) 1 (He.ma K (cG K) "is_cell") (spD K sIsCellG) := mk_m_Grid_is_cell E fun fd F => by
  refine fn_d F sc_m_Grid_is_cell (fun I ds P R h => by obtain ⟨α, g, e, w, s, gx, dg, k, r, c, rfl, _⟩ := h; rfl) fun cdv Ac outer s0 H EE hr tk po I ds Q R h => ?_
  obtain ⟨α, g, e, w, s, gx, dg, k, r, c, rfl, rfl, q⟩ := h
  have e1 : ((s.rows.map fun r : List α => D.lst (r.map g)).length : Int) = (s.rows.length : Nat) := by rw [List.length_map]
  exact s_one (s_retP (PV.is (pv_andB (pv_chnT op_le op_lt pv_int (pv_v (d := .int r) 1) p2_le (PV.is (pv_len E.b_len (pv_fld (d := .lst (s.rows.map fun r => .lst (r.map g))) k E.l_Grid E.a_Grid_cells (pv_v (d := .adr gx) 0) rfl) trivial) (congrArg D.int e1)) p2_lt) fun _ => pv_one (pv_chnT op_le op_lt pv_int (pv_v (d := .int c) 2) p2_le (pv_fld (d := .int (w : Nat)) k E.l_Grid E.a_Grid_span (pv_v (d := .adr gx) 0) rfl) p2_lt)) rfl) q)
theorem M_tmGet (E : Env P w K mg base) : FnR P w K mg base (L2.CX P w) 3 (He.ma K (cTm K) "__getitem__") (spD K sTmGet) := mk_m_Terminal_getitem E fun fd F => by
  refine fn_d F sc_m_Terminal_getitem (fun I ds P R h => by obtain ⟨x, dx, gx, dg, w, s, k, r, c, rfl, _⟩ := h; rfl) fun cdv Ac outer s0 H EE hr tk po I ds Q R h => ?_
  obtain ⟨x, dx, gx, dg, w, s, k, r, c, rfl, rfl, ok, q⟩ := h
  have nd := sc_m_Terminal_getitem.nd
  have hr2 : Room 2 _ := hr
  have hr1 : Room 1 _ := hr.mono (by decide)
  have hrl := rowsG_len ok
  refine s_cons (s_asgP (d := .tup [.int r, .int c]) (pv_v 1) (bind_tup (ws := [2, 3]) (bs_cons (bind_name 2) (bs_cons (bind_name 3) bs_nil))) ?_)
  refine s_cons (s_ifP (ptn (pt_v (k := isInG w s r c) (fun W R P pp => EvX.weak (ev_methA takesF ⟨fun f => E.l_Grid.get f⟩ E.h_Grid_is_cell.f E.h_Grid_is_cell.i E.h_Grid_is_cell.k (M_isCellG E) hr1 (PV.ev (pv_fld (d := .adr gx) _ E.l_Terminal E.a_Terminal_grid (pv_w (d := .adr x) 0 rfl) rfl (eI := tm_x)) ⟨insD_ins _ rfl tm_g, ea_cons ((pv_w (d := .int r) 2 rfl).ev (ea_cons ((pv_w (d := .int c) 3 rfl).ev (ea_nil ⟨Sg, sgD, none, w, s, gx, dg, _, r, c, rfl, tm_g, pp⟩))))⟩))))) (fun hb => ?_) fun hb => s_nil ?_)
  · rw [if_neg (by simpa using hb)] at q
    exact s_one (s_rz tk E.x_NoCell E.ini_NoCell hr2 (ea_cons ((pv_w (d := .int r) 2 rfl).ev (ea_cons ((pv_w (d := .int c) 3 rfl).ev (ea_nil ⟨rfl, Nat.le_of_ble_eq_true rfl, q⟩))))))
  · have hb : isInG w s r c = true := by simpa using hb
    rw [if_pos hb] at q
    obtain ⟨row, _, h2, h3⟩ := cellG_get (e := none) hrl hb
    exact s_one (s_retP (pv_ix ix_list (pv_ix ix_list (pv_fld (d := .lst (s.rows.map fun r => .lst (r.map sgD))) _ E.l_Grid E.a_Grid_cells (pv_fld (d := .adr gx) _ E.l_Terminal E.a_Terminal_grid (pv_w (d := .adr x) 0 rfl) rfl (eI := tm_x)) rfl (eI := tm_g)) (pv_w (d := .int r) 2 rfl) (p2_ixL (atI_mG h2))) (pv_w (d := .int c) 3 rfl) (p2_ixL (atI_mG h3))) q)
end
end LK
set_option Elab.async false
set_option linter.all false
set_option maxRecDepth 100000
set_option maxHeartbeats 4000000
namespace DL
open PySem PySem.Spec PyProof.Rows L2
section
variable {X : Cx} {W : WX} {R : Rx X.K} {n1 n2 : Nat} {C : Addr} {SE SF : Spec X.K} {δ : DEnv} {I : Iv X.K} {ctx : Expr} {body : List Stmt} {pos py : Pos} {κ : Ko X.K} {y : Str}
end
end DL
set_option Elab.async false
set_option linter.all false
set_option maxRecDepth 100000
set_option maxHeartbeats 4000000
namespace DL
end DL
namespace SV
open PySem PySem.Spec PyProof.Rows DL
section
variable {prog : Program} {w : World} {A : Around} {R : Result → Shared → Prop} {J S : Addr} {fp wr : List Addr} {G : Array GenState → Array GenState → Prop} {P : Nat → Value → Prop} {St : Nat → Shared → Prop}
theorem stay {h h' : Heap} {T : Str → Bool} {n : Nat} (e : ∀ o, h.get? S = some o → h'.get? S = some o) (x : h.SetOf (PySem.strKind prog w) S T n) : h'.SetOf (PySem.strKind prog w) S T n := by
  obtain ⟨o, es, ep, tb, ho, r⟩ := x
  exact ⟨o, es, ep, tb, e o ho, r⟩
end
end SV
set_option Elab.async false
set_option linter.all false
set_option maxRecDepth 100000
set_option maxHeartbeats 4000000
namespace SV
open PySem PySem.Spec PyProof.Rows DL
section
variable {prog : Program} {w : World} {A : Around} {E : Value → Shared → Prop} {s : Shared}
end
end SV
namespace L2
open PySem PySem.Spec PyProof.Rows
section
variable {X : Cx} {a : Expr} {ta : TE} {p p2 q pos : Pos}
end
end L2
namespace DL
open PySem PySem.Spec PyProof.Rows L2
section
variable {X : Cx} {a : Expr} {δ : DEnv} {I : Iv X.K} {p p2 q pos : Pos} {xs : List Str}
end
end DL
set_option Elab.async false
set_option linter.all false
set_option maxRecDepth 100000
set_option maxHeartbeats 4000000
namespace SW
open PySem PySem.W PySem.Calls PyProof.Rows
noncomputable def kW (h : Heap) (ds : List PyData) : PyProof.Rows.KeyKind := dataKind h ds
section
variable {prog : Program} {w : World} {A : Around} {s : Shared}
end
end SW
namespace DL
open PySem PySem.Spec PyProof.Rows L2
section
variable {X : Cx}
end
section
variable {X : Cx} {e : Expr} {δ : DEnv} {I : Iv X.K} {pos p : Pos} {ds : List D} {W : WX} {R : Rx X.K} {P : D → Iv X.K → Prop}
end
end DL
set_option Elab.async false
set_option linter.all false
set_option maxRecDepth 100000
set_option maxHeartbeats 4000000
namespace L2
open PySem PySem.Spec PyProof.Rows
section
variable {X : Cx}
end
structure KF where
  o : Obj
  es : Array DictEntry
  ep : Nat
  xs : List (NestedKey × Addr × Value)
def keysΦ (P : Program) (w : World) (q : Addr) (F : KF) (h : Heap) : Prop := (q == sysModules) = false ∧ h.get? q = some F.o ∧ F.o.ExactDict ∧ F.o.data = .dict F.es F.ep ∧ F.es.toList = F.xs.map (entryOfKey (nestedKind P w))
def keysO (P : Program) (w : World) (q : Addr) (F : KF) : HO := .ext (keysΦ P w q F)
theorem KF.sz {P : Program} {w : World} {q : Addr} {F : KF} {h : Heap} (m : keysΦ P w q F h) : F.es.size = F.xs.length := by
  have := congrArg List.length m.2.2.2.2
  rwa [List.length_map, Array.length_toList] at this
section
variable {X : Cx} {tg e : Expr} {td : TE}
end
end L2
set_option Elab.async false
set_option linter.all false
set_option maxRecDepth 100000
set_option maxHeartbeats 4000000
namespace DL
open PySem PySem.Spec PyProof.Rows L2
def putN (kds : List (NestedKey × D)) (k : NestedKey) : List (NestedKey × D) := if (getN kds k).isSome then kds else kds ++ [(k, .bl true)]
def AllT (kds : List (NestedKey × D)) : Prop := ∀ p ∈ kds, p.2 = .bl true
theorem AllT.put {kds : List (NestedKey × D)} {k : NestedKey} (h : AllT kds) : AllT (putN kds k) := by
  unfold putN
  split
  · exact h
  · intro p hp
    rcases List.mem_append.mp hp with hp | hp
    · exact h p hp
    · rw [List.mem_singleton.mp hp]
theorem getN_mem {kds : List (NestedKey × D)} {k : NestedKey} {d : D} (h : getN kds k = some d) : ∃ p ∈ kds, p.2 = d := by
  unfold getN at h
  obtain ⟨p, hp, e⟩ := Option.map_eq_some_iff.mp h
  exact ⟨p, List.mem_of_find?_eq_some hp, e⟩
theorem MR.all {K : PySem.W.Frag} {G : Hp} {k : NestedKey} {u : Value} (hu : RelV (.bl true) u) : ∀ {kds : List (NestedKey × D)} {xs : L2.MX}, AllT kds → MR K G kds xs → MR K G kds (xs.map (putAt k u))
  | [], _, _, h => by rw [show _ = [] from h]; rfl
  | p :: r, _, t, ⟨a, v, u', rest, e, h1, h2, h3, h4, h5⟩ => by
    have hr := MR.all (k := k) hu (fun q hq => t q (List.mem_cons_of_mem _ hq)) h5
    have e1 := t p List.mem_cons_self
    subst e
    rw [List.map_cons]
    unfold putAt
    by_cases hk : p.1 = k
    · rw [if_pos hk]
      exact ⟨a, .bl true, u, _, rfl, h1, h2, hu, by rw [e1]; rfl, hr⟩
    · rw [if_neg hk]
      exact ⟨a, v, u', _, rfl, h1, h2, h3, h4, hr⟩
section
variable {X : Cx} {W : WX} {κ : Ko X.K} {kx tg iter c e : Expr} {scope : Scope} {δ : DEnv} {I : Iv X.K} {pos : Pos} {p : Addr} {sts : List Stmt}
end
def iKeys (P : Program) (w : World) (K : PySem.W.Frag) (q : Addr) (F : KF) (kds : List (NestedKey × D)) : Iv K := iObj K q (fun G o => o = keysO P w q F ∧ MR K G kds F.xs) fun _ _ _ s ⟨h1, h2⟩ => ⟨h1, h2.mono s⟩
structure KeI {K : PySem.W.Frag} (P : Program) (w : World) (I : Iv K) (q : Addr) (F : KF) (kds : List (NestedKey × D)) : Prop where
  h : ∀ (G H : Hp), Same G H → Hd I G H → H q = some (keysO P w q F) ∧ MR K G kds F.xs
section
variable {P : Program} {w : World} {K : PySem.W.Frag} {q : Addr} {F : KF} {kds : List (NestedKey × D)} {I J : Iv K}
theorem KeI.wk (h : KeI P w I q F kds) (k : Wk J I) : KeI P w J q F kds := ⟨fun G H s hd => h.h G H s (hd.wk k)⟩
theorem KeI.m (c : Rc K) : KeI P w (c.fill (iKeys P w K q F kds)) q F kds := ⟨fun G H s hd => by
  obtain ⟨o, ho, e, r⟩ := hd.inner.ph
  subst e
  exact ⟨ho, r⟩⟩
end
section
variable {X : Cx} {W : WX} {R : Rx X.K} {κ : Ko X.K} {tg iter : Expr} {δ : DEnv} {I : Iv X.K} {q : Addr} {F : KF} {kds : List (NestedKey × D)} {sts : List Stmt} {PP : List D → (Iv X.K → Prop) → Iv X.K → Prop}
end
end DL
set_option Elab.async false
set_option linter.all false
set_option maxRecDepth 100000
set_option maxHeartbeats 4000000
namespace DL
open PySem PySem.Spec PyProof.Rows L2
structure WkI (X : Cx) (tg iter : Expr) (δ : DEnv) (I : Iv X.K) (ds : List D) (Ok : Iv X.K → Prop) : Prop where
  ok : Ok I
  h : ∀ (W : WX) (R : Rx X.K) (PP : List D → (Iv X.K → Prop) → Iv X.K → Prop), PP ds Ok I → EvIR X W R tg iter δ I PP
section
variable {X : Cx} {W : WX} {R : Rx X.K} {κ : Ko X.K} {elt tg iter c e : Expr} {scope : Scope} {body : List Stmt} {δ : DEnv} {I : Iv X.K} {pos p2 : Pos} {p : Addr} {ds : List D} {Ok : Iv X.K → Prop}
theorem wk_m (h : PV X I iter δ (.adr p)) (l : LsI I (.adr p) ds) : WkI X tg iter δ I ds (fun I' => LsI I' (.adr p) ds) := ⟨l, fun W R PP pp => eir_m h l pp⟩
theorem pv_lcW0 {α : Type} {xs : List α} {g : α → D} (hi : WkI X tg iter δ I (xs.map g) Ok) (f : α → D) (own : List (Str × Nat)) (δ' : α → DEnv) (hz : xs.length ≤ 1000000)
    (hb : ∀ (x : α) (s : Shared) (H : Hp) (C : Addr) (cl : List (Str × Addr)) (fp : List Addr), BindD (X.blk s H scope (compEnvC scope cl C X.env) fp) tg (g x) (wipeD δ (own.map (·.2))) (δ' x) (own.map (·.2)))
    (he : ∀ x, x ∈ xs → ∀ (J : Iv X.K) (s : Shared) (H : Hp) (C : Addr) (cl : List (Str × Addr)) (fp : List Addr), PV (X.blk s H scope (compEnvC scope cl C X.env) fp) (I.and J) elt (δ' x) (f x))
    (hN : X.N.Nodup := by assumption) (ok : blkC X.N X.env.scope scope own = true := by rfl)
    (hc : X.calm = true := by rfl) (hs : ∀ x, foldedSetIterable iter X.env x = pure x := by intro _; rfl) : PV X I (.ListComp elt [⟨tg, iter, [], 0⟩] scope pos) δ (.lst (xs.map f)) := fun W R P pp => by
  refine ev_freezeL (ev_lcR own hN (blkOk_by ok) (hi.h W R _ ⟨by simpa using hz, fun i ys I' => ys = (xs.take i).map f ∧ I' = I, ⟨rfl, rfl⟩, fun i ys I' h => by rw [h.2]; exact hi.ok, ?_, fun ys I' e q => ?_⟩) hc hs)
  · rintro i d ys I' hd ⟨rfl, rfl⟩
    obtain ⟨x, hx, rfl⟩ := get_map hd
    refine ⟨fun b => b = true, δ' x, fun J s H C cl fp => ⟨hb x s H C cl fp, ets_nil ⟨rfl, rfl⟩⟩, fun _ J s H C cl fp => he x (List.mem_of_getElem? hx) J s H C cl fp _ _ _ ⟨I', .refl, ?_, rfl⟩, fun h => nomatch h⟩
    rw [take_snoc hx, List.map_append]; rfl
  · obtain ⟨rfl, rfl⟩ := e
    rw [List.length_map, List.take_length]
    exact ⟨q, _, _, rfl, rfl, pp⟩
theorem s_forW {α : Type} {xs : List α} {g : α → D} (po : PassesOwn (model X.prog X.w) X.A X.env X.xe) (hi : WkI X tg iter δ I (xs.map g) Ok) (Nv : List α → DEnv → Iv X.K → Prop) (h0 : Nv [] δ I) (hok : ∀ p δ' I', Nv p δ' I' → Ok I')
    (step : ∀ p x r δ' I', xs = p ++ x :: r → Nv p δ' I' → ∃ δ'' vs, BindD X tg (g x) δ' δ'' vs ∧ SX X W body δ'' I' { κ with nx := Nv (p ++ [x]), ct := Nv (p ++ [x]), bk := κ.nx }) (fin : ∀ δ' I', Nv xs δ' I' → κ.nx δ' I')
    (hc : X.calm = true := by rfl) (hs : ∀ x, foldedSetIterable iter X.env x = pure x := by intro _; rfl) : S1 X W (.For tg iter body [] pos) δ I κ :=
  s_forR po (hi.h W (κ.r δ) _ ⟨fun i => Nv (xs.take i), h0, fun i δ' I' nv => hok _ _ _ nv, fun i d δ' I' hd nv => by
    obtain ⟨x, hx, rfl⟩ := get_map hd
    have hl := (List.getElem?_eq_some_iff.mp hx).1
    have e : xs = xs.take i ++ x :: xs.drop (i + 1) := by
      rw [← (List.getElem?_eq_some_iff.mp hx).2, List.getElem_cons_drop hl, List.take_append_drop]
    have e2 : xs.take (i + 1) = xs.take i ++ [x] := take_snoc hx
    obtain ⟨δ'', vs, b, q⟩ := step _ x _ δ' I' e nv
    rw [← e2] at q
    exact ⟨δ'', vs, b, q⟩, fun δ' I' nv => fin δ' I' (by rw [List.length_map, List.take_length] at nv; exact nv)⟩) hc hs
end
end DL
set_option Elab.async false
set_option linter.all false
set_option maxRecDepth 100000
set_option maxHeartbeats 1000000
namespace DL
open PySem PySem.Spec PyProof.Rows L2
theorem wk_i {X : Cx} {tg iter : Expr} {δ : DEnv} {I : Iv X.K} {z : D} {ds : List D} (h : PV X I iter δ z) (l : LsI I z ds) (hz : z = .lst ds ∨ ∃ p, z = .adr p) : ∃ Ok : Iv X.K → Prop, WkI X tg iter δ I ds Ok ∧ ∀ J, LsI J z ds → Ok J := by
  rcases hz with rfl | ⟨p, rfl⟩
  · exact ⟨fun _ => True, ⟨trivial, fun W R PP pp => eir_d (vi_lst h W R _ pp)⟩, fun _ _ => trivial⟩
  · exact ⟨_, wk_m h l, fun J l => l⟩
theorem s_forI {X : Cx} {W : WX} {κ : Ko X.K} {tg iter : Expr} {body : List Stmt} {pos : Pos} {δ : DEnv} {I : Iv X.K} {z : D} {α : Type} {xs : List α} {g : α → D} (po : PassesOwn (model X.prog X.w) X.A X.env X.xe) (h : PV X I iter δ z) (hz : z = .lst (xs.map g) ∨ ∃ p, z = .adr p) (l : LsI I z (xs.map g)) (Nv : List α → DEnv → Iv X.K → Prop) (h0 : Nv [] δ I) (hok : ∀ p δ' I', Nv p δ' I' → LsI I' z (xs.map g))
    (step : ∀ p x r δ' I', xs = p ++ x :: r → Nv p δ' I' → ∃ δ'' vs, BindD X tg (g x) δ' δ'' vs ∧ SX X W body δ'' I' { κ with nx := Nv (p ++ [x]), ct := Nv (p ++ [x]), bk := κ.nx }) (fin : ∀ δ' I', Nv xs δ' I' → κ.nx δ' I')
    (hc : X.calm = true := by rfl) (hs : ∀ x, foldedSetIterable iter X.env x = pure x := by intro _; rfl) : S1 X W (.For tg iter body [] pos) δ I κ := by
  obtain ⟨Ok, wk, hOk⟩ := wk_i (tg := tg) h l hz
  exact s_forW po wk Nv h0 (fun p δ' I' nv => hOk _ (hok p δ' I' nv)) step fin hc hs
end DL
namespace LK
open PySem PySem.Spec PyProof.Rows L2 DL
def tmF (w : Nat) (s : Scr Sg) (ws : List Wr) : Scr Sg := ws.foldl (fun s x => tmW w s x.t x.l x.e) s
theorem tmF_snoc {w : Nat} {s : Scr Sg} (ws : List Wr) (x : Wr) : tmF w s (ws ++ [x]) = tmW w (tmF w s ws) x.t x.l x.e := by unfold tmF; rw [List.foldl_append]; rfl
theorem tmF_ok {w : Nat} : ∀ (ws : List Wr) {s : Scr Sg}, SOk w s → SOk w (tmF w s ws)
  | [], _, h => h
  | x :: r, _, h => tmF_ok r (tmW_ok h)
theorem tmW_up {w : Nat} {s : Scr Sg} {t l e : Str} (ht : t.length ≤ 40) : (tmW w s t l e).up.length ≤ s.up.length + 42 := by
  unfold tmW
  have h1 := up_word (w := w) (e := (none : Sg)) (wd := e) (s := sType w none (sWord w none l s) (t.cps.toList.map some))
  have h2 := up_type (w := w) (e := (none : Sg)) (s := sWord w none l s) (xs := t.cps.toList.map some)
  have h3 := up_word (w := w) (e := (none : Sg)) (wd := l) (s := s)
  rw [List.length_map] at h2
  have el : t.cps.toList.length = t.length := by simp [Str.length]
  omega
theorem tmF_up {w : Nat} : ∀ (ws : List Wr) {s : Scr Sg}, (∀ x ∈ ws, x.t.length ≤ 40) → (tmF w s ws).up.length ≤ s.up.length + 42 * ws.length
  | [], s, _ => Nat.le_add_right _ _
  | x :: r, s, h => by
    have h1 := tmF_up (w := w) r (s := tmW w s x.t x.l x.e) fun y hy => h y (List.mem_cons_of_mem _ hy)
    have h2 := tmW_up (w := w) (s := s) (l := x.l) (e := x.e) (h x List.mem_cons_self)
    have e : tmF w s (x :: r) = tmF w (tmW w s x.t x.l x.e) r := rfl
    rw [e, List.length_cons]
    omega
abbrev rowsD (s : Scr Sg) : List D := s.rows.map fun r => .str (rowTx r)
def sShown {K : PySem.W.Frag} : Spec K := fun I ds P _ => ∃ (n : Nat) (ws : List Wr) (z : D), ds = [.int n, z] ∧ 1 ≤ n ∧ n ≤ 99 ∧ (∀ x ∈ ws, x.t.length ≤ 40) ∧ ws.length ≤ 100 ∧ LsI I z (ws.map (wrD K)) ∧ (z = .lst (ws.map (wrD K)) ∨ ∃ p, z = .adr p) ∧
  ∀ p, P (.adr p) (I.and (iLst K p (rowsD (tmF n (sNew n none) ws))))
section
variable {P : Program} {w : World} {K : PySem.W.Frag} {mg : Str → Option Value} {base : Heap}
theorem D_shown (E : Env P w K mg base) : Def P w K mg base "shown" 5 ["width", "writes"] [] sShown := mk_f_shown E fun fd F => by
  refine fn_d F sc_f_shown (fun I ds P R h => by obtain ⟨n, ws, z, rfl, _⟩ := h; rfl) fun cdv A outer s0 H EE hr tk po I ds Q R h => ?_
  obtain ⟨n, ws, z, rfl, w1, w99, ht, hl, li, hz, q⟩ := h
  have nd := sc_f_shown.nd
  have hr4 : Room 4 _ := hr
  have hr2 : Room 2 _ := hr.mono (by decide)
  obtain ⟨fdT, FT, bT⟩ := M_tmInit E
  refine SX.k ?_
  refine s_cons (s_set 2 (ev_makeI tk E.m_Terminal FT hr4 E.g_Terminal bT (ea_cons ((pv_v (d := .int n) 0).ev (ea_nil fun x dx _ => ⟨x, dx, _, n, rfl, rfl, w1, w99, fun gx dg => ⟨rfl, ?_⟩⟩)))))
  refine s_cons (s_forI (xs := ws) (g := wrD K) po (pv_w (d := z) 1 rfl) hz (li.wk Wk.dropR) (fun p δ' I' => ∃ gx dg o3, I' = I.and (iTm K x dx gx dg n (tmF n (sNew n none) p)) ∧ δ' = [some (.int n), some z, some (.adr x), o3]) ⟨gx, dg, none, rfl, rfl⟩ (fun p δ' I' ⟨gx, dg, o3, e, _⟩ => by rw [e]; exact li.wk Wk.dropR) ?_ ?_)
  · rintro p y r δ' I' e ⟨gx, dg, o3, rfl, rfl⟩
    have hy : y ∈ ws := by rw [e]; simp
    have hu := tmF_up (w := n) (s := sNew n none) p fun y hy => ht y (by rw [e]; simp [hy])
    have hpl : p.length + 1 ≤ ws.length := by rw [e, List.length_append, List.length_cons]; omega
    have h0 : (sNew n (none : Sg)).up.length = 0 := rfl
    have hyl := ht y hy
    refine ⟨_, [3], bind_name 3, SX.k ?_⟩
    refine s_one (s_augOwn 2 tk (C := cTm K) E.h_Terminal_iadd.f E.h_Terminal_iadd.i E.sf_Terminal (M_tmAdd E) hr4 rfl ((pv_v (d := wrD K y) 3).ev ⟨insD_ins _ rfl (tm_x (c := .r I .here)), x, dx, gx, dg, n, _, .r I .here, _, _, _, _, rfl, rfl, tmF_ok p (SOk.new w1 w99), by omega, by omega, fun gx' dg' => ?_⟩))
    refine ⟨_, ?_, gx', dg', _, rfl, rfl⟩
    rw [tmF_snoc]
    exact (Wk.andR Wk.dropL).trans Wk.assoc
  · rintro δ' I' ⟨gx, dg, o3, rfl, rfl⟩
    have hu := tmF_up (w := n) (s := sNew n none) ws ht
    have h0 : (sNew n (none : Sg)).up.length = 0 := rfl
    refine s_one (s_ret (ev_meth0 tk ⟨fun f => E.l_Terminal.get f⟩ E.h_Terminal_rows.f E.h_Terminal_rows.i E.h_Terminal_rows.k (M_tmRows E) hr2 (PV.ev (d := .adr x) (pv_w 2 rfl) ⟨insD_ins _ rfl (tm_x (c := .r I .here)), x, dx, gx, dg, n, _, .r I .here, rfl, rfl, tmF_ok ws (SOk.new w1 w99), by omega, fun p => ⟨_, ?_, q p⟩⟩)))
    exact Wk.andL Wk.dropR
end
end LK
set_option Elab.async false
set_option linter.all false
set_option maxRecDepth 100000
set_option maxHeartbeats 1000000
namespace LK
open PySem PySem.Spec PyProof.Rows L2 DL
def SgOk (c : Sg) : Prop := ∀ x, c = some x → x < 1114112
theorem tmW_sg {w : Nat} {s : Scr Sg} {t l e : Str} (h : ScrAll SgOk s) (ht : PyData.strOk t = true) : ScrAll SgOk (tmW w s t l e) := by
  have hn : SgOk none := fun x e => nomatch e
  refine ScrAll.word (ScrAll.type hn (ScrAll.word h hn) fun c hc => ?_) hn
  obtain ⟨x, hx, rfl⟩ := List.mem_map.mp hc
  unfold PyData.strOk at ht
  rw [← Array.all_toList] at ht
  have := List.all_eq_true.mp ht x hx
  exact fun y e => by cases e; exact of_decide_eq_true this
theorem tmF_sg {w : Nat} : ∀ (ws : List Wr) {s : Scr Sg}, ScrAll SgOk s → (∀ x ∈ ws, PyData.strOk x.t = true) → ScrAll SgOk (tmF w s ws)
  | [], _, h, _ => h
  | x :: r, _, h, k => tmF_sg r (tmW_sg h (k x List.mem_cons_self)) fun y hy => k y (List.mem_cons_of_mem _ hy)
theorem sg0 {w : Nat} : ScrAll SgOk (sNew w (none : Sg)) := ScrAll.new fun x e => nomatch e
theorem rowTx_ok {r : List Sg} (h : ∀ c ∈ r, SgOk c) : PyData.strOk (rowTx r) = true := by
  unfold PyData.strOk rowTx
  rw [← Array.all_toList]
  refine List.all_eq_true.mpr fun c hm => ?_
  have hm : c ∈ rsp (r.map fun c => c.getD 32) := hm
  rw [rsp_take] at hm
  have hm := List.mem_of_mem_take hm
  obtain ⟨x, hx, rfl⟩ := List.mem_map.mp hm
  cases x with
  | none => exact (by decide : decide (32 < 1114112) = true)
  | some x => exact decide_eq_true (h _ hx x rfl)
theorem scr_row {s : Scr Sg} (h : ScrAll SgOk s) : ∀ r ∈ s.rows, ∀ c ∈ r, SgOk c := fun r hr => by
  unfold Scr.rows at hr
  rcases List.mem_append.mp hr with h1 | h1
  · exact h.1 r h1
  · rw [List.mem_singleton.mp h1]; exact h.2
theorem rowsD_ok {s : Scr Sg} (h : ScrAll SgOk s) : OkD 1 (.lst (rowsD s)) := OkD.lst (n := 0) (OkD.map fun r hr => OkD.str (rowTx_ok (scr_row h r hr)))
theorem wr_strOk {x : Wr} (h : GoodR x) : PyData.strOk x.t = true := strOk_of h.g.gs
section
variable {X : Cx} {δ : DEnv} {I : Iv X.K} {e f : Expr} {pos apos p : Pos} {x dx gx dg : Addr} {n : Nat} {s : Scr Sg} {ws : List Wr} {z : D}
theorem pv_tmRows {pl : Sem Bool} (E : Env X.prog X.w X.K X.mg X.base) (hr : Room 2 X.A) (c : Rc X.K) (ho : PV X I e δ (.adr x)) (eI : I = c.fill (iTm X.K x dx gx dg n s)) (ok : SOk n s) (hz : s.up.length ≤ 10000)
    (ht : eval (.Call (.Attribute e "rows" apos) [] [] pos) X.env = (do
      let ov ← eval e X.env
      standAt apos.atName
      let (f, first) ← holding [ov] (getMethod ov "rows" pl)
      callWith pos f first (backTo pos (starEach [] X.env)) (backToKw pos (keywordEach [] X.env))) := by rfl) : PV X I (.Call (.Attribute e "rows" apos) [] [] pos) δ (.lst (rowsD s)) := fun W R P pp => by
  subst eI
  exact EvX.weak (ev_freezeL (ev_meth0 takesF ⟨fun f => E.l_Terminal.get f⟩ E.h_Terminal_rows.f E.h_Terminal_rows.i E.h_Terminal_rows.k (M_tmRows E) hr (PV.ev (d := .adr x) ho ⟨insD_ins _ rfl tm_x, x, dx, gx, dg, n, s, c, rfl, rfl, ok, hz, fun q => ⟨q, _, _, rfl, rfl, pp⟩⟩) ht))
end
end LK
set_option Elab.async false
set_option linter.all false
set_option maxRecDepth 100000
set_option maxHeartbeats 1000000
namespace LK
open PySem PySem.Spec PyProof.Rows L2 DL
def sWidthW {K : PySem.W.Frag} : Spec K := fun I ds P _ => ∃ (a b : Addr) (c : Rc K), ds = [.adr a] ∧ I = c.fill (iDr K a b) ∧ ∀ w : Nat, 1 ≤ w → w ≤ 99 → P (.int w) I
section
variable {P : Program} {w : World} {K : PySem.W.Frag} {mg : Str → Option Value} {base : Heap}
theorem D_widthW (E : Env P w K mg base) : Def P w K mg base "_law_width" 2 ["_law_h"] [] sWidthW := mk_f_Lwidth E fun fd F => by
  refine fn_d F sc_f_Lwidth (fun I ds P R h => by obtain ⟨a, b, c, rfl, _⟩ := h; rfl) fun cdv A outer s H EE hr tk po I ds Q R h => ?_
  obtain ⟨a, b, c, rfl, rfl, q⟩ := h
  have hr1 : Room 1 _ := hr
  refine s_one (s_ret (ev_ix ix_list (PV.ev (pv_lst (va_cons pv_int (va_cons pv_int (va_cons pv_int (va_cons pv_int (va_cons pv_int (va_cons pv_int (va_cons pv_int (va_cons pv_int va_nil))))))))) (ev_nextP tk (D_next E) hr1 c (pv_v 0) pv_int rfl (by decide) fun k k0 k1 => o2_ixL k0 k1 fun d hd => ?_))))
  simp only [List.mem_cons, List.not_mem_nil, or_false] at hd
  rcases hd with rfl | rfl | rfl | rfl | rfl | rfl | rfl | rfl
  · exact q 1 (by decide) (by decide)
  · exact q 2 (by decide) (by decide)
  · exact q 3 (by decide) (by decide)
  · exact q 4 (by decide) (by decide)
  · exact q 5 (by decide) (by decide)
  · exact q 7 (by decide) (by decide)
  · exact q 12 (by decide) (by decide)
  · exact q 99 (by decide) (by decide)
end
end LK
set_option Elab.async false
set_option linter.all false
set_option maxRecDepth 100000
set_option maxHeartbeats 2000000
namespace DL
open PySem PySem.Spec PyProof.Rows L2
section
variable {X : Cx} {I : Iv X.K} {δ : DEnv} {a b elt tg iter : Expr} {scope : Scope} {pos : Pos} {x z : D} {ds : List D}
theorem pv_lcJ {α : Type} {xs : List α} {g : α → D} (h : PV X I iter δ z) (hz : z = .lst (xs.map g) ∨ ∃ p, z = .adr p) (l : LsI I z (xs.map g)) (f : α → D) (own : List (Str × Nat)) (δ' : α → DEnv) (hl : xs.length ≤ 1000000)
    (hb : ∀ (x : α) (s : Shared) (H : Hp) (C : Addr) (cl : List (Str × Addr)) (fp : List Addr), BindD (X.blk s H scope (compEnvC scope cl C X.env) fp) tg (g x) (wipeD δ (own.map (·.2))) (δ' x) (own.map (·.2)))
    (he : ∀ x, x ∈ xs → ∀ (J : Iv X.K) (s : Shared) (H : Hp) (C : Addr) (cl : List (Str × Addr)) (fp : List Addr), PV (X.blk s H scope (compEnvC scope cl C X.env) fp) (I.and J) elt (δ' x) (f x))
    (hN : X.N.Nodup := by assumption) (ok : blkC X.N X.env.scope scope own = true := by rfl)
    (hc : X.calm = true := by rfl) (hs : ∀ x, foldedSetIterable iter X.env x = pure x := by intro _; rfl) : PV X I (.ListComp elt [⟨tg, iter, [], 0⟩] scope pos) δ (.lst (xs.map f)) := by
  obtain ⟨Ok, wk, _⟩ := wk_i (tg := tg) h l hz
  exact pv_lcW0 wk f own δ' hl hb he hN ok hc hs
theorem p2_neI2 {K : PySem.W.Frag} {I : Iv K} {y : D} (l : LsI I y ds) (hx : okEq x = true) (hy : okEq (.lst ds) = true) : P2 K I (rNeD K) x y (.bl (!eqD x (.lst ds))) := fun P pp G H v w Q s hI r1 r2 q => by
  obtain ⟨a1, a2⟩ := Bool.and_eq_true_iff.mp hx
  obtain ⟨b1, b2⟩ := Bool.and_eq_true_iff.mp hy
  obtain ⟨c, vs, ec, hc, rs⟩ := l.h G H w s hI r2
  subst ec
  exact ⟨_, _, dp_of s a1 r1, .lst (SqL.of hc) (dps_of s b1 rs), a2, b2, q _ (.bl _) G H I (Same.refl G) s hI rfl pp⟩
theorem pt_neI2 {y : D} (hu : X.A.units + 64 < cLine) (ha : PV X I a δ x) (hb : PV X I b δ y) (l : LsI I y ds) (hx : okEq x = true) (hy : okEq (.lst ds) = true) (hm : behindInMarks .NotEq b = false := by first | exact nomark _ | rfl) : PVT X I (.Compare a [.NotEq] [b] pos) δ (!eqD x (.lst ds)) :=
  pt_cmp (op_neD hu) ha hb (p2_neI2 l hx hy) hm
end
end DL
namespace LK
open PySem PySem.Spec PyProof.Rows L2 DL
def cellTR (w : Nat) (s : Scr Sg) (r c : Int) : D := if isInG w s r c = true then sgD (cellG none s r c) else .tup [.str "none", .int r, .int c]
theorem rowG_cells {s : Scr Sg} {w i : Nat} {row : List Sg} (h : s.rows[i]? = some row) (hl : row.length = w) : (List.range w).map (fun j : Nat => sgD (cellG none s i j)) = row.map sgD := by
  refine List.ext_getElem (by rw [List.length_map, List.length_map, List.length_range, hl]) fun j h1 h2 => ?_
  rw [List.getElem_map, List.getElem_map, List.getElem_range]
  congr 1
  unfold cellG
  rw [List.length_map] at h2
  rw [Int.toNat_natCast, Int.toNat_natCast, List.getD_eq_getElem?_getD, List.getD_eq_getElem?_getD, h]
  show (row[j]?).getD none = row[j]
  rw [List.getElem?_eq_getElem h2]; rfl
theorem isInG_nat {s : Scr Sg} {w i j : Nat} (h : i < s.rows.length) (h2 : j < w) : isInG w s i j = true := by
  unfold isInG
  simp only [Bool.and_eq_true, decide_eq_true_eq]
  omega
theorem cellTR_off {s : Scr Sg} {w : Nat} {r c : Int} (h : isInG w s r c = false) : cellTR w s r c = .tup [.str "none", .int r, .int c] := by
  unfold cellTR
  rw [h]; rfl
theorem isInG_off {s : Scr Sg} {w : Nat} {r c : Int} (h : r < 0 ∨ c < 0 ∨ (s.rows.length : Nat) ≤ r ∨ (w : Nat) ≤ c) : isInG w s r c = false := by
  cases hb : isInG w s r c with
  | false => rfl
  | true =>
    unfold isInG at hb
    simp only [Bool.and_eq_true, decide_eq_true_eq] at hb
    omega
def sToldI {K : PySem.W.Frag} : Spec K := fun I ds P _ => ∃ (z : D) (l : List Sg), ds = [z] ∧ LsI I z (l.map fun c => D.str (sgS c)) ∧ (z = .lst (l.map fun c => D.str (sgS c)) ∨ ∃ p, z = .adr p) ∧ l.length ≤ 10000 ∧ P (.str (rowTx l)) I
def sCellT {K : PySem.W.Frag} : Spec K := fun I ds P R => ∃ (x dx gx dg : Addr) (w : Nat) (s : Scr Sg) (k : Rc K) (r c : Int), ds = [.adr x, .int r, .int c] ∧ I = k.fill (iTm K x dx gx dg w s) ∧ SOk w s ∧ P (cellTR w s r c) I
def sRightT {K : PySem.W.Frag} : Spec K := fun I ds P R => ∃ (x dx gx dg a bl bj q : Addr) (qs : List Addr) (n : Nat) (s : Scr Sg) (c1 c2 : Rc K), ds = [.adr x, .adr a, .int n] ∧ I = c1.fill (iTm K x dx gx dg n s) ∧ I = c2.fill (iScr K bl bj qs q sgD s a none) ∧ SOk n s ∧ qs.length = s.up.length ∧ s.up.length ≤ 9000 ∧ ScrAll SgOk s ∧ P (.bl true) I
section
variable {P : Program} {w : World} {K : PySem.W.Frag} {mg : Str → Option Value} {base : Heap}
theorem D_toldI (E : Env P w K mg base) : Def P w K mg base "_law_told" 1 ["_law_signs"] [] sToldI := mk_f_Ltold E fun fd F => by
  refine fn_d F sc_f_Ltold (fun I ds P R h => by obtain ⟨z, l, rfl, _⟩ := h; rfl) fun cdv Ac outer s0 H EE hr tk po I ds Q R h => ?_
  obtain ⟨z, l, rfl, li, hz, hl, k⟩ := h
  have nd := sc_f_Ltold.nd
  have hu := hr.units
  have e1 : (l.map fun c => D.str (one (c.getD 32))) = ((l.map fun c => c.getD 32).map one).map D.str := by rw [List.map_map, List.map_map]; rfl
  have hj : Txt.join ("" : Str) ((l.map fun c => c.getD 32).map DL.one) = ⟨(l.map fun c => c.getD 32).toArray⟩ := DL.join_ones ("" : Str) (by rfl) (l.map fun c => c.getD 32)
  refine s_cons (s_setP (d := .str ⟨(l.map fun c => c.getD 32).toArray⟩) 1 (fun W R P pp => ev_join (pv_str (w := "")) (PV.ev (PV.is (pv_lcJ (xs := l) (g := fun c => D.str (sgS c)) (pv_v (d := z) 0) hz li (fun c => .str (one (c.getD 32))) [("_law_sign", 2)] (fun c => [some z, none, some (.str (sgS c))]) (by omega) (fun c s H C cl fp => bind_name 2) fun c hc J s H C cl fp => pv_if (pt_eq hu (pv_v (d := .str (sgS c)) 2) pv_str trivial) (fun h => ?_) fun h => ?_) (congrArg D.lst e1)) ⟨_, rfl, ?_, by rw [hj]; exact pp⟩)) ?_)
  · have h : c = none := sgS_nil.mp (of_decide_eq_true h)
    subst h
    exact pv_str (w := " ")
  · have h : c ≠ none := fun e => by
      rw [e] at h
      exact absurd h (by decide)
    exact PV.is (pv_v (d := .str (sgS c)) 2) (by rw [sgS_some h])
  · rw [one_len, List.length_map]
    simp only [List.length_map]
    have : Str.length ("" : Str) = 0 := rfl
    rw [this]; omega
  refine s_cons (s_whileP po (fun m δ' I' => I' = I ∧ ∃ l' : List Nat, l'.length = m ∧ m ≤ 10000 ∧ rsp l' = rsp (l.map fun c => c.getD 32) ∧ δ' = [some z, some (.str ⟨l'.toArray⟩), none]) l.length ⟨rfl, _, by rw [List.length_map], hl, rfl, rfl⟩ ?_)
  rintro m δ' I' ⟨rfl, l', rfl, hm, hrs, rfl⟩
  refine ⟨_, pt_eq hu (pv_slS (pv_v (d := .str ⟨l'.toArray⟩) 1) (vo_some (pv_neg pv_int)) vo_none (by simp [Str.length]; omega)) pv_str trivial, fun h => ?_, fun h => ?_⟩
  · rcases List.eq_nil_or_concat l' with e | ⟨p, c, e⟩
    · subst e
      rw [cut_last0] at h
      exact absurd h (by decide)
    · rw [List.concat_eq_append] at e
      subst e
      rw [cut_last1] at h
      have hc : c = 32 := by
        have h2 := congrArg (fun s : Str => s.cps.toList) (of_decide_eq_true h)
        have h3 : [c] = [32] := h2
        exact (List.cons.inj h3).1
      subst hc
      refine s_one (s_setP (d := .str ⟨p.toArray⟩) 1 (PV.is (pv_slS (pv_v (d := .str ⟨(p ++ [32]).toArray⟩) 1) vo_none (vo_some (pv_neg pv_int)) (by simp [Str.length]; simp at hm; omega)) (by rw [cut_init1])) ?_)
      refine ⟨p.length, by simp, rfl, p, rfl, by simp at hm; omega, ?_, rfl⟩
      rw [← hrs, rsp_snoc, if_pos rfl]
  · have e9 : rsp l' = l' := by
      rcases List.eq_nil_or_concat l' with e | ⟨p, c, e⟩
      · subst e; rfl
      · rw [List.concat_eq_append] at e
        subst e
        rw [cut_last1] at h
        have hc : c ≠ 32 := fun e => by
          subst e
          exact absurd h (by decide)
        rw [rsp_snoc, if_neg hc]
    refine s_one (s_retP (d := .str (rowTx l)) (PV.is (pv_v (d := .str ⟨l'.toArray⟩) 1) ?_) k)
    unfold rowTx
    rw [← hrs, e9]
theorem D_cellT (E : Env P w K mg base) : Def P w K mg base "_law_cell" 5 ["_law_seen", "_law_row", "_law_column"] [] sCellT := mk_f_Lcell E fun fd F => by
  refine fn_d F sc_f_Lcell (fun I ds P R h => by obtain ⟨x, dx, gx, dg, w, s, k, r, c, rfl, _⟩ := h; rfl) fun cdv A outer s0 H EE hr tk po I ds Q R h => ?_
  obtain ⟨x, dx, gx, dg, n, s, k, r, c, rfl, rfl, ok, q⟩ := h
  have nd := sc_f_Lcell.nd
  have hr4 : Room 4 _ := hr
  refine s_cons (s_setP 3 pv_non ?_)
  refine s_consI (fun δ' I' => I' = k.fill (iTm K x dx gx dg n s) ∧ ∃ o4, δ' = [some (.adr x), some (.int r), some (.int c), some (cellTR n s r c), o4]) (s_try (i := 4) tk nd (namesG E.g_NoCell) fun W' pn xe tk' po' => s_one (s_set 3 (ev_subOwn tk' E.h_Terminal_getitem.f E.h_Terminal_getitem.i E.fn_Terminal_getitem (M_tmGet E) hr4 ((pv_v (d := .adr x) 0).ev ((pv_tup (va_cons (pv_v (d := .int r) 1) (va_cons (pv_v (d := .int c) 2) va_nil))).ev ⟨insD_ins _ rfl tm_x, x, dx, gx, dg, n, s, k, r, c, rfl, rfl, ok, ?_⟩))))) ?_
  · unfold cellTR
    by_cases hb : isInG n s r c = true
    · rw [if_pos hb, if_pos hb]
      exact ⟨rfl, none, rfl⟩
    · rw [if_neg hb, if_neg hb]
      refine ⟨true, E.xm_NoCell_NoCell, fun _ a dd oe pn zc hf => ?_, fun h => nomatch h⟩
      refine s_one (s_setP 3 (pv_tup (va_cons pv_str (va_cons (pv_xf E.t_NoCell.xf E.f_NoCell_row zc hf (pv_v 4) rfl) (va_cons (pv_xf E.t_NoCell.xf E.f_NoCell_column zc hf (pv_v 4) rfl) va_nil)))) ?_)
      exact ⟨rfl, _, rfl⟩
  · rintro δ' I' ⟨rfl, o4, rfl⟩
    exact s_one (s_retP (pv_v 3) q)
theorem D_rightT (E : Env P w K mg base) : Def P w K mg base "_law_right" 6 ["_law_seen", "_law_s", "_law_w"] [] sRightT := mk_f_Lright E fun fd F => by
  refine fn_d F sc_f_Lright (fun I ds P R h => by obtain ⟨x, dx, gx, dg, a, bl, bj, q, qs, n, s, c1, c2, rfl, _⟩ := h; rfl) fun cdv A outer s0 H EE hr tk po I ds Q R h => ?_
  obtain ⟨x, dx, gx, dg, a, bl, bj, q', qs, n, s, c1, c2, rfl, e1, e2, ok, hq, hz, hsg, q⟩ := h
  have nd := sc_f_Lright.nd
  have hu := hr.units
  have hr1 : Room 1 _ := hr.mono (by decide)
  have hr2 : Room 2 _ := hr.mono (by decide)
  have hr4 : Room 4 _ := hr.mono (by decide)
  have hr5 : Room 5 _ := hr
  obtain ⟨fdP, FP, bP⟩ := M_tmPlace E
  obtain ⟨fdW, FW, bW⟩ := M_tmWidth E
  have w1 := ok.w1
  have w99 := ok.w99
  have hrl := rowsG_len ok
  have hrn : s.rows.length = s.up.length + 1 := by unfold Scr.rows; rw [List.length_append]; rfl
  have hqn : (qs ++ [q']).length = s.rows.length := by rw [List.length_append, hrn, hq]; rfl
  have lA : ∀ (J : Iv K), I = J → LsI J (.adr a) [.adr bl, .adr bj, .int (s.co : Nat), sgD none] := fun J e => by rw [← e]; exact LsI.m _ (e2.trans scr_a)
  have lB : LsI I (.adr bl) ((qs ++ [q']).map D.adr) := LsI.m _ (e2.trans (scr_core.trans core_bl))
  have lR : ∀ (i : Nat) (p : Addr) (r : List Sg), (qs ++ [q'])[i]? = some p → s.rows[i]? = some r → LsI I (.adr p) (r.map sgD) := fun i p r hp hr => by
    rw [e2.trans scr_core]
    exact core_row hq hp hr
  have lA0 := lA I rfl
  have eqR : ∀ l : List Str, eqD (.lst (l.map D.str)) (.lst (l.map D.str)) = true := fun l => (Inj.str.lst.eq _ _).mpr rfl
  have eRows : rowsD s = (s.rows.map rowTx).map D.str := by rw [List.map_map]; rfl
  have okR : okEq (.lst (rowsD s)) = true := (rowsD_ok hsg).okEq (by decide)
  have ez1 : ((qs ++ [q']).zip s.rows).map (fun p => D.adr p.1) = (qs ++ [q']).map D.adr := by
    rw [show (fun p : Addr × List Sg => D.adr p.1) = D.adr ∘ (fun p => p.1) from rfl, ← List.map_map, List.map_fst_zip (by omega)]
  have ez2 : ((qs ++ [q']).zip s.rows).map (fun p => D.str (rowTx p.2)) = rowsD s := by
    rw [show (fun p : Addr × List Sg => D.str (rowTx p.2)) = (fun r => D.str (rowTx r)) ∘ (fun p => p.2) from rfl, ← List.map_map, List.map_snd_zip (by omega)]
  have hlen : ((qs ++ [q']).map D.adr).length = s.rows.length := by rw [List.length_map, hqn]
  refine s_cons (s_ifP (b := false) (PVT.is (ptw (ww_or (k := false) (PVT.is (pt_ne (x := .lst (rowsD s)) (y := .lst (rowsD s)) (E := EqC.data) hu ?_ ?_ ⟨okR, okR⟩) (by rw [eRows, eqR]; rfl)) fun _ => ww_or (k := false) (PVT.is (pt_ne (x := .tup [.int (s.up.length : Nat), .int (s.co : Nat)]) (y := .tup [.int (s.up.length : Nat), .int (s.co : Nat)]) (E := EqC.data) hu ?_ ?_ ⟨rfl, rfl⟩) (by simp [eqDs])) fun _ => ww_or1 (k := false) (PVT.is (pt_ne (x := .int (n : Nat)) (y := .int (n : Nat)) hu ?_ (pv_w 2 rfl) trivial) (by simp)))) rfl) (fun h => nomatch h) fun _ => s_nil ?_)
  · exact pv_tmRows E hr2 c1 (pv_w (d := .adr x) 0 rfl) e1 ok (by omega)
  · refine PV.is (pv_lcJ (xs := (qs ++ [q']).zip s.rows) (g := fun p => D.adr p.1) (z := .adr bl) (pv_ix ix_list (pv_w (d := .adr a) 1 rfl) pv_int (p2_ixI lA0 rfl)) (.inr ⟨bl, rfl⟩) (by rw [ez1]; exact lB) (fun p => .str (rowTx p.2)) [("_law_line", 5)] (fun p => [some (.adr x), some (.adr a), some (.int n), none, none, some (.adr p.1)]) (by rw [List.length_zip]; omega) (fun p s H C cl fp => bind_name 5) fun p hp J s1 H C cl fp => ?_) (congrArg D.lst ez2)
    obtain ⟨i, hi, hpi⟩ := List.mem_iff_getElem.mp hp
    have hp1 : (qs ++ [q'])[i]? = some p.1 := by
      rw [List.getElem_zip] at hpi
      rw [← hpi]
      exact List.getElem?_eq_getElem (by rw [List.length_zip] at hi; omega)
    have hp2 : s.rows[i]? = some p.2 := by
      rw [List.getElem_zip] at hpi
      rw [← hpi]
      exact List.getElem?_eq_getElem (by rw [List.length_zip] at hi; omega)
    exact pv_def (D_toldI E) hr1 (va_cons (pv_w (d := .adr p.1) 5 rfl) va_nil) fun P pp => ⟨.adr p.1, p.2, rfl, LsI.wk Wk.dropR (lR i p.1 p.2 hp1 hp2), .inr ⟨_, rfl⟩, by rw [hrl p.2 (List.mem_of_getElem? hp2)]; omega, pp⟩
  · exact pv_propI (d := .tup [.int (s.up.length : Nat), .int (s.co : Nat)]) _ E.l_Terminal E.p_Terminal_place FP bP hr2 (pv_w (d := .adr x) 0 rfl) (fun P pp => show sTmPlace _ _ _ _ from ⟨x, dx, gx, dg, n, s, c1, rfl, e1, pp⟩) (eI := e1.trans tm_x)
  · exact PV.is (pv_tup (va_cons (pv_op op_sub (pv_cb call_len_seq E.b_len (va_cons (pv_ix ix_list (pv_w (d := .adr a) 1 rfl) pv_int (p2_ixI lA0 rfl)) va_nil) (pn_lenI lB)) pv_int p2_sub) (va_cons (pv_ix ix_list (pv_w (d := .adr a) 1 rfl) pv_int (p2_ixI (d := .int (s.co : Nat)) lA0 rfl)) va_nil))) (by rw [hlen, hrn, show (((s.up.length + 1 : Nat) : Int) - 1) = (s.up.length : Nat) by omega])
  · exact pv_propI (d := .int (n : Nat)) _ E.l_Terminal E.p_Terminal_width FW bW hr2 (pv_w (d := .adr x) 0 rfl) (fun P pp => show sTmWidth _ _ _ _ from ⟨x, dx, gx, dg, n, s, c1, rfl, e1, pp⟩) (eI := e1.trans tm_x)
  have e00 : (((((qs ++ [q']).map D.adr).length : Nat) : Int)).toNat = s.rows.length := by omega
  refine s_cons (s_forT (xs := List.range s.rows.length) (g := fun i : Nat => D.int i) po (by rw [← e00]; exact vi_range1 E.b_range (pv_cb call_len_seq E.b_len (va_cons (pv_ix ix_list (pv_w (d := .adr a) 1 rfl) pv_int (p2_ixI lA0 rfl)) va_nil) (pn_lenI lB)) (by omega) (by omega)) (fun p δ' I' => I' = I ∧ ∃ o3 o4, δ' = [some (.adr x), some (.adr a), some (.int n), o3, o4, none]) ⟨rfl, none, none, rfl⟩ ?_ ?_)
  · rintro p i r δ' I' e ⟨rfl, o3, o4, rfl⟩
    have hi : i < s.rows.length := List.mem_range.mp (by rw [e]; simp)
    have hrow : s.rows[i]? = some s.rows[i] := List.getElem?_eq_getElem hi
    have hqi : (qs ++ [q'])[i]? = some (qs ++ [q'])[i] := List.getElem?_eq_getElem (by omega)
    generalize s.rows[i] = row at hrow
    generalize (qs ++ [q'])[i] = qi at hqi
    have hrm : row ∈ s.rows := List.mem_of_getElem? hrow
    have hrw := hrl row hrm
    have hokr : okEq (.lst (row.map sgD)) = true := (OkD.lst (n := 0) (OkD.map fun c hc => OkD.str (by
      have h1 := scr_row hsg row hrm c hc
      cases c with
      | none => exact (by decide +kernel : PyData.strOk (sgS none) = true)
      | some y =>
        have h2 := h1 y rfl
        unfold PyData.strOk
        rw [← Array.all_toList]
        show ((y < 1114112 : Bool) && true) = true
        simp [h2]))).okEq (by decide)
    have eRow : row.map sgD = (row.map sgS).map D.str := by rw [List.map_map]; rfl
    refine ⟨_, [3], bind_name 3, ?_⟩
    refine s_one (s_ifP (b := false) (PVT.is (pt_neI2 (x := .lst (row.map sgD)) (y := .adr qi) (ds := row.map sgD) hu ?_ ?_ (lR i qi row hqi hrow) hokr hokr) (by rw [eRow, eqR]; rfl)) (fun h => nomatch h) fun _ => s_nil ⟨rfl, _, _, rfl⟩)
    · refine PV.is (pv_lcTM (xs := List.range n) (g := fun j : Nat => D.int j) (fun j => sgD (cellG none s i j)) [("_law_column", 4)] (fun j => [some (.adr x), some (.adr a), some (.int n), some (.int i), some (.int j), none]) (vi_range1 (n := (n : Int)) E.b_range (pv_w (d := .int n) 2 rfl) (by omega) (by omega)) (by rw [List.length_range]; omega) (fun j s H C cl fp => bind_name 4) (fun j hj J s1 H C cl fp => ?_)) (congrArg D.lst (rowG_cells hrow hrw))
      have hin : isInG n s i j = true := isInG_nat hi (List.mem_range.mp hj)
      exact fun W R P pp => EvX.weak (ev_subOwn takesF E.h_Terminal_getitem.f E.h_Terminal_getitem.i E.fn_Terminal_getitem (M_tmGet E) hr4 ((pv_w (d := .adr x) 0 rfl).ev ((pv_tup (va_cons (pv_w (d := .int i) 3 rfl) (va_cons (pv_w (d := .int j) 4 rfl) va_nil))).ev ⟨insD_ins (.l (c1.comp (.l .here (iIns K gx (cG K) dg (gdG sgD none n s)))) J) rfl (congrArg (fun I0 : Iv K => I0.and J) (e1.trans tm_x)), x, dx, gx, dg, n, s, .l c1 J, i, j, rfl, congrArg (fun I0 : Iv K => I0.and J) e1, ok, by rw [if_pos hin]; exact pp⟩)))
    · exact pv_ix ix_list (pv_ix ix_list (pv_w (d := .adr a) 1 rfl) pv_int (p2_ixI (d := .adr bl) lA0 rfl)) (pv_w (d := .int i) 3 rfl) (p2_ixI lB (atI_m hqi))
  rintro δ' I' ⟨rfl, o3, o4, rfl⟩
  refine s_cons (s_forT (xs := [((-1 : Int), (0 : Int)), (0, -1), ((((qs ++ [q']).map D.adr).length : Int), 0), (0, (n : Int)), ((10 : Int) ^ (30 : Int).toNat, 5)]) (g := fun q : Int × Int => .tup [.int q.1, .int q.2]) po (vi_lst (pv_lst (va_cons (pv_tup (va_cons (pv_neg pv_int) (va_cons pv_int va_nil))) (va_cons (pv_tup (va_cons pv_int (va_cons (pv_neg pv_int) va_nil))) (va_cons (pv_tup (va_cons (pv_cb call_len_seq E.b_len (va_cons (pv_ix ix_list (pv_w (d := .adr a) 1 rfl) pv_int (p2_ixI lA0 rfl)) va_nil) (pn_lenI lB)) (va_cons pv_int va_nil))) (va_cons (pv_tup (va_cons pv_int (va_cons (pv_w (d := .int n) 2 rfl) va_nil))) (va_cons (pv_tup (va_cons (pv_op op_pow pv_int pv_int (p2_pow ⟨by decide, by decide, by decide⟩)) (va_cons pv_int va_nil))) va_nil))))))) (fun p δ' I'' => I'' = I' ∧ ∃ o3 o4, δ' = [some (.adr x), some (.adr a), some (.int n), o3, o4, none]) ⟨rfl, _, _, rfl⟩ ?_ ?_)
  · rintro p ⟨r0, c0⟩ r δ' I'' e ⟨rfl, o3, o4, rfl⟩
    have hm : (r0, c0) ∈ [((-1 : Int), (0 : Int)), (0, -1), ((((qs ++ [q']).map D.adr).length : Int), 0), (0, (n : Int)), ((10 : Int) ^ (30 : Int).toNat, 5)] := by rw [e]; simp
    have hoff : isInG n s r0 c0 = false := by
      refine isInG_off ?_
      simp only [List.mem_cons, List.not_mem_nil, or_false, Prod.mk.injEq] at hm
      rw [hlen] at hm
      have h30 : (10000 : Int) ≤ (10 : Int) ^ (30 : Int).toNat := by decide
      omega
    refine ⟨_, [3, 4], bind_tup (bs_cons (bind_name 3) (bs_cons (bind_name 4) bs_nil)), ?_⟩
    have hok3 : okEq (.tup [.str "none", .int r0, .int c0]) = true := (OkD.t3 (n := 0) (OkD.str (by decide +kernel)) OkD.int OkD.int).okEq (by decide)
    refine s_one (s_ifP (b := false) (PVT.is (pt_ne hu (PV.is (pv_def (D_cellT E) hr5 (va_cons (pv_w (d := .adr x) 0 rfl) (va_cons (pv_w (d := .int r0) 3 rfl) (va_cons (pv_w (d := .int c0) 4 rfl) va_nil))) fun P pp => ⟨x, dx, gx, dg, n, s, c1, r0, c0, rfl, e1, ok, pp⟩) (cellTR_off hoff)) (pv_tup (va_cons pv_str (va_cons (pv_w (d := .int r0) 3 rfl) (va_cons (pv_w (d := .int c0) 4 rfl) va_nil)))) ⟨hok3, hok3⟩) (by simp)) (fun h => nomatch h) fun _ => s_nil ⟨rfl, _, _, rfl⟩)
  rintro δ' I'' ⟨rfl, o3, o4, rfl⟩
  exact s_one (s_retP pv_bl q)
end
end LK
set_option Elab.async false
set_option linter.all false
set_option maxRecDepth 100000
set_option maxHeartbeats 4000000
namespace L2
open PySem PySem.Spec PyProof.Rows NdefX LamX
def cellO (c a : Addr) : HO := .ext fun h => h.IsCell c (some (.ref a))
abbrev CLs := List (Addr × Addr)
def clU (H : Hp) (cs : CLs) : Hp := fun b => match cs.lookup b with
  | some _ => none
  | none => H b
section
variable {P : Program} {w : World} {H H' : Hp} {h h' : Heap} {cs : CLs} {fs ex : List Addr} {b : Addr}
theorem clU_off (e : cs.lookup b = none) : clU H cs b = H b := by unfold clU; rw [e]
theorem clU_on {a : Addr} (e : cs.lookup b = some a) : clU H cs b = none := by unfold clU; rw [e]
theorem clU_some {o : HO} (e : clU H cs b = some o) : H b = some o ∧ cs.lookup b = none := by
  cases q : cs.lookup b with
  | none => rw [clU_off q] at e; exact ⟨e, rfl⟩
  | some a => rw [clU_on q] at e; cases e
theorem clU_none (e : H b = none) : clU H cs b = none := by
  cases q : cs.lookup b with
  | none => rw [clU_off q]; exact e
  | some a => exact clU_on q
theorem HOk.opened (x : HOk P w H h) (hc : ∀ b a, cs.lookup b = some a → H b = some (cellO b a)) : HOk P w (clU H cs) h := fun b o e => by
  obtain ⟨e1, _⟩ := clU_some e
  have off : ∀ {c : Addr} {u : HO}, H c = some u → (∀ a, u ≠ cellO c a) → clU H cs c = some u := fun {c u} q ne => by
    cases z : cs.lookup c with
    | none => rw [clU_off z]; exact q
    | some a => rw [hc c a z] at q; exact absurd (Option.some.inj q).symm (ne a)
  exact (x b o e1).stay (fun _ _ _ z => z) (fun _ z => off z fun a e => nomatch e) fun _ _ z => off z fun a e => nomatch e
end
section
variable {P : Program} {w : World} {K : PySem.W.Frag} {mg : Str → Option Value} {base : Heap} {A : Around} {outer : List Env} {s s' : Shared} {H : Hp} {cs : CLs}
theorem Env0.opened (e : Env0 P w K mg base A outer s H) (hc : ∀ b a, cs.lookup b = some a → H b = some (cellO b a)) : Env0 P w K mg base A outer s (clU H cs) :=
  ⟨e.frames, e.mod, fun b o q => ⟨(e.bs b o q).1, clU_none (e.bs b o q).2⟩, e.bsz, e.funs, fun b q => clU_none (e.frf b q), e.hok.opened hc, e.bare⟩
end
end L2
set_option Elab.async false
set_option linter.all false
set_option maxRecDepth 100000
set_option maxHeartbeats 4000000
namespace L2
open PySem PySem.Spec PyProof.Rows NdefX LamX
section
variable {X : Cx} {pins : List (Addr × Obj)} {z : L2.St} {H : Hp} {s : Shared}
end
def TabA (G : Hp) (q : Str) (ps : Array Value) : Prop := TriplesOk ps.toList ∧ ∀ (pos : Pos) (cv : Value), codeAmong pos ps.toList = some cv → ∃ d, cv = .ref d ∧ G d = some (CodeO d q)
theorem TabA.nil {G : Hp} {q : Str} : TabA G q #[] := ⟨True.intro, fun pos cv h => nomatch (show codeAmong pos [] = some cv from h)⟩
theorem TabA.mono {G G' : Hp} {q : Str} {ps : Array Value} (t : TabA G q ps) (s : ∀ b o, G b = some o → G' b = some o) : TabA G' q ps := ⟨t.1, fun pos cv h => by
  obtain ⟨d, e, hd⟩ := t.2 pos cv h
  exact ⟨d, e, s _ _ hd⟩⟩
end L2
set_option Elab.async false
set_option linter.all false
set_option maxRecDepth 100000
set_option maxHeartbeats 4000000
namespace DL
open PySem PySem.Spec PyProof.Rows L2 NdefX LamX
def iFnO (K : PySem.W.Frag) (f : Addr) (F : NF) : Iv K := iObj K f (fun G o => o = FnO f F ∧ G F.c = some (CodeO F.c F.qual)) fun _ _ _ s ⟨h1, h2⟩ => ⟨h1, s _ _ h2⟩
section
variable {X : Cx} {W : WX} {R : Rx X.K} {κ : Ko X.K} {δ : DEnv} {I : Iv X.K}
end
section
variable {P : Program} {w : World} {K : PySem.W.Frag} {mg : Str → Option Value} {base : Heap}
end
end DL
set_option Elab.async false
set_option linter.all false
set_option maxRecDepth 100000
set_option maxHeartbeats 4000000
namespace L2
open PySem PySem.Spec PyProof.Rows NdefX LamX
structure CloOk (F : NF) (fr : List Str) (cs : CLs) (as : List Addr) : Prop where
  len : as.length = fr.length
  all : ∀ y c, F.cl.lookup y = some c → ∃ a, cs.lookup c = some a
  inj : ∀ x y c, F.cl.lookup x = some c → F.cl.lookup y = some c → x = y
  has : ∀ (i : Nat) (y : Str), fr[i]? = some y → ∃ c a, F.cl.lookup y = some c ∧ cs.lookup c = some a ∧ as[i]? = some a
section
variable {X : Cx} {F : NF} {ps fr : List Str} {i j k : Nat} {x : Str} {cs : CLs} {as : List Addr} {sp : List (Option V) → Sp} {t : TA} {e : Expr} {es : List Expr} {p pos : Pos}
end
end L2
namespace DL
open PySem PySem.Spec PyProof.Rows L2 NdefX LamX
def iCells (K : PySem.W.Frag) (cs : CLs) : Iv K := ⟨fun b => ∃ a, cs.lookup b = some a, fun G H => ∀ b a, cs.lookup b = some a → H b = some (cellO b a), fun G G' H H' s k h b a e => (k b ⟨a, e⟩).trans (h b a e), fun G H h b ⟨a, e⟩ => by rw [h b a e]; exact fun z => nomatch z⟩
structure FoI {K : PySem.W.Frag} (I : Iv K) (f : Addr) (F : NF) : Prop where
  h : ∀ G H, Same G H → Hd I G H → H f = some (FnO f F) ∧ H F.c = some (CodeO F.c F.qual) ∧ I.F f
theorem FoI.m {K : PySem.W.Frag} {f : Addr} {F : NF} (c : Rc K) : FoI (c.fill (iFnO K f F)) f F := ⟨fun G H s h => by
  obtain ⟨o, ho, e, g⟩ := h.inner.ph
  subst e
  exact ⟨ho, s _ _ g, fill_in c f rfl⟩⟩
section
variable {X : Cx} {W : WX} {R : Rx X.K} {P : D → Iv X.K → Prop} {δ : DEnv} {I : Iv X.K} {F : NF} {f : Addr} {ps fr : List Str} {i j k : Nat} {x : Str} {S : Spec X.K} {e : Expr} {es : List Expr} {p pos : Pos}
end
end DL
set_option Elab.async false
set_option linter.all false
set_option maxRecDepth 100000
set_option maxHeartbeats 4000000
namespace L2
open PySem PySem.Spec PyProof.Rows NdefX LamX
section
variable {P : Program} {w : World} {K : PySem.W.Frag} {mg : Str → Option Value} {base : Heap} {x qual : Str} {params : Arguments} {body : List Stmt} {scope : Scope} {dvs : List V} {kws : List (Str × V)} {f : Addr} {fd : FuncData}
end
end L2
set_option Elab.async false
set_option linter.all false
set_option maxRecDepth 100000
set_option maxHeartbeats 4000000
namespace L2
open PySem PySem.Spec PyProof.Rows NdefX LamX
end L2
namespace DL
open PySem PySem.Spec PyProof.Rows L2 NdefX LamX
structure CloD (X : Cx) (j : Nat) (δ : DEnv) (I : Iv X.K) (Q : D → Iv X.K → Prop) : Prop where
  h : ∃ (f : Addr) (F : NF) (fr : List Str) (js : List Nat) (as : List Addr), δ[j]? = some (some (.adr f)) ∧ FoI I f F ∧ (X.Ok → Caps X F.cl fr js) ∧ fr.Nodup ∧ (∀ y c, F.cl.lookup y = some c → y ∈ fr) ∧ js.map (fun j => δ[j]?) = as.map (fun a => some (some (.adr a))) ∧ ∀ cs, CloOk F fr cs as → cs.lookup F.c = none → Q (.adr f) (I.and (iCells X.K cs))
section
variable {P : Program} {w : World} {K : PySem.W.Frag} {mg : Str → Option Value} {base : Heap} {x qual y : Str} {params : Arguments} {a b : Stmt} {scope : Scope} {dvs : List V} {kws : List (Str × V)} {f0 : Addr} {fd : FuncData} {p p2 : Pos}
end
end DL
set_option Elab.async false
set_option linter.all false
set_option maxRecDepth 100000
set_option maxHeartbeats 4000000
namespace L2
open PySem PySem.Spec PyProof.Rows NdefX LamX
def LaO (f : Addr) (F : NF) (be : Expr) : HO := .ext fun h => ∃ (od : Option Addr) (sl : Array (Option Value)) (pm ctv : Value), h.get? f = some (⟨.type "function", od, .func (PySem.W.kla_fn F.name F.qual F.params be F.scope F.cl pm (.ref F.c) ctv), sl⟩ : Obj)
section
variable {X : Cx} {pins : List (Addr × Obj)} {z : L2.St} {H : Hp} {s : Shared}
end
structure LOk (P : Program) (w : World) (K : PySem.W.Frag) (mg : Str → Option Value) (base : Heap) (CX : CXT) (k : Nat) (f : Addr) (F : NF) (be : Expr) (ps : List Str) (sp : Sp) : Prop where
  len : ∀ vs H Q E, sp vs H Q E → vs.length = ps.length
  run : ∀ (A : Around) (outer : List Env) (s : Shared) (H : Hp) (us : List Value) (vs : List V) (Q : VK) (E : XK), Room k A → Env0 P w K mg base A outer s H → H f = some (LaO f F be) → H F.c = some (CodeO F.c F.qual) →
    Vals vs us → sp vs H Q E → codeAny (model P w) A (.call (.ref f) ⟨us, []⟩) (CR CX outer P w H s Q E) s
section
variable {CX : CXT} {P : Program} {w : World} {K : PySem.W.Frag} {mg : Str → Option Value} {base : Heap} {N ps : List Str} {F : NF} {be : Expr} {f : Addr} {k j : Nat} {sp : Sp}
end
section
variable {X : Cx} {F : NF} {be : Expr} {ps fr : List Str} {i j k : Nat} {x : Str} {cs : CLs} {as : List Addr} {sp : Sp} {spn : List (Option V) → Sp} {t : TEw} {e : Expr} {p pos : Pos}
end
end L2
set_option Elab.async false
set_option linter.all false
set_option maxRecDepth 100000
set_option maxHeartbeats 4000000
namespace DL
open PySem PySem.Spec PyProof.Rows L2 NdefX LamX
structure wpN (X : Cx) (e : Expr) (σ : L2.St) (H : Hp) (Q : V → L2.St → Hp → Prop) : Prop where
  run : ∀ (pins : List (Addr × Obj)) (s : Shared), Inv X pins σ H s → wpAny (model X.prog X.w) X.A (eval e X.env) (EPw X pins Q) X.xe s
section
variable {X : Cx} {e : Expr} {t : TEw} {σ : L2.St} {H : Hp}
end
def KvN (K : PySem.W.Frag) (Q : V → L2.St → Hp → Prop) (G : Hp) (P : D → DEnv → Iv K → Prop) : Prop := ∀ (v : V) (d : D) (δ : DEnv) (σ : L2.St) (G' H' : Hp) (I' : Iv K), Same G G' → Same G' H' → Hd I' G' H' → EnvR K G' δ σ → Rep K G' d v → P d δ I' → Q v σ H'
theorem KvN.mono {K : PySem.W.Frag} {Q : V → L2.St → Hp → Prop} {G G1 : Hp} {P : D → DEnv → Iv K → Prop} (s : Same G G1) (h : KvN K Q G P) : KvN K Q G1 P := fun v d δ σ G' H' I' s1 => h v d δ σ G' H' I' (s.trans s1)
structure LaI {K : PySem.W.Frag} (I : Iv K) (f : Addr) (F : NF) (be : Expr) : Prop where
  h : ∀ G H, Same G H → Hd I G H → H f = some (LaO f F be) ∧ H F.c = some (CodeO F.c F.qual)
def iLaO (K : PySem.W.Frag) (f : Addr) (F : NF) (be : Expr) : Iv K := iObj K f (fun G o => o = LaO f F be ∧ G F.c = some (CodeO F.c F.qual)) fun _ _ _ s ⟨h1, h2⟩ => ⟨h1, s _ _ h2⟩
theorem LaI.m {K : PySem.W.Frag} {f : Addr} {F : NF} {be : Expr} (c : Rc K) : LaI (c.fill (iLaO K f F be)) f F be := ⟨fun G H s h => by
  obtain ⟨o, ho, e, g⟩ := h.inner.ph
  subst e
  exact ⟨ho, s _ _ g⟩⟩
theorem LaI.andL {K : PySem.W.Frag} {I J : Iv K} {f : Addr} {F : NF} {be : Expr} (h : LaI I f F be) : LaI (I.and J) f F be := ⟨fun G H s hd => h.h G H s hd.left⟩
theorem LaI.andR {K : PySem.W.Frag} {I J : Iv K} {f : Addr} {F : NF} {be : Expr} (h : LaI J f F be) : LaI (I.and J) f F be := ⟨fun G H s hd => h.h G H s hd.right⟩
section
variable {X : Cx} {W : WX} {R : Rx X.K} {P : D → DEnv → Iv X.K → Prop} {δ : DEnv} {I : Iv X.K} {F : NF} {be : Expr} {f : Addr} {ps fr : List Str} {i k : Nat} {x x' : Str} {S : Spec X.K} {e : Expr} {p pos : Pos}
end
section
variable {X : Cx} {W : WX} {R : Rx X.K} {P : D → Iv X.K → Prop} {κ : Ko X.K} {δ : DEnv} {I : Iv X.K} {c : Expr} {sts els : List Stmt} {pos : Pos}
end
section
variable {P : Program} {w : World} {K : PySem.W.Frag} {mg : Str → Option Value} {base : Heap}
end
end DL
set_option Elab.async false
set_option linter.all false
set_option maxRecDepth 100000
set_option maxHeartbeats 4000000
namespace L2
open PySem PySem.Spec PyProof.Rows NdefX LamX
section
variable {X : Cx} {F : NF} {ps fr : List Str} {j k : Nat} {cs : CLs} {as : List Addr} {sp : List (Option V) → Sp} {t : TA} {e : Expr} {es : List Expr} {pos : Pos}
end
end L2
namespace DL
open PySem PySem.Spec PyProof.Rows L2 NdefX LamX
section
variable {X : Cx} {W : WX} {R : Rx X.K} {P : D → Iv X.K → Prop} {δ : DEnv} {I : Iv X.K} {g e : Expr} {es : List Expr} {pos : Pos}
end
end DL
set_option Elab.async false
set_option linter.all false
set_option maxRecDepth 100000
set_option maxHeartbeats 2000000
namespace DL
open PySem PySem.Spec PyProof.Rows L2
section
variable {X : Cx} {W : WX} {δ : DEnv} {I : Iv X.K} {o : Expr} {pos : Pos} {κ : Ko X.K}
theorem s_clearE {apos ep : Pos} (h : EvX X W (κ.r δ) o δ I fun z I1 => ∃ (q : Addr) (ds : List D) (c : Rc X.K), z = .adr q ∧ I1 = c.fill (iLst X.K q ds) ∧ κ.nx δ (c.fill (iLst X.K q [])))
    (hbase : attributeBase o "clear" X.env (eval o X.env) = eval o X.env := by rfl)
    (hline : (apos.endLine == pos.line) = true := by rfl)
    (hs : swapsWith (.Call (.Attribute o "clear" apos) [] [] pos) none ep.line X.env = pure false := by rfl) : S1 X W (.Expr (.Call (.Attribute o "clear" apos) [] [] pos) ep) δ I κ := fun σ G H E hE s hI k =>
  PS.wp (ps_expr (pe_bm0 PySem.F.plainAttrs_list PySem.F.slot_list_clear PySem.F.type_list_clear mt_clear peC hbase hline) hs) (h σ G H _ hE s hI (k.kx hE) fun v d1 G1 H1 I1 s1 t1 h1 r1 ⟨q, ds, c, ed, ei, nx⟩ => by
    subst ed ei
    obtain ⟨vs, hp, rv, gp⟩ := h1.lst
    obtain rfl : v = .ref q := r1
    refine ⟨.inl ⟨rfl, _, .inl (.inl hp)⟩, q, vs, rfl, rfl, hp, ?_⟩
    exact k.nx δ σ G1 _ _ s1 (same_upd t1 gp) (h1.lstSet (es := []) (ws := []) rfl) (hE.mono s1) nx)
end
end DL
namespace LK
open PySem PySem.Spec PyProof.Rows L2 DL
section
variable {P : Program} {w : World} {K : PySem.W.Frag} {mg : Str → Option Value} {base : Heap}
abbrev LVL : Nat := 7
theorem ok_law (E : Env P w K mg base) (fd : FuncData) (F : FunD K "law" "law" (defArgs f_law) (defBody f_law) (defScope f_law) [] [] (He.ga K "law") fd) : FnOk P w K mg base (L2.CX P w) LVL (He.ga K "law") fd ["_law_script"] (spD K sLaw) := by
  refine fn_d F sc_f_law (fun I ds P R h => by obtain ⟨ns, rfl, _⟩ := h; rfl) fun cdv A outer s H EE hr tk po I ds Q R h => ?_
  obtain ⟨ns, rfl, hl, q⟩ := h
  have nd := sc_f_law.nd
  have hu := hr.units
  have hr1 : Room 1 _ := hr.mono (by decide)
  have hr2 : Room 2 _ := hr.mono (by decide)
  have hr3 : Room 3 _ := hr.mono (by decide)
  have hr4 : Room 4 _ := hr.mono (by decide)
  have hr5 : Room 5 _ := hr.mono (by decide)
  have hr6 : Room 6 _ := hr
  obtain ⟨fdT, FT, bT⟩ := M_tmInit E
  refine s_cons (s_set 1 (ev_def tk (D_mix E) hr1 (ea_cons ((pv_v 0).ev (ea_cons (pv_int.ev (ea_nil ⟨ns, 7, rfl, hl, fun a b => ?_⟩)))))))
  refine s_cons (s_set 2 (ev_def tk (D_widthW E) hr2 (ea_cons ((pv_v 1).ev (ea_nil ⟨a, b, .r I .here, rfl, rfl, fun n w1 w99 => ?_⟩)))))
  refine s_cons (s_set 3 (ev_def tk (D_screen E) hr1 (ea_cons ((pv_w (d := .int n) 2 rfl).ev (ea_cons ((PV.is pv_str (show _ = sgD none from rfl)).ev (ea_nil ⟨Sg, sgD, none, n, rfl, w1, w99, fun sa bl bj q0 => ?_⟩)))))))
  refine s_cons (s_set 4 (ev_makeI tk E.m_Terminal FT hr4 E.g_Terminal bT (ea_cons ((pv_w (d := .int n) 2 rfl).ev (ea_nil fun x dx _ => ⟨x, dx, _, n, rfl, rfl, w1, w99, fun gx dg => ⟨rfl, ?_⟩⟩)))))
  refine s_cons (s_set 5 (ev_lstM' va_nil (by decide) fun p => ?_))
  have k0 : SOk n (sNew n (none : Sg)) := SOk.new w1 w99
  have u0 : (sNew n (none : Sg)).up.length = 0 := rfl
  have upB : ∀ ws : List Wr, (∀ x ∈ ws, GoodR x) → (tmF n (sNew n none) ws).up.length ≤ 42 * ws.length := fun ws hg => by
    have := tmF_up (w := n) (s := sNew n none) ws fun x hx => (hg x hx).h
    omega
  have sgB : ∀ ws : List Wr, (∀ x ∈ ws, GoodR x) → ScrAll SgOk (tmF n (sNew n none) ws) := fun ws hg => tmF_sg ws sg0 fun x hx => wr_strOk (hg x hx)
  have t40 : ∀ ws : List Wr, (∀ x ∈ ws, GoodR x) → ∀ x ∈ ws, x.t.length ≤ 40 := fun ws hg x hx => (hg x hx).h
  refine s_cons (s_forE po (ei_range1 E.b_range (ev_nextP (n := 13) tk (D_next E) hr1 (.l (.l (.l (.r I .here) (iScr K bl bj [] q0 sgD (sNew n none) sa none)) (iTm K x dx gx dg n (sNew n none))) (iLst K p [])) (pv_w (d := .adr a) 1 rfl) pv_int rfl (by decide) fun k k0' k1 => ⟨k, rfl, by omega, by omega, Nat, List.range k.toNat, (fun i => D.int (0 + (i : Nat))), (fun p' δ' I' => ∃ (ws : List Wr) (gx dg bl bj q0 : Addr) (qs : List Addr) (o6 o7 o8 : Option D), I' = (((I.and (iDr K a b)).and (iScr K bl bj qs q0 sgD (tmF n (sNew n none) ws) sa none)).and (iTm K x dx gx dg n (tmF n (sNew n none) ws))).and (iLst K p (ws.map (wrD K))) ∧ qs.length = (tmF n (sNew n none) ws).up.length ∧ (∀ x ∈ ws, GoodR x) ∧ ws.length = p'.length ∧ δ' = [some (.lsf (ns.map D.int)), some (.adr a), some (.int n), some (.adr sa), some (.adr x), some (.adr p), o6, o7, o8]), rfl, ⟨[], gx, dg, bl, bj, q0, [], none, none, none, rfl, rfl, (fun x h => nomatch h), rfl, rfl⟩, ?_, ?_⟩)))
  · rintro p' i r δ' I' e ⟨ws, gx, dg, bl, bj, q0, qs, o6, o7, o8, rfl, hq, hg, hwl, rfl⟩
    have hpl : p'.length < k.toNat := by have := congrArg List.length e; simp at this; omega
    have hwu := upB ws hg
    have okS : SOk n (tmF n (sNew n none) ws) := tmF_ok ws k0
    refine ⟨_, [6], bind_name 6, ?_⟩
    refine s_cons (s_ifP (b := false) (PVT.is (ptn (pt_v (pv_def (d := .bl true) (D_rightT E) hr6 (va_cons (pv_w (d := .adr x) 4 rfl) (va_cons (pv_w (d := .adr sa) 3 rfl) (va_cons (pv_w (d := .int n) 2 rfl) va_nil))) fun P pp => ⟨x, dx, gx, dg, sa, bl, bj, q0, qs, n, _, .l (.r ((I.and (iDr K a b)).and (iScr K bl bj qs q0 sgD (tmF n (sNew n none) ws) sa none)) .here) (iLst K p (ws.map (wrD K))), .l (.l (.r (I.and (iDr K a b)) .here) (iTm K x dx gx dg n (tmF n (sNew n none) ws))) (iLst K p (ws.map (wrD K))), rfl, rfl, rfl, okS, hq, by omega, sgB ws hg, pp⟩))) rfl) (fun h => nomatch h) fun _ => s_nil ?_)
    refine s_cons (s_set 7 (ev_ix ix_list (PV.ev (pv_lst (va_cons pv_str (va_cons pv_str (va_cons pv_str (va_cons pv_str (va_cons pv_str va_nil)))))) (ev_nextP (n := 5) tk (D_next E) hr1 (.l (.l (.l (.r I .here) (iScr K bl bj qs q0 sgD (tmF n (sNew n none) ws) sa none)) (iTm K x dx gx dg n (tmF n (sNew n none) ws))) (iLst K p (ws.map (wrD K)))) (pv_w (d := .adr a) 1 rfl) pv_int rfl (by decide) fun z z0 z1 => o2_ixL z0 z1 fun d hd => ?_))))
    obtain ⟨f, rfl, hf⟩ : ∃ f : Str, d = .str f ∧ f ∈ forms5 := by
      simp only [List.mem_cons, List.not_mem_nil, or_false] at hd
      rcases hd with rfl | rfl | rfl | rfl | rfl <;> exact ⟨_, rfl, by decide +kernel⟩
    refine s_cons (s_set 8 (ev_def tk (D_one E) hr3 (ea_cons ((pv_w (d := .adr a) 1 rfl).ev (ea_cons ((pv_w (d := .str f) 7 rfl).ev (ea_cons (pv_int.ev (ea_nil ⟨a, b, .l (.l (.l (.r I .here) (iScr K bl bj qs q0 sgD (tmF n (sNew n none) ws) sa none)) (iTm K x dx gx dg n (tmF n (sNew n none) ws))) (iLst K p (ws.map (wrD K))), f, 38, rfl, rfl, hf, by decide, by decide, fun kk t l e ok => ?_⟩)))))))))
    have hgr : GoodR ⟨kk, t, l, e⟩ := ⟨ok.g, ok.len (by decide)⟩
    have htl : t.length ≤ 40 := hgr.h
    have el : t.cps.toList.length = t.length := by simp [Str.length]
    have c1 : ∀ i : Nat, True := fun _ => trivial
    refine s_cons (s_append (.r (((I.and (iDr K a b)).and (iScr K bl bj qs q0 sgD (tmF n (sNew n none) ws) sa none)).and (iTm K x dx gx dg n (tmF n (sNew n none) ws))) .here) (pv_w (d := .adr p) 5 rfl) rfl (PV.ev (d := wD K kk t l e) (pv_write E hr4 (pv_ix ix_tup (pv_w (d := .tup [.str kk, .str t, .str l, .str e]) 8 rfl) pv_int (p2_ixT rfl)) (pv_ix ix_tup (pv_w (d := .tup [.str kk, .str t, .str l, .str e]) 8 rfl) pv_int (p2_ixT rfl)) (pv_ix ix_tup (pv_w (d := .tup [.str kk, .str t, .str l, .str e]) 8 rfl) pv_int (p2_ixT rfl)) (pv_ix ix_tup (pv_w (d := .tup [.str kk, .str t, .str l, .str e]) 8 rfl) pv_int (p2_ixT rfl)) hgr.g hgr.h) ⟨rfl, by rw [List.length_map]; omega, ?_⟩))
    have eLs : ws.map (wrD K) ++ [wD K kk t l e] = (ws ++ [(⟨kk, t, l, e⟩ : Wr)]).map (wrD K) := by rw [List.map_append]; rfl
    rw [eLs]
    refine SX.eq (show _ = (((I.and (iDr K a b)).and (iScr K bl bj qs q0 sgD (tmF n (sNew n none) ws) sa none)).and (iTm K x dx gx dg n (tmF n (sNew n none) ws))).and (iLst K p ((ws ++ [(⟨kk, t, l, e⟩ : Wr)]).map (wrD K))) from rfl) ?_
    have hlast : atI ((ws ++ [(⟨kk, t, l, e⟩ : Wr)]).map (wrD K)) (-1) = some (wD K kk t l e) := by
      rw [← eLs]
      have z : ∀ (xs : List D) (y : D), atI (xs ++ [y]) (-1) = some y := fun xs y => by
        unfold atI ixN
        rw [if_neg (by omega), if_pos (by rw [List.length_append]; simp; omega)]
        show (xs ++ [y])[(-1 + ((xs ++ [y]).length : Int)).toNat]? = _
        rw [show (-1 + ((xs ++ [y]).length : Int)).toNat = xs.length by rw [List.length_append]; simp; omega, List.getElem?_append_right (Nat.le_refl _), Nat.sub_self]; rfl
      exact z _ _
    generalize hLd : (ws ++ [(⟨kk, t, l, e⟩ : Wr)]).map (wrD K) = Ld at *
    refine s_cons (s_augOwn 4 tk (C := cTm K) E.h_Terminal_iadd.f E.h_Terminal_iadd.i E.sf_Terminal (M_tmAdd E) hr4 rfl (PV.ev (d := wD K kk t l e) (pv_ix ix_list (pv_w (d := .adr p) 5 rfl) (pv_neg pv_int) (p2_ixI (LsI.m (.r (((I.and (iDr K a b)).and (iScr K bl bj qs q0 sgD (tmF n (sNew n none) ws) sa none)).and (iTm K x dx gx dg n (tmF n (sNew n none) ws))) .here)) hlast)) ⟨insD_ins _ rfl (tm_x (c := .l (.r ((I.and (iDr K a b)).and (iScr K bl bj qs q0 sgD (tmF n (sNew n none) ws) sa none)) .here) (iLst K p Ld))), x, dx, gx, dg, n, _, .l (.r ((I.and (iDr K a b)).and (iScr K bl bj qs q0 sgD (tmF n (sNew n none) ws) sa none)) .here) (iLst K p Ld), _, _, _, _, rfl, rfl, okS, by omega, by omega, fun gx' dg' => ?_⟩))
    have eS : tmF n (sNew n none) (ws ++ [⟨kk, t, l, e⟩]) = tmW n (tmF n (sNew n none) ws) t l e := tmF_snoc ws _
    generalize hS : tmF n (sNew n none) ws = S at *
    refine SX.wk (I' := (((I.and (iDr K a b)).and (iScr K bl bj qs q0 sgD S sa none)).and (iTm K x dx gx' dg' n (tmW n S t l e))).and (iLst K p Ld)) (by
      refine Wk.trans (Wk.re [(I.and (iDr K a b)).and (iScr K bl bj qs q0 sgD S sa none), iIns K x (cTm K) dx [("grid", .adr gx')], iLst K p Ld, iIns K gx (cG K) dg (gdG sgD none n S), iIns K gx' (cG K) dg' (gdG sgD none n (tmW n S t l e))] (0 + 1 + 2 + (3 + 4)) (0 + (1 + 4) + 2)) Wk.refl) ?_
    have eT : tmW n S t l e = sWord n none e (sType n none (sWord n none l S) (t.cps.toList.map some)) := rfl
    have hu1 := up_word (w := n) (e := (none : Sg)) (wd := l) (s := S)
    have hu2 := up_type (w := n) (e := (none : Sg)) (s := sWord n none l S) (xs := t.cps.toList.map some)
    rw [List.length_map] at hu2
    refine s_cons (s_expr (ev_def tk (D_word E) hr2 (ea_cons ((pv_w (d := .adr sa) 3 rfl).ev (ea_cons ((pv_ix ix_tup (pv_w (d := .tup [.str kk, .str t, .str l, .str e]) 8 rfl) pv_int (p2_ixT (d := .str l) rfl)).ev (ea_nil ⟨Sg, sgD, none, n, S, .l (.l (.r (I.and (iDr K a b)) .here) (iTm K x dx gx' dg' n (tmW n S t l e))) (iLst K p Ld), sa, bl, bj, q0, qs, _, _, 1, rfl, ⟨l, rfl, rfl, rfl⟩, rfl, okS, hq, by omega, fun bl bj qs q0 hq1 => ?_⟩)))))))
    refine s_cons (s_expr (ev_def tk (D_type E) hr2 (ea_cons ((pv_w (d := .adr sa) 3 rfl).ev (ea_cons (PV.ev (PV.is (pv_listStr E.b_list (pv_ix ix_tup (pv_w (d := .tup [.str kk, .str t, .str l, .str e]) 8 rfl) pv_int (p2_ixT (d := .str t) rfl)) (by omega)) (z := .lst ((t.cps.toList.map some).map sgD)) (by rw [List.map_map]; rfl)) (ea_nil ⟨Sg, sgD, none, n, sWord n none l S, .l (.l (.r (I.and (iDr K a b)) .here) (iTm K x dx gx' dg' n (tmW n S t l e))) (iLst K p Ld), sa, bl, bj, q0, qs, _, _, _, rfl, ⟨t.cps.toList.map some, rfl, rfl, rfl⟩, rfl, okS.word, hq1, by rw [List.length_map]; omega, fun bl bj qs q0 hq2 => ?_⟩)))))))
    refine s_cons (s_expr (ev_def tk (D_word E) hr2 (ea_cons ((pv_w (d := .adr sa) 3 rfl).ev (ea_cons ((pv_ix ix_tup (pv_w (d := .tup [.str kk, .str t, .str l, .str e]) 8 rfl) pv_int (p2_ixT (d := .str e) rfl)).ev (ea_nil ⟨Sg, sgD, none, n, _, .l (.l (.r (I.and (iDr K a b)) .here) (iTm K x dx gx' dg' n (tmW n S t l e))) (iLst K p Ld), sa, bl, bj, q0, qs, _, _, 1, rfl, ⟨e, rfl, rfl, rfl⟩, rfl, okS.word.type, hq2, by omega, fun bl bj qs q0 hq3 => ?_⟩)))))))
    have hq3 : qs.length = (tmW n S t l e).up.length := hq3
    refine SX.eq (show _ = (((I.and (iDr K a b)).and (iScr K bl bj qs q0 sgD (tmW n S t l e) sa none)).and (iTm K x dx gx' dg' n (tmW n S t l e))).and (iLst K p Ld) from rfl) ?_
    have okT : SOk n (tmW n S t l e) := tmW_ok okS
    have hup : (tmW n S t l e).up.length ≤ S.up.length + 42 := tmW_up htl
    refine SX.k (s_one (s_clearE ?_))
    refine ev_meth0 tk ⟨fun f => E.l_Terminal.get f⟩ E.h_Terminal_rows.f E.h_Terminal_rows.i E.h_Terminal_rows.k (M_tmRows E) hr2 ?_
    refine (pv_w (d := .adr x) 4 rfl).ev ⟨insD_ins _ rfl (tm_x (c := .l (.r ((I.and (iDr K a b)).and (iScr K bl bj qs q0 sgD (tmW n S t l e) sa none)) .here) (iLst K p Ld))), x, dx, gx', dg', n, _, .l (.r ((I.and (iDr K a b)).and (iScr K bl bj qs q0 sgD (tmW n S t l e) sa none)) .here) (iLst K p Ld), rfl, rfl, okT, by omega, fun lr => ⟨lr, _, .r _ .here, rfl, rfl, _, Wk.dropR, ws ++ [⟨kk, t, l, e⟩], gx', dg', bl, bj, q0, qs, _, _, _, ?_, ?_, ?_, ?_, rfl⟩⟩
    · rw [eS, hLd]
    · rw [eS]; exact hq3
    · exact fun z hz => (List.mem_append.mp hz).elim (hg z) fun h => by rw [List.mem_singleton.mp h]; exact hgr
    · rw [List.length_append, List.length_append, hwl]; rfl
  · rintro δ' I' ⟨ws, gx, dg, bl, bj, q0, qs, o6, o7, o8, rfl, hq, hg, hwl, rfl⟩
    rw [List.length_range] at hwl
    have hwu := upB ws hg
    have okS : SOk n (tmF n (sNew n none) ws) := tmF_ok ws k0
    have okW : okEq (.lst (rowsD (tmF n (sNew n none) ws))) = true := (rowsD_ok (sgB _ hg)).okEq (by decide)
    have eqR : eqD (.lst (rowsD (tmF n (sNew n none) ws))) (.lst (rowsD (tmF n (sNew n none) ws))) = true := by
      rw [show rowsD (tmF n (sNew n none) ws) = ((tmF n (sNew n none) ws).rows.map rowTx).map D.str by rw [List.map_map]; rfl]
      exact (Inj.str.lst.eq _ _).mpr rfl
    refine s_one (s_retP (pv_andT ?_ (pv_andT (PV.is (pv_eq (x := .lst (rowsD (tmF n (sNew n none) ws))) (y := .lst (rowsD (tmF n (sNew n none) ws))) (E := EqC.data) hu ?_ ?_ ⟨okW, okW⟩) (congrArg D.bl eqR)) (pv_one (PV.is (pv_cmp op_lt (pv_cb call_len_seq E.b_len (va_cons (pv_w (d := .adr p) 5 rfl) va_nil) (pn_lenM (.r _ .here))) pv_int p2_lt) (z := .bl true) (congrArg D.bl (decide_eq_true (by rw [List.length_map]; omega))))))) (q _))
    · exact pv_def (D_rightT E) hr6 (va_cons (pv_w (d := .adr x) 4 rfl) (va_cons (pv_w (d := .adr sa) 3 rfl) (va_cons (pv_w (d := .int n) 2 rfl) va_nil))) fun P pp => ⟨x, dx, gx, dg, sa, bl, bj, q0, qs, n, _, .l (.r ((I.and (iDr K a b)).and (iScr K bl bj qs q0 sgD (tmF n (sNew n none) ws) sa none)) .here) (iLst K p (ws.map (wrD K))), .l (.l (.r (I.and (iDr K a b)) .here) (iTm K x dx gx dg n (tmF n (sNew n none) ws))) (iLst K p (ws.map (wrD K))), rfl, rfl, rfl, okS, hq, by omega, sgB ws hg, pp⟩
    · exact fun W R Z pp => EvX.weak (ev_freezeL (ev_def takesF (D_shown E) hr5 (ea_cons ((pv_w (d := .int n) 2 rfl).ev (ea_cons ((pv_w (d := .adr p) 5 rfl).ev (ea_nil ⟨n, ws, _, rfl, w1, w99, t40 _ hg, by omega, LsI.m (.r _ .here), .inr ⟨p, rfl⟩, fun p => ⟨p, _, _, rfl, rfl, pp⟩⟩)))))))
    · exact pv_tmRows E hr2 (.l (.r ((I.and (iDr K a b)).and (iScr K bl bj qs q0 sgD (tmF n (sNew n none) ws) sa none)) .here) (iLst K p (ws.map (wrD K)))) (pv_w (d := .adr x) 4 rfl) rfl okS (by omega)
end
end LK
set_option Elab.async false
set_option linter.all false
set_option maxRecDepth 100000
set_option maxHeartbeats 0
namespace LK
open PySem PySem.Spec PyProof.Rows L2 DL
theorem facts {P : Program} {w : World} {K : PySem.W.Frag} {h : Heap} {mg : Str → Option Value} {f : Addr} (X : K.In h) (G : h.Ns mainGlobals mg) (hfa : mg ("law" : Str) = some (.ref f)) (c0 : SaysS fn gs [] ex w h K) :
    ∃ fd : FuncData, (∀ (s : Shared) (v : Value), BindsTo s fd ⟨[v], []⟩ [("_law_script", v)]) ∧ ∀ base : Heap, K.In base → base.Ns mainGlobals mg → FnOk P w K mg base (L2.CX P w) LVL f fd ["_law_script"] (spD K sLaw) := by
  have c := c0.p
  have EE : ∀ base, Env P w K mg base := fun base => ⟨c.more, ⟨h, X, G⟩, fun d hd => c.has hd, fun d hd => c.hasG hd, fun p hp => nomatch hp⟩
  obtain ⟨fd, F⟩ := c.has in_f_law
  have F : FunD K "law" "law" (defArgs f_law) (defBody f_law) (defScope f_law) [] [] (He.ga K "law") fd := F
  have e := hfa.symm.trans (EE h).g_law
  cases e
  have b := FunD.bindsA (ps := ["_law_script"]) F fun _ _ _ _ _ _ us hl => match us, hl with | [_], _ => rfl
  exact ⟨fd, fun s v => b s [v] rfl, fun base _ _ => ok_law (EE base) fd F⟩
end LK
open PySem PySem.W PySem.Calls PyProof.Rows
theorem PySem.Challenge.cw_linesharing_k07_whole_terminals_holds : PySem.Challenge.rw_linesharing_k07_whole_terminals.Holds := by
  w_on; o_law
  refine HandSHeadRun.head_any (r := OpenLaw.row PySem.Challenge.rw_linesharing_k07_whole_terminals) (q := view (OpenLaw.row PySem.Challenge.rw_linesharing_k07_whole_terminals).prog [46]) (H := LK.hk) (ob := LK.ob) (M := 30000) (loose := LK.loose) (d := HandSHeadRun.topDef (OpenLaw.row PySem.Challenge.rw_linesharing_k07_whole_terminals).prog 46) (kwd := []) LK.ob_eq
    (by kernel_rfl) (fun s => by kernel_rfl) LK.run (by kernel_rfl) (by kernel_rfl) (by kernel_rfl) (by rfl) (by first | assumption | decide +kernel) (by decide +kernel) ⟨rfl, rfl, rfl, rfl, rfl, by decide +kernel⟩ ?hw ?hc
  case hw => w_witness2
  case hc =>
    refine LamX.walk_ofTsE (l := PySem.Challenge.rw_linesharing_k07_whole_terminals) (n := 63) (k := LK.LVL) (x := "_law_script") (CX := fun w => L2.CX (PySem.Challenge.rw_linesharing_k07_whole_terminals).prog w) rfl (by decide) (by kernel_rfl) ⟨rfl, by decide, by decide⟩ ?F ?E
    case F =>
      intro w mg fa h Y G hmg0
      obtain ⟨K, KX, c⟩ := Y
      have hmg : mg ("law" : PySem.Str) = some (.ref fa) := by
        have e : (HandSHeadRun.topDef (OpenLaw.row PySem.Challenge.rw_linesharing_k07_whole_terminals).prog 46).name = ("law" : PySem.Str) := by kernel_rfl
        rw [← e]
        exact hmg0
      obtain ⟨fd, hb, hF⟩ := LK.facts (P := (PySem.Challenge.rw_linesharing_k07_whole_terminals).prog) (w := w) KX G hmg c
      exact ⟨K, KX, fd, [], _, (fun p hp => nomatch hp), (fun p hp => nomatch hp), (fun p hp => nomatch hp), hb, fun H a ns hl hbits _ hS => DL.sp_law hl hS, fun base h1 h2 _ => hF base h1 h2⟩
    case E =>
      intro w H s e s' z
      exact DL.cx0 z
