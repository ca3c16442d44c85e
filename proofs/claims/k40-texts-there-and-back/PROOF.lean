import PyProof.Rows.All
import Wide.All
import OpenK.AllK
import Wide.FinOn
import HandS.ForMost
import HandS.ForExc
import HandS.Exc
import HandS.ExcOwn
import HandS.ExcInit
import HandS.ExcField
import HandS.ExcIs
import KE.KExcIs
import HandS.TryOnly
import HandS.IsInst
import HandS.Slots
import HandS.SlotsOwn
import HandS.Defaults
import HandS.MakeKw
import HandS.MakeKwOnly
import HandS.CallSlots
import HandS.Walk
import HandS.Evl
import HandS.HeadWalk
import HandS.HeadHook4
import KE.KStateDown
import HandS.Head0
import HandS.Head1
import HandS.Head2
import HandS.HeadEnd
import HandS.Dict
import HandS.Iter
import HandS.WordsDict
import KE.GoesEnum
import HandS.Deep
import HandS.TupAny
import HandS.DictComp
import HandS.Finally
import HandS.Zip
import HandS.Conv
import KE.KDictList
import HandS.OwnEq
import KE.KEqDict
import KE.KIndexOf
import KE.DataFind
import HandS.TupMul
import HandS.Star
import HandS.More
import PyProof.WalksMore
import PyProof.SumWalkG
import PyProof.FactsAll.tuple_2
import KE.KDictKeyed
import HandS.Flow
import KE.DataCmp
import KE.KOpsOwn
import KE.KWithOwn
import HandS.HotCalls
import PyProof.RulesMatch
import HandS.Property
import HandS.Strs
import PyProof.Rows.SetFrom
import KE.SortData
import HandS.StrMore
import HandS.Nested
import HandS.TryMany
import HandS.NestedK
import HandS.Text
import HandS.ReplaceList
import PyProof.StrLawsReplace
import PyProof.ToksMono
import PyProof.ForAny
import OpenK.XOpen
import HandS.ReplaceDef
import HandS.ReplaceLit
import PyProof.Rows.StrJoinRep
import HandS.Style
import PyProof.FactsAll.list_3
import KE.KDictDisplayH
import HandS.Rev
import PyProof.DictUpdate
import KE.KDictLaws
import PySem.Challenge.RW_linesharing_k40_texts_there_and_back
set_option Elab.async false
set_option linter.all false
set_option maxRecDepth 100000
set_option maxHeartbeats 4000000
namespace DL
open PySem PySem.Spec PyProof.Rows L2

inductive D where
  | non | bl (b : Bool) | int (i : Int) | str (x : Str) | ty (n : String) | adr (a : Addr)
  | tup (ds : List D) | lst (ds : List D) | lsf (ds : List D) | slo (C : Addr) (ds : List D)
  | exc (a C dd : Addr) (ks : List Str) (ds : List D) | dic (ks : List Key) (ds : List D) | tub (ds : List D)


section
variable {K : PySem.W.Frag} {G G' H H' : Hp}
abbrev DEnv := List (Option D)
end

structure Iv (K : PySem.W.Frag) where
  F : Addr → Prop
  φ : Hp → Hp → Prop
  loc : ∀ G G' H H', Same G G' → (∀ a, F a → H' a = H a) → φ G H → φ G' H'
  dom : ∀ G H, φ G H → ∀ a, F a → H a ≠ none
end DL
set_option Elab.async false
set_option linter.all false
set_option maxRecDepth 100000
set_option maxHeartbeats 4000000
namespace DL
open PySem PySem.Spec PyProof.Rows L2


abbrev Rx (K : PySem.W.Frag) := Addr → List (Str × D) → Iv K → Prop
end DL
set_option Elab.async false
set_option linter.all false
set_option maxRecDepth 100000
set_option maxHeartbeats 4000000
namespace DL
open PySem PySem.Spec PyProof.Rows L2

structure Ko (K : PySem.W.Frag) where
  nx : DEnv → Iv K → Prop
  rt : D → Iv K → Prop
  bk : DEnv → Iv K → Prop := fun _ _ => False
  ct : DEnv → Iv K → Prop := fun _ _ => False
  ex : Addr → List (Str × D) → DEnv → Iv K → Prop := fun _ _ _ _ => False
end DL
set_option Elab.async false
set_option linter.all false
set_option maxRecDepth 100000
set_option maxHeartbeats 4000000
namespace DL
open PySem PySem.Spec PyProof.Rows L2

abbrev Spec (K : PySem.W.Frag) := Iv K → List D → (D → Iv K → Prop) → Rx K → Prop
end DL
set_option Elab.async false
set_option linter.all false
set_option maxRecDepth 100000
set_option maxHeartbeats 4000000
set_option Elab.async false
set_option linter.all false
set_option maxRecDepth 100000
set_option maxHeartbeats 4000000
set_option Elab.async false
set_option linter.all false
set_option maxRecDepth 100000
set_option maxHeartbeats 4000000
set_option Elab.async false
set_option linter.all false
set_option maxRecDepth 100000
set_option maxHeartbeats 4000000
set_option Elab.async false
set_option linter.all false
set_option maxRecDepth 100000
set_option maxHeartbeats 4000000
set_option Elab.async false
set_option linter.all false
set_option maxRecDepth 100000
set_option maxHeartbeats 4000000
namespace DL
open PySem PySem.Spec PyProof.Rows L2

def oeB (K : PySem.W.Frag) (C : Addr) : Bool := (match K.lookup C with
  | some ⟨.type "type", _, .cls cd, sl⟩ => (match cd.mro, sl.toList with
    | .ref C' :: bm, [_, _, _, _, some (.builtin n), _] => C' == C && n == "ValueError.__new__" && !cd.hasDel && cd.hasDict && HandSPX.refsVE bm
    | _, _ => false)
  | _ => false) && He.eqO (PySem.W.findIn K (.ref C) "__setattr__") (some (some (.builtin "object.__setattr__"))) && decide (PySem.W.subIn K (.ref C) (.type "BaseException") = some true) && decide (PySem.W.typeIn K (.ref C) = some (.type "type")) && PySem.W.keepIn K (.ref C)
def scB (K : PySem.W.Frag) (C : Addr) : Bool := PySem.W.plainGet K C Str.empty && PySem.W.isClsIn K C && PySem.W.plainOver K C && He.eqO (PySem.W.findIn K (.ref C) "__setattr__") (some (some (.builtin "object.__setattr__")))
def slB (K : PySem.W.Frag) (C : Addr) (f : Str) (i : Nat) : Bool := He.eqO (PySem.W.findIn K (.ref C) f) (some (some (.ref (He.ma K C f)))) && He.eqO (PySem.W.specialIn K (.ref (He.ma K C f)) "__get__") (some (some (.builtin "member_descriptor.__get__"))) &&
  decide (PySem.W.takesIn K (.ref (He.ma K C f)) = some true) && decide (PySem.W.typeIn K (.ref (He.ma K C f)) = some (.type "member_descriptor")) && decide (PySem.W.slotIn K (He.ma K C f) C = some i) && decide (i < 1000)
def exB (K : PySem.W.Frag) (x : Str) : Bool := He.eqO (PySem.W.nsIn K mainGlobals x) (some (some (.ref (He.ga K x)))) && oeB K (He.ga K x) && He.eqO (PySem.W.findIn K (.ref (He.ga K x)) "__init__") (some (some (.ref (He.ma K (He.ga K x) "__init__")))) && decide (PySem.W.typeIn K (.ref (He.ma K (He.ga K x) "__init__")) = some (.type "function"))
end DL
set_option Elab.async false
set_option linter.all false
set_option maxRecDepth 100000
set_option maxHeartbeats 4000000
set_option Elab.async false
set_option linter.all false
set_option maxRecDepth 100000
set_option maxHeartbeats 4000000
namespace DL
open PySem PySem.Spec PyProof.Rows L2
def xcB (K : PySem.W.Frag) (C : Addr) : Bool := He.eqO (PySem.W.findIn K (.ref C) "__getattribute__") (some (some (.builtin "BaseException.__getattribute__"))) && He.eqO (PySem.W.findIn K (.ref C) "__getattr__") (some none) && decide (PySem.W.subIn K (.ref C) (.type "BaseException") = some true) && PySem.W.hasDictIn K C &&
  He.eqO (PySem.W.findIn K (.ref C) "__class__") (some (some (.builtin "object.__class__"))) && He.eqO (PySem.W.specialIn K (.builtin "object.__class__") "__get__") (some (some (.builtin "getset_descriptor.__get__"))) && decide (PySem.W.takesIn K (.builtin "object.__class__") = some true) && decide (PySem.W.mroIn K C (.type "object") = some true)
def txB (K : PySem.W.Frag) (C : Addr) : Bool := xfB K C && xcB K C
end DL
set_option Elab.async false
set_option linter.all false
set_option maxRecDepth 100000
set_option maxHeartbeats 4000000
set_option Elab.async false
set_option linter.all false
set_option maxRecDepth 100000
set_option maxHeartbeats 4000000
set_option Elab.async false
set_option linter.all false
set_option maxRecDepth 100000
set_option maxHeartbeats 1000000
namespace DL
open PySem PySem.Spec PyProof.Rows L2

def gtr (K : PySem.W.Frag) (C : Addr) (f : Str) : Addr := match PySem.W.recIn K (He.ma K C f) "property" with
  | some (.ref g :: _) => g
  | _ => 0
def prB (K : PySem.W.Frag) (C : Addr) (f : Str) : Bool := He.eqO (PySem.W.findIn K (.ref C) f) (some (some (.ref (He.ma K C f)))) && He.eqO (PySem.W.specialIn K (.ref (He.ma K C f)) "__get__") (some (some (.builtin "property.__get__"))) && decide (PySem.W.takesIn K (.ref (He.ma K C f)) = some true) &&
  (match PySem.W.recIn K (He.ma K C f) "property" with
  | some (.ref g :: _) => true
  | _ => false)
def siB (K : PySem.W.Frag) (C : Addr) : Bool := He.eqO (PySem.W.findIn K (.ref C) "__class__") (some (some (.builtin "object.__class__"))) && He.eqO (PySem.W.specialIn K (.builtin "object.__class__") "__get__") (some (some (.builtin "getset_descriptor.__get__"))) && decide (PySem.W.takesIn K (.builtin "object.__class__") = some true) && decide (PySem.W.mroIn K C (.type "object") = some true)
end DL
set_option Elab.async false
set_option linter.all false
set_option maxRecDepth 100000
set_option maxHeartbeats 4000000
namespace DL
open PySem PySem.Spec PyProof.Rows L2
def pAd (K : PySem.W.Frag) (p : Str × Option Str) : Addr := gtr K (He.ga K p.1) (p.2.getD Str.empty)
def fnP (K : PySem.W.Frag) (p : Str × Option Str) : He.FnW := match K.lookup (pAd K p) with
  | some ⟨_, _, .func fd, _⟩ => some (fd.name, fd.qualname, fd.params, fd.body, fd.scope, fd.globals, fd.closure, fd.builtins)
  | _ => none
def okP (K : PySem.W.Frag) (d : He.DefD) : Bool := PySem.W.keepIn K (.ref (pAd K d.at_)) && (match K.lookup (pAd K d.at_) with
  | some ⟨_, _, .func fd, _⟩ => PySem.W.codeIn K fd.code d.qual && (He.dflB K fd.defaults (d.dvs K) && He.kwdB K fd.kwdefaults (d.kws K))
  | _ => false)
def exP (gs : List He.DefD) (ex : PySem.W.Frag → Bool) (K : PySem.W.Frag) : Bool := ex K && gs.all fun d => okP K d
abbrev AlP : Type := He.AlX × List He.FnW
structure SaysP (fn gs : List He.DefD) (ex : PySem.W.Frag → Bool) (w : World) (h : Heap) (K : PySem.W.Frag) : Prop where
  x : He.SaysX [] fn [] [] (exP gs ex) w h K
  g : (gs.map fun d => fnP K d.at_) = gs.map He.DefD.val
def dF (x : Str) (st : Stmt) (dfl : List He.Dv := []) (kws : List (Str × He.Dv) := []) : He.DefD := ⟨(x, none), x, x, defArgs st, defBody st, defScope st, dfl, kws⟩
def dM (C m q : Str) (st : Stmt) (dfl : List He.Dv := []) (kws : List (Str × He.Dv) := []) : He.DefD := ⟨(C, some m), m, q, defArgs st, defBody st, defScope st, dfl, kws⟩
end DL
set_option Elab.async false
set_option linter.all false
set_option maxRecDepth 100000
set_option maxHeartbeats 1000000
set_option Elab.async false
set_option linter.all false
set_option maxRecDepth 100000
set_option maxHeartbeats 1000000
set_option Elab.async false
set_option linter.all false
set_option maxRecDepth 100000
set_option maxHeartbeats 4000000
set_option Elab.async false
set_option linter.all false
set_option maxRecDepth 100000
set_option maxHeartbeats 4000000
set_option Elab.async false
set_option linter.all false
set_option maxRecDepth 100000
set_option maxHeartbeats 4000000
set_option Elab.async false
set_option linter.all false
set_option maxRecDepth 100000
set_option maxHeartbeats 4000000
namespace DL
open PySem PySem.Spec PyProof.Rows L2

def DLe (δ δ0 : DEnv) : Prop := δ.length = δ0.length ∧ ∀ (i : Nat) (d : D), δ0[i]? = some (some d) → δ[i]? = some (some d)
section
variable {X : Cx} {W : WX} {R : Rx X.K} {tg iter e elt c : Expr} {ifs : List Expr} {scope : Scope} {sts body : List Stmt} {st : Stmt} {δ δ0 : DEnv} {I : Iv X.K} {κ : Ko X.K} {P : D → Iv X.K → Prop} {pos : Pos} {d : D} {vs : List Nat}
def Ko.w {K : PySem.W.Frag} (κ : Ko K) : Ko K := { κ with nx := fun δ' I' => ∃ δ0, DLe δ' δ0 ∧ κ.nx δ0 I', bk := fun δ' I' => ∃ δ0, DLe δ' δ0 ∧ κ.bk δ0 I', ct := fun δ' I' => ∃ δ0, DLe δ' δ0 ∧ κ.ct δ0 I' }
end
end DL
set_option Elab.async false
set_option linter.all false
set_option maxRecDepth 100000
set_option maxHeartbeats 4000000
set_option Elab.async false
set_option linter.all false
set_option maxRecDepth 100000
set_option maxHeartbeats 4000000
set_option Elab.async false
set_option linter.all false
set_option maxRecDepth 100000
set_option maxHeartbeats 4000000
set_option Elab.async false
set_option linter.all false
set_option maxRecDepth 100000
set_option maxHeartbeats 4000000
set_option Elab.async false
set_option linter.all false
set_option maxRecDepth 100000
set_option maxHeartbeats 4000000
set_option Elab.async false
set_option linter.all false
set_option maxRecDepth 100000
set_option maxHeartbeats 4000000
set_option Elab.async false
set_option linter.all false
set_option maxRecDepth 100000
set_option maxHeartbeats 4000000
set_option Elab.async false
set_option linter.all false
set_option maxRecDepth 100000
set_option maxHeartbeats 4000000
set_option Elab.async false
set_option linter.all false
set_option maxRecDepth 100000
set_option maxHeartbeats 4000000
set_option Elab.async false
set_option linter.all false
set_option maxRecDepth 100000
set_option maxHeartbeats 4000000
set_option Elab.async false
set_option linter.all false
set_option maxRecDepth 100000
set_option maxHeartbeats 4000000
set_option Elab.async false
set_option linter.all false
set_option maxRecDepth 100000
set_option maxHeartbeats 4000000
set_option Elab.async false
set_option linter.all false
set_option maxRecDepth 100000
set_option maxHeartbeats 4000000
set_option Elab.async false
set_option linter.all false
set_option maxRecDepth 100000
set_option maxHeartbeats 4000000
set_option Elab.async false
set_option linter.all false
set_option maxRecDepth 100000
set_option maxHeartbeats 4000000
set_option Elab.async false
set_option linter.all false
set_option maxRecDepth 100000
set_option maxHeartbeats 4000000
set_option Elab.async false
set_option linter.all false
set_option maxRecDepth 100000
set_option maxHeartbeats 4000000
set_option Elab.async false
set_option linter.all false
set_option maxRecDepth 100000
set_option maxHeartbeats 4000000
set_option Elab.async false
set_option linter.all false
set_option maxRecDepth 100000
set_option maxHeartbeats 4000000
set_option Elab.async false
set_option linter.all false
set_option maxRecDepth 100000
set_option maxHeartbeats 400000
set_option Elab.async false
set_option linter.all false
set_option maxRecDepth 100000
set_option maxHeartbeats 4000000
set_option Elab.async false
set_option linter.all false
set_option maxRecDepth 100000
set_option maxHeartbeats 4000000
set_option Elab.async false
set_option linter.all false
set_option maxRecDepth 100000
set_option maxHeartbeats 4000000
namespace DL
open PySem PySem.Spec PyProof.Rows L2
structure Wk {K : PySem.W.Frag} (I I' : Iv K) : Prop where
  F : ∀ a, I'.F a → I.F a
  φ : ∀ G H, I.φ G H → I'.φ G H
section
variable {X : Cx} {W : WX} {R : Rx X.K} {e : Expr} {es : List Expr} {sts : List Stmt} {st : Stmt} {δ : DEnv} {I I' : Iv X.K} {κ : Ko X.K} {P P' : D → Iv X.K → Prop}
def Ko.k {K : PySem.W.Frag} (κ : Ko K) : Ko K := ⟨fun δ I => ∃ I', Wk I I' ∧ κ.nx δ I', fun d I => ∃ I', Wk I I' ∧ κ.rt d I', fun δ I => ∃ I', Wk I I' ∧ κ.bk δ I', fun δ I => ∃ I', Wk I I' ∧ κ.ct δ I', fun C fs δ I => ∃ I', Wk I I' ∧ κ.ex C fs δ I'⟩
end
end DL
set_option Elab.async false
set_option linter.all false
set_option maxRecDepth 100000
set_option maxHeartbeats 4000000
set_option Elab.async false
set_option linter.all false
set_option maxRecDepth 100000
set_option maxHeartbeats 4000000
set_option Elab.async false
set_option linter.all false
set_option maxRecDepth 100000
set_option maxHeartbeats 4000000
set_option Elab.async false
set_option linter.all false
set_option maxRecDepth 100000
set_option maxHeartbeats 4000000
set_option Elab.async false
set_option linter.all false
set_option maxRecDepth 100000
set_option maxHeartbeats 4000000
set_option Elab.async false
set_option linter.all false
set_option maxRecDepth 100000
set_option maxHeartbeats 4000000
set_option Elab.async false
set_option linter.all false
set_option maxRecDepth 100000
set_option maxHeartbeats 4000000
set_option Elab.async false
set_option linter.all false
set_option maxRecDepth 100000
set_option maxHeartbeats 4000000
set_option Elab.async false
set_option linter.all false
set_option maxRecDepth 100000
set_option maxHeartbeats 1000000
namespace DL
open PySem PySem.Spec PyProof.Rows L2
inductive IT where
  | z (i : Nat)
  | n (a b : IT)
end DL
set_option Elab.async false
set_option linter.all false
set_option maxRecDepth 100000
set_option maxHeartbeats 4000000
set_option Elab.async false
set_option linter.all false
set_option maxRecDepth 100000
set_option maxHeartbeats 4000000
set_option Elab.async false
set_option linter.all false
set_option maxRecDepth 100000
set_option maxHeartbeats 4000000
set_option Elab.async false
set_option linter.all false
set_option maxRecDepth 100000
set_option maxHeartbeats 4000000
set_option Elab.async false
set_option linter.all false
set_option maxRecDepth 100000
set_option maxHeartbeats 4000000
set_option Elab.async false
set_option linter.all false
set_option maxRecDepth 100000
set_option maxHeartbeats 4000000
set_option Elab.async false
set_option linter.all false
set_option maxRecDepth 100000
set_option maxHeartbeats 4000000
set_option Elab.async false
set_option linter.all false
set_option maxRecDepth 100000
set_option maxHeartbeats 4000000
set_option Elab.async false
set_option linter.all false
set_option maxRecDepth 100000
set_option maxHeartbeats 4000000
set_option Elab.async false
set_option linter.all false
set_option maxRecDepth 100000
set_option maxHeartbeats 4000000
set_option Elab.async false
set_option linter.all false
set_option maxRecDepth 100000
set_option maxHeartbeats 4000000
namespace DL
open PySem PySem.Spec PyProof.Rows L2
abbrev tyNs : List String := ["NoneType", "bool", "int", "str", "tuple", "list", "dict"]
def tclB (K : PySem.W.Frag) (C : Addr) : Bool := scB K C && (siB K C && (decide (PySem.W.kitOne K (.ref C) (.ref C) = some true) && ((tyNs.all fun t => decide (PySem.W.kitOne K (.type t) (.ref C) = some false)) && ((tyNs.all fun t => PySem.W.notFirst K C (.type t)) && PySem.W.notFirst K C (.ref C)))))
end DL
set_option Elab.async false
set_option linter.all false
set_option maxRecDepth 100000
set_option maxHeartbeats 4000000
set_option Elab.async false
set_option linter.all false
set_option maxRecDepth 100000
set_option maxHeartbeats 4000000
namespace LK
open PySem PySem.Spec PyProof.Rows L2 DL
def top (i : Nat) : Stmt := PySem.Challenge.pw_linesharing_k40_texts_there_and_back.main.body.getD i (.Pass ⟨0, 0, 0, 0⟩)
abbrev m_InvalidWrite_init : Stmt := inClass (top 3) 0
abbrev m_InvalidCast_init : Stmt := inClass (top 4) 0
abbrev m_UnknownWork_init : Stmt := inClass (top 5) 0
abbrev m_Clash_init : Stmt := inClass (top 6) 0
abbrev m_InvalidText_init : Stmt := inClass (top 7) 0
abbrev f_is_text : Stmt := top 23
abbrev f_is_name : Stmt := top 24
abbrev f_is_one_of : Stmt := top 25
abbrev m_Write_init : Stmt := inClass (top 26) 1
abbrev m_Write_kind : Stmt := inClass (top 26) 2
abbrev m_Write_text : Stmt := inClass (top 26) 3
abbrev m_Write_lead : Stmt := inClass (top 26) 4
abbrev m_Write_tail : Stmt := inClass (top 26) 5
abbrev m_Write_len : Stmt := inClass (top 26) 7
abbrev m_Write_eq : Stmt := inClass (top 26) 8
abbrev f_is_plain : Stmt := top 27
abbrev f_look_at_writes : Stmt := top 28
abbrev m_Cast_init : Stmt := inClass (top 29) 1
abbrev m_Cast_names : Stmt := inClass (top 29) 2
abbrev m_Cast_getitem : Stmt := inClass (top 29) 3
abbrev m_Cast_contains : Stmt := inClass (top 29) 4
abbrev m_Cast_iter : Stmt := inClass (top 29) 5
abbrev m_Cast_len : Stmt := inClass (top 29) 6
abbrev m_Cast_eq : Stmt := inClass (top 29) 7
abbrev m_Cast_add : Stmt := inClass (top 29) 8
abbrev m_Cast_lines : Stmt := inClass (top 29) 11
abbrev f_write_text : Stmt := top 38
abbrev f_write_cast : Stmt := top 39
abbrev f_quoted_end : Stmt := top 40
abbrev f_token_at : Stmt := top 41
abbrev f_tokens_of : Stmt := top 42
abbrev m_Reader_init : Stmt := inClass (top 43) 0
abbrev m_Reader_refuse : Stmt := inClass (top 43) 1
abbrev m_Reader_take : Stmt := inClass (top 43) 2
abbrev m_Reader_is_next : Stmt := inClass (top 43) 3
abbrev m_Reader_take_mark : Stmt := inClass (top 43) 4
abbrev m_Reader_take_name : Stmt := inClass (top 43) 5
abbrev m_Reader_write : Stmt := inClass (top 43) 6
abbrev m_Reader_work : Stmt := inClass (top 43) 7
abbrev f_read_cast : Stmt := top 44
abbrev f_Lmix : Stmt := top 46
abbrev f_Lnext : Stmt := top 47
abbrev f_Lletters : Stmt := top 48
abbrev f_Lone : Stmt := top 49
abbrev f_Lrowof : Stmt := top 50
abbrev f_Ltable : Stmt := top 51
abbrev f_Lbuilt : Stmt := top 52
abbrev f_Llined : Stmt := top 53
abbrev f_law : Stmt := top 54
abbrev d_m_InvalidWrite_init : He.DefD := dM "InvalidWrite" "__init__" "InvalidWrite.__init__" m_InvalidWrite_init
abbrev d_m_InvalidCast_init : He.DefD := dM "InvalidCast" "__init__" "InvalidCast.__init__" m_InvalidCast_init
abbrev d_m_UnknownWork_init : He.DefD := dM "UnknownWork" "__init__" "UnknownWork.__init__" m_UnknownWork_init
abbrev d_m_Clash_init : He.DefD := dM "Clash" "__init__" "Clash.__init__" m_Clash_init
abbrev d_m_InvalidText_init : He.DefD := dM "InvalidText" "__init__" "InvalidText.__init__" m_InvalidText_init
abbrev d_f_is_text : He.DefD := dF "is_text" f_is_text
abbrev d_f_is_name : He.DefD := dF "is_name" f_is_name
abbrev d_f_is_one_of : He.DefD := dF "is_one_of" f_is_one_of
abbrev d_m_Write_init : He.DefD := dM "Write" "__init__" "Write.__init__" m_Write_init [] [("lead", .str ""), ("tail", .str "")]
abbrev d_m_Write_kind : He.DefD := dM "Write" "kind" "Write.kind" m_Write_kind
abbrev d_m_Write_text : He.DefD := dM "Write" "text" "Write.text" m_Write_text
abbrev d_m_Write_lead : He.DefD := dM "Write" "lead" "Write.lead" m_Write_lead
abbrev d_m_Write_tail : He.DefD := dM "Write" "tail" "Write.tail" m_Write_tail
abbrev d_m_Write_len : He.DefD := dM "Write" "__len__" "Write.__len__" m_Write_len
abbrev d_m_Write_eq : He.DefD := dM "Write" "__eq__" "Write.__eq__" m_Write_eq
abbrev d_f_is_plain : He.DefD := dF "is_plain" f_is_plain
abbrev d_f_look_at_writes : He.DefD := dF "look_at_writes" f_look_at_writes
abbrev d_m_Cast_init : He.DefD := dM "Cast" "__init__" "Cast.__init__" m_Cast_init
abbrev d_m_Cast_names : He.DefD := dM "Cast" "names" "Cast.names" m_Cast_names
abbrev d_m_Cast_getitem : He.DefD := dM "Cast" "__getitem__" "Cast.__getitem__" m_Cast_getitem
abbrev d_m_Cast_contains : He.DefD := dM "Cast" "__contains__" "Cast.__contains__" m_Cast_contains
abbrev d_m_Cast_iter : He.DefD := dM "Cast" "__iter__" "Cast.__iter__" m_Cast_iter
abbrev d_m_Cast_len : He.DefD := dM "Cast" "__len__" "Cast.__len__" m_Cast_len
abbrev d_m_Cast_eq : He.DefD := dM "Cast" "__eq__" "Cast.__eq__" m_Cast_eq
abbrev d_m_Cast_add : He.DefD := dM "Cast" "__add__" "Cast.__add__" m_Cast_add
abbrev d_m_Cast_lines : He.DefD := dM "Cast" "lines" "Cast.lines" m_Cast_lines
abbrev d_f_write_text : He.DefD := dF "write_text" f_write_text
abbrev d_f_write_cast : He.DefD := dF "write_cast" f_write_cast
abbrev d_f_quoted_end : He.DefD := dF "quoted_end" f_quoted_end
abbrev d_f_token_at : He.DefD := dF "token_at" f_token_at
abbrev d_f_tokens_of : He.DefD := dF "tokens_of" f_tokens_of
abbrev d_m_Reader_init : He.DefD := dM "Reader" "__init__" "Reader.__init__" m_Reader_init
abbrev d_m_Reader_refuse : He.DefD := dM "Reader" "refuse" "Reader.refuse" m_Reader_refuse
abbrev d_m_Reader_take : He.DefD := dM "Reader" "take" "Reader.take" m_Reader_take
abbrev d_m_Reader_is_next : He.DefD := dM "Reader" "is_next" "Reader.is_next" m_Reader_is_next
abbrev d_m_Reader_take_mark : He.DefD := dM "Reader" "take_mark" "Reader.take_mark" m_Reader_take_mark
abbrev d_m_Reader_take_name : He.DefD := dM "Reader" "take_name" "Reader.take_name" m_Reader_take_name
abbrev d_m_Reader_write : He.DefD := dM "Reader" "write" "Reader.write" m_Reader_write
abbrev d_m_Reader_work : He.DefD := dM "Reader" "work" "Reader.work" m_Reader_work
abbrev d_f_read_cast : He.DefD := dF "read_cast" f_read_cast
abbrev d_f_Lmix : He.DefD := dF "_law_mix" f_Lmix
abbrev d_f_Lnext : He.DefD := dF "_law_next" f_Lnext
abbrev d_f_Lletters : He.DefD := dF "_law_letters" f_Lletters
abbrev d_f_Lone : He.DefD := dF "_law_one" f_Lone
abbrev d_f_Lrowof : He.DefD := dF "_law_rowof" f_Lrowof
abbrev d_f_Ltable : He.DefD := dF "_law_table" f_Ltable
abbrev d_f_Lbuilt : He.DefD := dF "_law_built" f_Lbuilt
abbrev d_f_Llined : He.DefD := dF "_law_lined" f_Llined
abbrev d_f_law : He.DefD := dF "law" f_law
abbrev fnL : List He.DefD := [d_m_InvalidWrite_init, d_m_InvalidCast_init, d_m_UnknownWork_init, d_m_Clash_init, d_m_InvalidText_init, d_f_is_text, d_f_is_name, d_f_is_one_of, d_m_Write_init, d_m_Write_len, d_m_Write_eq, d_f_is_plain, d_f_look_at_writes, d_m_Cast_init, d_m_Cast_getitem, d_m_Cast_contains, d_m_Cast_iter, d_m_Cast_len, d_m_Cast_eq, d_m_Cast_add, d_m_Cast_lines, d_f_write_text, d_f_write_cast, d_f_quoted_end, d_f_token_at, d_f_tokens_of, d_m_Reader_init, d_m_Reader_refuse, d_m_Reader_take, d_m_Reader_is_next, d_m_Reader_take_mark, d_m_Reader_take_name, d_m_Reader_write, d_m_Reader_work, d_f_read_cast, d_f_Lmix, d_f_Lnext, d_f_Lletters, d_f_Lone, d_f_Lrowof, d_f_Ltable, d_f_Lbuilt, d_f_Llined, d_f_law]
abbrev gsL : List He.DefD := [d_m_Write_kind, d_m_Write_text, d_m_Write_lead, d_m_Write_tail, d_m_Cast_names]
def lk0 (K : PySem.W.Frag) : List Bool := [(He.Fa.free "isinstance").ok K,
  (He.Fa.free "str").ok K,
  (He.Fa.free "int").ok K,
  (He.Fa.free "bool").ok K,
  (He.Fa.free "list").ok K,
  (He.Fa.free "tuple").ok K,
  (He.Fa.free "dict").ok K,
  (He.Fa.free "len").ok K,
  (He.Fa.free "all").ok K,
  (He.Fa.free "any").ok K,
  (He.Fa.free "sum").ok K,
  (He.Fa.free "max").ok K,
  (He.Fa.free "min").ok K,
  (He.Fa.free "range").ok K,
  (He.Fa.free "sorted").ok K,
  (He.Fa.free "reversed").ok K,
  (He.Fa.free "enumerate").ok K,
  (He.Fa.free "set").ok K,
  (He.Fa.free "ValueError").ok K,
  (He.Fa.free "TypeError").ok K]
def lk1 (K : PySem.W.Frag) : List Bool := [(He.Fa.free "super").ok K,
  (He.Fa.glo "is_text").ok K,
  (He.Fa.glo "is_name").ok K,
  (He.Fa.glo "is_one_of").ok K,
  (He.Fa.glo "is_plain").ok K,
  (He.Fa.glo "look_at_writes").ok K,
  (He.Fa.glo "write_text").ok K,
  (He.Fa.glo "write_cast").ok K,
  (He.Fa.glo "quoted_end").ok K,
  (He.Fa.glo "token_at").ok K,
  (He.Fa.glo "tokens_of").ok K,
  (He.Fa.glo "read_cast").ok K,
  (He.Fa.glo "_law_mix").ok K,
  (He.Fa.glo "_law_next").ok K,
  (He.Fa.glo "_law_letters").ok K,
  (He.Fa.glo "_law_one").ok K,
  (He.Fa.glo "_law_rowof").ok K,
  (He.Fa.glo "_law_table").ok K,
  (He.Fa.glo "_law_built").ok K,
  (He.Fa.glo "_law_lined").ok K]
def lk2 (K : PySem.W.Frag) : List Bool := [(He.Fa.glo "law").ok K,
  (He.Fa.glo "LineError").ok K,
  (He.Fa.glo "InvalidWrite").ok K,
  (He.Fa.glo "InvalidCast").ok K,
  (He.Fa.glo "UnknownWork").ok K,
  (He.Fa.glo "Clash").ok K,
  (He.Fa.glo "InvalidText").ok K,
  (He.Fa.glo "Write").ok K,
  (He.Fa.glo "Cast").ok K,
  (He.Fa.glo "Reader").ok K,
  PySem.W.keepIn K (.ref (He.ga K "is_text")),
  PySem.W.keepIn K (.ref (He.ga K "is_name")),
  PySem.W.keepIn K (.ref (He.ga K "is_one_of")),
  PySem.W.keepIn K (.ref (He.ga K "is_plain")),
  PySem.W.keepIn K (.ref (He.ga K "look_at_writes")),
  PySem.W.keepIn K (.ref (He.ga K "write_text")),
  PySem.W.keepIn K (.ref (He.ga K "write_cast")),
  PySem.W.keepIn K (.ref (He.ga K "quoted_end")),
  PySem.W.keepIn K (.ref (He.ga K "token_at")),
  PySem.W.keepIn K (.ref (He.ga K "tokens_of"))]
def lk3 (K : PySem.W.Frag) : List Bool := [PySem.W.keepIn K (.ref (He.ga K "read_cast")),
  PySem.W.keepIn K (.ref (He.ga K "_law_mix")),
  PySem.W.keepIn K (.ref (He.ga K "_law_next")),
  PySem.W.keepIn K (.ref (He.ga K "_law_letters")),
  PySem.W.keepIn K (.ref (He.ga K "_law_one")),
  PySem.W.keepIn K (.ref (He.ga K "_law_rowof")),
  PySem.W.keepIn K (.ref (He.ga K "_law_table")),
  PySem.W.keepIn K (.ref (He.ga K "_law_built")),
  PySem.W.keepIn K (.ref (He.ga K "_law_lined")),
  PySem.W.keepIn K (.ref (He.ga K "law")),
  (He.Fa.str "LETTERS" ("abcdefghijklmnopqrstuvwxyz")).ok K,
  (He.Fa.str "FIGURES" ("0123456789")).ok K,
  (He.Fa.str "SIGNS" (Str.ofString ("abcdefghijklmnopqrstuvwxyzABCDEFGHIJKLMNOPQRSTUVWXYZ0123456789 !\"#$&'()*+,-./:;<=>?@" ++ "[\\]^_`{|}~"))).ok K,
  (He.Fa.str "SAY" ("say")).ok K,
  (He.Fa.str "ASK" ("ask")).ok K,
  (He.Fa.str "REPLY" ("reply")).ok K,
  (He.Fa.str "SHOW" ("show")).ok K,
  (He.tupB K "KINDS" [He.Dv.str "say", He.Dv.str "ask", He.Dv.str "reply", He.Dv.str "show"] && He.eqO (PySem.W.nsIn K mainGlobals "KINDS") (some (some (.ref (He.ga K "KINDS"))))),
  (He.tupB K "LEADS" [He.Dv.str "", He.Dv.str "return", He.Dv.str "wipe", He.Dv.str "fresh"] && He.eqO (PySem.W.nsIn K mainGlobals "LEADS") (some (some (.ref (He.ga K "LEADS"))))),
  (He.tupB K "TAILS" [He.Dv.str "", He.Dv.str "erase", He.Dv.str "newline"] && He.eqO (PySem.W.nsIn K mainGlobals "TAILS") (some (some (.ref (He.ga K "TAILS")))))]
def lk4 (K : PySem.W.Frag) : List Bool := [(He.Fa.int "MOST_SIGNS" 40).ok K,
  (He.Fa.int "MOST_NAME" 8).ok K,
  (He.Fa.int "MOST_WORKS" 6).ok K,
  (He.Fa.int "MOST_WRITES" 8).ok K,
  (He.Fa.str "SMALL" ("abcdefghijklmnopqrstuvwxyz")).ok K,
  (He.Fa.str "QUOTE" ("'")).ok K,
  (He.Fa.str "WORD" ("word")).ok K,
  (He.Fa.str "TEXT" ("text")).ok K,
  (He.Fa.str "MARK" ("mark")).ok K,
  (He.Fa.str "WRONG" ("wrong")).ok K,
  (He.Fa.str "END" ("end")).ok K,
  exB K "InvalidWrite",
  txB K (He.ga K "InvalidWrite"),
  (He.Fa.noat "InvalidWrite" "part").ok K,
  exB K "InvalidCast",
  txB K (He.ga K "InvalidCast"),
  (He.Fa.noat "InvalidCast" "name").ok K,
  (He.Fa.noat "InvalidCast" "number").ok K,
  exB K "UnknownWork",
  txB K (He.ga K "UnknownWork")]
def lk5 (K : PySem.W.Frag) : List Bool := [(He.Fa.noat "UnknownWork" "name").ok K,
  exB K "Clash",
  txB K (He.ga K "Clash"),
  (He.Fa.noat "Clash" "name").ok K,
  exB K "InvalidText",
  txB K (He.ga K "InvalidText"),
  (He.Fa.noat "InvalidText" "line").ok K,
  (He.Fa.noat "InvalidText" "column").ok K,
  (He.Fa.mkr "Write").ok K,
  (He.Fa.meth "Write" "__init__").ok K,
  prB K (He.ga K "Write") "kind",
  prB K (He.ga K "Write") "text",
  prB K (He.ga K "Write") "lead",
  prB K (He.ga K "Write") "tail",
  (He.Fa.meth "Write" "__len__").ok K,
  (He.Fa.meth "Write" "__eq__").ok K,
  tclB K (He.ga K "Write"),
  slB K (He.ga K "Write") "mode" 2,
  slB K (He.ga K "Write") "signs" 3,
  slB K (He.ga K "Write") "ahead" 0]
def lk6 (K : PySem.W.Frag) : List Bool := [slB K (He.ga K "Write") "behind" 1,
  decide (PySem.W.kitOne K (.ref (He.ga K "Write")) (.ref (He.ga K "Cast")) = some false),
  (He.Fa.mkr "Cast").ok K,
  (He.Fa.meth "Cast" "__init__").ok K,
  prB K (He.ga K "Cast") "names",
  PySem.W.fnIn K (He.ma K (He.ga K "Cast") "__getitem__"),
  (He.Fa.meth "Cast" "__getitem__").ok K,
  (He.Fa.meth "Cast" "__contains__").ok K,
  (He.Fa.meth "Cast" "__iter__").ok K,
  (He.Fa.meth "Cast" "__len__").ok K,
  (He.Fa.meth "Cast" "__eq__").ok K,
  PySem.W.selfFirst K (He.ga K "Cast"),
  (He.Fa.meth "Cast" "__add__").ok K,
  (He.Fa.meth "Cast" "lines").ok K,
  tclB K (He.ga K "Cast"),
  slB K (He.ga K "Cast") "table" 0,
  decide (PySem.W.kitOne K (.ref (He.ga K "Cast")) (.ref (He.ga K "Write")) = some false),
  (He.Fa.mkr "Reader").ok K,
  (He.Fa.meth "Reader" "__init__").ok K,
  (He.Fa.meth "Reader" "refuse").ok K]
def lk7 (K : PySem.W.Frag) : List Bool := [(He.Fa.meth "Reader" "take").ok K,
  (He.Fa.meth "Reader" "is_next").ok K,
  (He.Fa.meth "Reader" "take_mark").ok K,
  (He.Fa.meth "Reader" "take_name").ok K,
  (He.Fa.meth "Reader" "write").ok K,
  (He.Fa.meth "Reader" "work").ok K,
  (He.Fa.cls "Reader").ok K,
  (He.Fa.noat "Reader" "line").ok K,
  (He.Fa.noat "Reader" "row").ok K,
  (He.Fa.noat "Reader" "at").ok K]
def lkL (K : PySem.W.Frag) : Bool := (lk0 K).all id && ((lk1 K).all id && ((lk2 K).all id && ((lk3 K).all id && ((lk4 K).all id && ((lk5 K).all id && ((lk6 K).all id && ((lk7 K).all id)))))))
end LK
set_option Elab.async false
set_option linter.all false
set_option maxRecDepth 100000
set_option maxHeartbeats 4000000
namespace DL
open PySem PySem.Spec PyProof.Rows L2
def behF (g : Addr → Option Obj) (a : Addr) : List Addr := match g a with
  | some ⟨_, _, .func fd, _⟩ => He.refV fd.code ++ ((He.refV fd.defaults ++ He.refV fd.kwdefaults).flatMap fun b => b :: (match g b with
    | some o => He.refsO o
    | none => []))
  | _ => []
def behM (g : Addr → Option Obj) (a : Addr) : List Addr := match g a with
  | some ⟨_, _, .func _, _⟩ => a :: behF g a
  | some ⟨_, _, .fields vs, _⟩ => a :: ((vs.toList.flatMap He.refV).flatMap fun b => b :: behF g b)
  | some _ => [a]
  | none => []
def behG (g : Addr → Option Obj) (a : Addr) : List Addr := match g a with
  | some ⟨_, _, .func _, _⟩ => behF g a
  | some ⟨_, _, .cls cd, _⟩ => cd.ns :: (match g cd.ns with
    | some o => (He.refsO o).flatMap (behM g)
    | none => [])
  | _ => []
def topG (g : Addr → Option Obj) : List Addr := match g mainGlobals with
  | some o => He.refsO o
  | none => []
def asS (g : Addr → Option Obj) : List Addr := mainGlobals :: (topG g ++ (topG g).flatMap (behG g))
def KS (g : Addr → Option Obj) : PySem.W.Frag := He.frT g (asS g)
def obsS (fn gs : List He.DefD) (tf : List He.Defn) (ex : PySem.W.Frag → Bool) (g : Addr → Option Obj) : AlP := ((He.obsT [] fn [] (KS g), exP gs ex (KS g) && He.tabsB g tf (KS g)), gs.map fun d => fnP (KS g) d.at_)
structure SaysS (fn gs : List He.DefD) (tf : List He.Defn) (ex : PySem.W.Frag → Bool) (w : World) (h : Heap) (K : PySem.W.Frag) : Prop where
  x : He.SaysX [] fn [] tf (exP gs ex) w h K
  g : (gs.map fun d => fnP K d.at_) = gs.map He.DefD.val
theorem SaysS.p {fn gs : List He.DefD} {tf : List He.Defn} {ex : PySem.W.Frag → Bool} {w : World} {h : Heap} {K : PySem.W.Frag} (c : SaysS fn gs tf ex w h K) : SaysP fn gs ex w h K := ⟨⟨c.x.t, c.x.more, (fun _ z => nomatch z), (fun _ z => nomatch z), (fun _ z => nomatch z)⟩, c.g⟩
theorem saysS_of {fn gs : List He.DefD} {tf : List He.Defn} {ex : PySem.W.Frag → Bool} {w : World} {h : Heap} (e : obsS fn gs tf ex h.get? = ((He.valT fn [] w, true), gs.map He.DefD.val)) : SaysS fn gs tf ex w h (KS h.get?) := by
  have e1 : He.obsT [] fn [] (KS h.get?) = He.valT fn [] w := congrArg (fun z : AlP => z.1.1) e
  have e2 : (exP gs ex (KS h.get?) && He.tabsB h.get? tf (KS h.get?)) = true := congrArg (fun z : AlP => z.1.2) e
  have e3 : (gs.map fun d => fnP (KS h.get?) d.at_) = gs.map He.DefD.val := congrArg (fun z : AlP => z.2) e
  obtain ⟨h1, h2⟩ := He.ba e2
  have key : ∀ p ∈ tf, PySem.W.codeHdIn (KS h.get?) (He.cT (KS h.get?) p).1 (He.cT (KS h.get?) p).2 = true ∧ ∃ o, h.get? (He.cT (KS h.get?) p).2 = some o ∧ He.emptyTab o = true := fun p hp => by
    obtain ⟨q1, q2⟩ := He.ba (List.all_eq_true.mp h2 p hp)
    cases q : h.get? (He.cT (KS h.get?) p).2 with
    | none => rw [q] at q2; cases q2
    | some o => rw [q] at q2; exact ⟨q1, o, rfl, q2⟩
  refine ⟨⟨e1, h1, fun p hp => (key p hp).1, fun p hp => ?_, fun p hp => ?_⟩, e3⟩
  · obtain ⟨_, o, q, z⟩ := key p hp
    exact He.frT_none q z
  · obtain ⟨_, o, q, z⟩ := key p hp
    rw [q, He.emptyTab_eq z]
def hookS (fn gs : List He.DefD) (tf : List He.Defn) (ex : PySem.W.Frag → Bool) : PySem.W.Hook where
  α := AlP
  obs := fun s => obsS fn gs tf ex s.heap.get?
  val := fun w => ((He.valT fn [] w, true), gs.map He.DefD.val)
  says := fun w h => ∃ K : PySem.W.Frag, K.In h ∧ SaysS fn gs tf ex w h K
  of := fun _ _ e => ⟨_, He.frT_in, saysS_of e⟩
  keeps := fun _ _ _ ⟨K, hK, c⟩ k => ⟨K, PySem.W.Frag.In.keeps hK k, ⟨⟨c.x.t, c.x.more, c.x.hd, c.x.out, fun p hp => k _ _ (c.x.empty p hp)⟩, c.g⟩⟩
end DL
set_option Elab.async false
set_option linter.all false
set_option maxRecDepth 100000
set_option maxHeartbeats 0
namespace LK
open PySem PySem.Spec PyProof.Rows L2 DL
abbrev Rr : PySem.W.OpenRow := PySem.W.OpenLaw.row PySem.Challenge.rw_linesharing_k40_texts_there_and_back
def fn : List He.DefD := fnL
def gs : List He.DefD := gsL
def ex (K : PySem.W.Frag) : Bool := lkL K
abbrev hk : PySem.W.Hook := hookS fn gs [] ex
def ob (s : PySem.W.SharedT) : AlP := obsS fn gs [] ex (HandSHeadRun.getT s)
def loose0 : List Str := ["_wall", "LineError", "InvalidWrite", "InvalidCast", "UnknownWork", "Clash", "InvalidText", "LETTERS", "FIGURES", "SIGNS", "SAY", "ASK", "REPLY", "SHOW", "KINDS", "LEADS", "TAILS", "MOST_SIGNS", "MOST_NAME", "MOST_WORKS", "MOST_WRITES", "is_text", "is_name", "is_one_of", "Write", "is_plain", "look_at_writes", "Cast", "SMALL", "QUOTE"]
def loose1 : List Str := ["WORD", "TEXT", "MARK", "WRONG", "END", "write_text", "write_cast", "quoted_end", "token_at", "tokens_of", "Reader", "read_cast", "_law_mix", "_law_next", "_law_letters", "_law_one", "_law_rowof", "_law_table", "_law_built", "_law_lined"]
def loose : List Str := loose0 ++ loose1
section
open PySem PySem.W HandSHeadRun
theorem join3 {α β1 β2 γ δ ε : Type} {o : Option α} {a1 : α → β1} {a2 : α → β2} {b : α → γ} {c : α → δ} {e : α → ε} {x1 : β1} {x2 : β2} {y1 : γ} {y2 : δ} {y3 : ε} (h1 : o.map (fun s => (a1 s, a2 s)) = some (x1, x2)) (h2 : o.map b = some y1) (h3 : o.map (fun s => (c s, e s)) = some (y2, y3)) : o.map (fun s => (a1 s, a2 s, ((b s, c s), e s))) = some (x1, x2, ((y1, y2), y3)) := by
  cases o with
  | none => cases h1
  | some s =>
    have e1 := Option.some.inj h1
    have e2 := Option.some.inj h2
    have e3 := Option.some.inj h3
    have f1 := congrArg Prod.fst e1
    have f2 := congrArg Prod.snd e1
    have f3 := congrArg Prod.fst e3
    have f4 := congrArg Prod.snd e3
    exact congrArg some (Prod.ext f1 (Prod.ext f2 (Prod.ext (Prod.ext e2 f3) f4)))
noncomputable def EN (w : World) (os : PySem.OsState) : Option PySem.W.SharedT := HandSHeadRun.endF (HandSHeadRun.stepQ (HandSHeadRun.denQ HandSHeadRun.tabQ) Rr.prog w) 30000 Rr.prog w os
theorem run_a (w : World) (os : PySem.OsState) : (EN w os).map (fun s => (HandSHeadRun.looksF Rr.prog (boot_heap w.params) s.abs, HandSHeadRun.seenQ (PySem.W.view Rr.prog [54]) loose (importedModules Rr.prog.main.body) (fun s => xlAt (PySem.W.view Rr.prog [54]) [] s && recOk Rr.toRowW.records s) s.abs)) = some (true, openGood (PySem.W.view Rr.prog [54]) loose) := by kernel_rfl
theorem run_b (w : World) (os : PySem.OsState) : (EN w os).map (fun s => He.obsT [] fn [] (KS (HandSHeadRun.getT s))) = some (He.valT fn [] w) := by kernel_rfl
theorem run_c (w : World) (os : PySem.OsState) : (EN w os).map (fun s => (exP gs ex (KS (HandSHeadRun.getT s)) && He.tabsB (HandSHeadRun.getT s) ([] : List He.Defn) (KS (HandSHeadRun.getT s)), gs.map fun d => fnP (KS (HandSHeadRun.getT s)) d.at_)) = some (true, gs.map He.DefD.val) := by kernel_rfl
theorem run (w : World) : HandSHeadRun.RunEq Rr (PySem.W.view Rr.prog [54]) hk ob 30000 loose w := fun os => join3 (run_a w os) (run_b w os) (run_c w os)
end
end LK
set_option Elab.async false
set_option linter.all false
set_option maxRecDepth 100000
set_option maxHeartbeats 4000000
namespace DL
open PySem PySem.Spec PyProof.Rows L2

mutual
def Rep (K : PySem.W.Frag) (G : Hp) : D → V → Prop
  | .non, v => v = .non
  | .bl b, v => v = .bl b
  | .int i, v => v = .int i
  | .str x, v => v = .str x
  | .ty n, v => v = .ty n
  | .adr a, v => v = .ref a
  | .tup ds, v => ∃ (a : Addr) (vs : List V), v = .ref a ∧ SqT K G a vs ∧ Reps K G ds vs
  | .lst ds, v => ∃ (a : Addr) (vs : List V), v = .ref a ∧ G a = some (.lst vs) ∧ Reps K G ds vs
  | .lsf ds, v => ∃ (a : Addr) (vs : List V), v = .ref a ∧ SqL K G a vs ∧ Reps K G ds vs
  | .slo C ds, v => ∃ (a dx : Addr) (vs : List V), v = .ref a ∧ SlX.Slt G a C dx (vs.map some) ∧ Reps K G ds vs
  | .exc a _ dd ks ds, v => v = .ref a ∧ ∃ vs : List V, G dd = some (.xd (ks.zip vs)) ∧ Reps K G ds vs
  | .dic ks ds, v => ∃ (a : Addr) (od : Obj) (vs : List V), v = .ref a ∧ G a = some (.frz od (.dK (ks.zip vs))) ∧ ks.length = ds.length ∧ Reps K G ds vs
  | .tub ds, v => ∃ (a : Addr) (od : Obj) (vs : List V), v = .ref a ∧ G a = some (.frz od (.tup vs)) ∧ od.dict = none ∧ Reps K G ds vs
def Reps (K : PySem.W.Frag) (G : Hp) : List D → List V → Prop
  | [], vs => vs = []
  | d :: ds, vs => ∃ (v : V) (r : List V), vs = v :: r ∧ Rep K G d v ∧ Reps K G ds r
end

section
variable {K : PySem.W.Frag} {G G' H H' : Hp}
theorem sqT_mono {a : Addr} {xs : List V} (e : Same G H) (h : SqT K G a xs) : SqT K H a xs := Evl.ex_t e h
theorem sqL_mono {a : Addr} {xs : List V} (e : Same G H) (h : SqL K G a xs) : SqL K H a xs := e.seq h
theorem slt_mono {a C dx : Addr} {vs : List (Option V)} (e : Same G H) (h : SlX.Slt G a C dx vs) : SlX.Slt H a C dx vs := by
  rcases h with ⟨h1, h2⟩ | ⟨h1, h2⟩
  · exact .inl ⟨e _ _ h1, h2⟩
  · exact .inr ⟨e _ _ h1, e _ _ h2⟩
mutual
theorem Rep.mono (e : Same G H) : ∀ {d : D} {v : V}, Rep K G d v → Rep K H d v
  | .non, _, h => h
  | .bl _, _, h => h
  | .int _, _, h => h
  | .str _, _, h => h
  | .ty _, _, h => h
  | .adr _, _, h => h
  | .tup _, _, ⟨a, vs, h1, h2, h3⟩ => ⟨a, vs, h1, sqT_mono e h2, Reps.mono e h3⟩
  | .lst _, _, ⟨a, vs, h1, h2, h3⟩ => ⟨a, vs, h1, e _ _ h2, Reps.mono e h3⟩
  | .lsf _, _, ⟨a, vs, h1, h2, h3⟩ => ⟨a, vs, h1, sqL_mono e h2, Reps.mono e h3⟩
  | .slo _ _, _, ⟨a, dx, vs, h1, h2, h3⟩ => ⟨a, dx, vs, h1, slt_mono e h2, Reps.mono e h3⟩
  | .exc _ _ _ _ _, _, ⟨h1, vs, h2, h3⟩ => ⟨h1, vs, e _ _ h2, Reps.mono e h3⟩
  | .dic _ _, _, ⟨a, od, vs, h1, h2, h4, h3⟩ => ⟨a, od, vs, h1, e _ _ h2, h4, Reps.mono e h3⟩
  | .tub _, _, ⟨a, od, vs, h1, h2, h4, h3⟩ => ⟨a, od, vs, h1, e _ _ h2, h4, Reps.mono e h3⟩
theorem Reps.mono (e : Same G H) : ∀ {ds : List D} {vs : List V}, Reps K G ds vs → Reps K H ds vs
  | [], _, h => h
  | _ :: _, _, ⟨v, r, h1, h2, h3⟩ => ⟨v, r, h1, Rep.mono e h2, Reps.mono e h3⟩
end
theorem Reps.length : ∀ {ds : List D} {vs : List V}, Reps K G ds vs → vs.length = ds.length
  | [], _, h => by
    have h' : _ = [] := h
    subst h'
    rfl
  | _ :: _, _, ⟨v, r, h1, _, h3⟩ => by rw [h1, List.length_cons, List.length_cons, Reps.length h3]
theorem Reps.get : ∀ {ds : List D} {vs : List V} {i : Nat} {d : D}, Reps K G ds vs → ds[i]? = some d → ∃ v, vs[i]? = some v ∧ Rep K G d v
  | [], _, _, _, _, e => by simp at e
  | d :: ds, _, 0, d', ⟨v, r, h1, h2, h3⟩, e => by
    have e2 : d = d' := by simpa using e
    subst e2
    exact ⟨v, by rw [h1]; rfl, h2⟩
  | d :: ds, _, i + 1, d', ⟨v, r, h1, h2, h3⟩, e => by
    obtain ⟨w, e1, e2⟩ := Reps.get (i := i) h3 (by simpa using e)
    exact ⟨w, by rw [h1]; simpa using e1, e2⟩
theorem Reps.nil : Reps K G [] [] := rfl
theorem Reps.cons {d : D} {v : V} {ds : List D} {vs : List V} (h : Rep K G d v) (t : Reps K G ds vs) : Reps K G (d :: ds) (v :: vs) := ⟨v, vs, rfl, h, t⟩
theorem Reps.append : ∀ {ds es : List D} {vs ws : List V}, Reps K G ds vs → Reps K G es ws → Reps K G (ds ++ es) (vs ++ ws)
  | [], _, _, _, h, t => by rw [show _ = [] from h]; exact t
  | d :: ds, es, _, ws, ⟨v, r, h1, h2, h3⟩, t => by rw [h1]; exact ⟨v, r ++ ws, rfl, h2, Reps.append h3 t⟩
theorem Reps.one {d : D} {v : V} (h : Rep K G d v) : Reps K G [d] [v] := .cons h .nil
theorem Reps.set : ∀ {ds : List D} {vs : List V} {i : Nat} {d : D} {v : V}, Reps K G ds vs → Rep K G d v → Reps K G (ds.set i d) (vs.set i v)
  | [], _, _, _, _, h, _ => by rw [show _ = [] from h]; exact rfl
  | _ :: _, _, 0, d, v, ⟨w, r, h1, h2, h3⟩, q => by rw [h1]; exact ⟨v, r, rfl, q, h3⟩
  | _ :: _, _, i + 1, d, v, ⟨w, r, h1, h2, h3⟩, q => by rw [h1]; exact ⟨w, r.set i v, rfl, h2, Reps.set h3 q⟩

def EnvR (K : PySem.W.Frag) (G : Hp) (δ : DEnv) (σ : L2.St) : Prop := σ.length = δ.length ∧ ∀ (i : Nat) (d : D), δ[i]? = some (some d) → ∃ v, σ[i]? = some (some v) ∧ Rep K G d v
theorem EnvR.mono {δ : DEnv} {σ : L2.St} (e : Same G H) (h : EnvR K G δ σ) : EnvR K H δ σ := ⟨h.1, fun i d hd => by
  obtain ⟨v, h1, h2⟩ := h.2 i d hd
  exact ⟨v, h1, h2.mono e⟩⟩
theorem EnvR.set {δ : DEnv} {σ : L2.St} {i : Nat} {d : D} {v : V} (h : EnvR K G δ σ) (r : Rep K G d v) : EnvR K G (δ.set i (some d)) (σ.set i (some v)) := by
  refine ⟨by simp [h.1], fun j e he => ?_⟩
  by_cases hj : i = j
  · subst hj
    have hl : i < δ.length := by
      have := (List.getElem?_eq_some_iff.mp he).1
      simpa using this
    rw [List.getElem?_set_self hl] at he
    have e2 : d = e := by simpa using he
    subst e2
    exact ⟨v, List.getElem?_set_self (by rw [h.1]; exact hl), r⟩
  · rw [List.getElem?_set_ne hj] at he
    obtain ⟨w, h1, h2⟩ := h.2 j e he
    exact ⟨w, by rw [List.getElem?_set_ne hj]; exact h1, h2⟩
theorem EnvR.drop {δ : DEnv} {σ : L2.St} {i : Nat} (h : EnvR K G δ σ) (o : Option V) : EnvR K G (δ.set i none) (σ.set i o) := by
  refine ⟨by simp [h.1], fun j e he => ?_⟩
  by_cases hj : i = j
  · subst hj
    rw [List.getElem?_set] at he
    simp at he
  · rw [List.getElem?_set_ne hj] at he
    obtain ⟨w, h1, h2⟩ := h.2 j e he
    exact ⟨w, by rw [List.getElem?_set_ne hj]; exact h1, h2⟩
def dstart (N : List Str) (ds : List D) : DEnv := ds.map some ++ List.replicate (N.length - ds.length) none
theorem EnvR.start {N : List Str} {ds : List D} {vs : List V} (r : Reps K G ds vs) : EnvR K G (dstart N ds) (L2.start N vs) := by
  have hl := r.length
  refine ⟨by unfold L2.start dstart; simp [hl], fun i d hd => ?_⟩
  unfold dstart at hd
  by_cases hi : i < ds.length
  · rw [List.getElem?_append_left (by simpa using hi), List.getElem?_map] at hd
    have hd2 : ds[i]? = some d := by
      cases e : ds[i]? with
      | none => rw [e] at hd; cases hd
      | some x => rw [e] at hd; simpa using hd
    obtain ⟨v, h1, h2⟩ := r.get hd2
    refine ⟨v, ?_, h2⟩
    unfold L2.start
    rw [List.getElem?_append_left (by rw [List.length_map, hl]; exact hi), List.getElem?_map, h1]
    rfl
  · rw [List.getElem?_append_right (by simpa using hi), List.getElem?_replicate] at hd
    split at hd <;> cases hd
end

structure Hd {K : PySem.W.Frag} (I : Iv K) (G H : Hp) : Prop where
  ph : I.φ G H
  fr : ∀ a, I.F a → G a = none
def iEmp (K : PySem.W.Frag) : Iv K := ⟨fun _ => False, fun _ _ => True, fun _ _ _ _ _ _ _ => trivial, fun _ _ _ _ h => h.elim⟩
def Iv.and {K : PySem.W.Frag} (I J : Iv K) : Iv K where
  F := fun a => I.F a ∨ J.F a
  φ := fun G H => I.φ G H ∧ J.φ G H ∧ ∀ a, ¬ (I.F a ∧ J.F a)
  loc := fun G G' H H' s k h => ⟨I.loc G G' H H' s (fun a ha => k a (.inl ha)) h.1, J.loc G G' H H' s (fun a ha => k a (.inr ha)) h.2.1, h.2.2⟩
  dom := fun G H h a ha => ha.elim (I.dom G H h.1 a) (J.dom G H h.2.1 a)
def iObj (K : PySem.W.Frag) (p : Addr) (R : Hp → HO → Prop) (mono : ∀ G G' o, Same G G' → R G o → R G' o) : Iv K where
  F := fun a => a = p
  φ := fun G H => ∃ o, H p = some o ∧ R G o
  loc := fun G G' H H' s k ⟨o, h1, h2⟩ => ⟨o, by rw [k p rfl]; exact h1, mono G G' o s h2⟩
  dom := fun G H ⟨o, h1, _⟩ a ha => by rw [show a = p from ha, h1]; simp
def iLst (K : PySem.W.Frag) (p : Addr) (ds : List D) : Iv K := iObj K p (fun G o => ∃ vs, o = .lst vs ∧ Reps K G ds vs) fun _ _ _ s ⟨vs, h1, h2⟩ => ⟨vs, h1, h2.mono s⟩
section
variable {K : PySem.W.Frag} {I J : Iv K} {G G' H H' : Hp}
theorem Hd.emp : Hd (iEmp K) G H := ⟨trivial, fun _ h => h.elim⟩
theorem Hd.left (h : Hd (I.and J) G H) : Hd I G H := ⟨h.ph.1, fun a ha => h.fr a (.inl ha)⟩
theorem Hd.right (h : Hd (I.and J) G H) : Hd J G H := ⟨h.ph.2.1, fun a ha => h.fr a (.inr ha)⟩
theorem Hd.apart (h : Hd (I.and J) G H) : ∀ a, ¬ (I.F a ∧ J.F a) := h.ph.2.2
theorem Hd.mk2 (h1 : Hd I G H) (h2 : Hd J G H) (d : ∀ a, ¬ (I.F a ∧ J.F a)) : Hd (I.and J) G H := ⟨⟨h1.ph, h2.ph, d⟩, fun a ha => ha.elim (h1.fr a) (h2.fr a)⟩
theorem Hd.dom (h : Hd I G H) {a : Addr} (ha : I.F a) : H a ≠ none := I.dom G H h.ph a ha
theorem Hd.keep (h : Hd I G H) {q : Addr} {o : HO} (hq : H q = none) (sG : Same G H) : Hd I (upd G q o) (upd H q o) := by
  have hg : G q = none := sG.free hq
  have nq : ∀ a, I.F a → a ≠ q := fun a ha e => h.dom ha (by rw [e]; exact hq)
  exact ⟨I.loc G _ H _ (Evl.Ex.new hg) (fun a ha => upd_ne (nq a ha)) h.ph, fun a ha => by rw [upd_ne (nq a ha)]; exact h.fr a ha⟩
theorem Hd.newp (h : Hd I G H) {q : Addr} {o : HO} (hq : H q = none) : Hd I G (upd H q o) := by
  have nq : ∀ a, I.F a → a ≠ q := fun a ha e => h.dom ha (by rw [e]; exact hq)
  exact ⟨I.loc G G H _ (Same.refl G) (fun a ha => upd_ne (nq a ha)) h.ph, h.fr⟩
theorem Hd.chg (h : Hd I G H) {q : Addr} {o : HO} (hq : ¬ I.F q) : Hd I G (upd H q o) :=
  ⟨I.loc G G H _ (Same.refl G) (fun a ha => upd_ne fun e => hq (by rw [← e]; exact ha)) h.ph, h.fr⟩
theorem same_upd {q : Addr} {o : HO} (s : Same G H) (hq : G q = none) : Same G (upd H q o) := fun a u e => by
  rw [upd_ne (ne_of_none e hq)]
  exact s a u e
theorem same_upd2 {q : Addr} {o : HO} (s : Same G H) : Same (upd G q o) (upd H q o) := fun a u e => by
  by_cases h : a = q
  · rw [h, upd_same] at e
    rw [h, upd_same]
    exact e
  · rw [upd_ne h] at e
    rw [upd_ne h]
    exact s a u e
theorem same_freeze {q : Addr} {o : HO} (s : Same G H) (hq : H q = some o) : Same (upd G q o) H := fun a u e => by
  by_cases h : a = q
  · rw [h, upd_same] at e
    rw [h, hq]
    exact e
  · rw [upd_ne h] at e
    exact s a u e
end

inductive Rc (K : PySem.W.Frag) where
  | here
  | l (c : Rc K) (J : Iv K)
  | r (J : Iv K) (c : Rc K)
def Rc.fill {K : PySem.W.Frag} : Rc K → Iv K → Iv K
  | .here, I => I
  | .l c J, I => (c.fill I).and J
  | .r J c, I => J.and (c.fill I)
structure Sub {K : PySem.W.Frag} (I I' : Iv K) : Prop where
  F : ∀ a, I'.F a ↔ I.F a
  φ : ∀ G H, I.φ G H → I'.φ G H
section
variable {K : PySem.W.Frag} {I I' J : Iv K} {G G' H H' : Hp}
theorem Hd.sub (s : Sub I I') (h : Hd I G H) : Hd I' G H := ⟨s.φ _ _ h.ph, fun a ha => h.fr a ((s.F a).mp ha)⟩
theorem Sub.refl : Sub I I := ⟨fun _ => Iff.rfl, fun _ _ h => h⟩
theorem Sub.andL (s : Sub I I') : Sub (I.and J) (I'.and J) := ⟨fun a => ⟨fun h => h.imp (s.F a).mp id, fun h => h.imp (s.F a).mpr id⟩, fun G H h => ⟨s.φ _ _ h.1, h.2.1, fun a ha => h.2.2 a ⟨(s.F a).mp ha.1, ha.2⟩⟩⟩
theorem Sub.andR (s : Sub I I') : Sub (J.and I) (J.and I') := ⟨fun a => ⟨fun h => h.imp id (s.F a).mp, fun h => h.imp id (s.F a).mpr⟩, fun G H h => ⟨h.1, s.φ _ _ h.2.1, fun a ha => h.2.2 a ⟨ha.1, (s.F a).mp ha.2⟩⟩⟩
theorem Sub.fill (s : Sub I I') : ∀ c : Rc K, Sub (c.fill I) (c.fill I')
  | .here => s
  | .l c J => (Sub.fill s c).andL
  | .r J c => (Sub.fill s c).andR
theorem Hd.inner : ∀ {c : Rc K}, Hd (c.fill I) G H → Hd I G H
  | .here, h => h
  | .l _ _, h => Hd.inner h.left
  | .r _ _, h => Hd.inner h.right
theorem fill_F (e : ∀ a, I'.F a ↔ I.F a) : ∀ (c : Rc K) (a : Addr), (c.fill I').F a ↔ (c.fill I).F a
  | .here, a => e a
  | .l c J, a => ⟨fun h => h.imp (fill_F e c a).mp id, fun h => h.imp (fill_F e c a).mpr id⟩
  | .r J c, a => ⟨fun h => h.imp id (fill_F e c a).mp, fun h => h.imp id (fill_F e c a).mpr⟩
theorem fill_in : ∀ (c : Rc K) (a : Addr), I.F a → (c.fill I).F a
  | .here, _, h => h
  | .l c _, a, h => .inl (fill_in c a h)
  | .r _ c, a, h => .inr (fill_in c a h)
theorem Hd.change (e : ∀ a, I'.F a ↔ I.F a) (k : ∀ a, ¬ I.F a → H' a = H a) (h' : Hd I' G H') : ∀ {c : Rc K}, Hd (c.fill I) G H → Hd (c.fill I') G H'
  | .here, _ => h'
  | .l c J, h => by
    have q := Hd.change e k h' h.left
    refine Hd.mk2 q ⟨J.loc G G H H' (Same.refl G) (fun a ha => k a fun z => h.apart a ⟨fill_in c a z, ha⟩) h.right.ph, h.right.fr⟩ fun a ha => h.apart a ⟨(fill_F e c a).mp ha.1, ha.2⟩
  | .r J c, h => by
    have q := Hd.change e k h' h.right
    refine Hd.mk2 ⟨J.loc G G H H' (Same.refl G) (fun a ha => k a fun z => h.apart a ⟨ha, fill_in c a z⟩) h.left.ph, h.left.fr⟩ q fun a ha => h.apart a ⟨ha.1, (fill_F e c a).mp ha.2⟩
theorem Hd.opens {α : Type} {f : α → Iv K} (e : ∀ x a, (f x).F a ↔ I.F a) (o : ∀ G H, I.φ G H → ∃ x, (f x).φ G H) : ∀ {c : Rc K}, Hd (c.fill I) G H → ∃ x, Hd (c.fill (f x)) G H
  | .here, h => by
    obtain ⟨x, hx⟩ := o _ _ h.ph
    exact ⟨x, hx, fun a ha => h.fr a ((e x a).mp ha)⟩
  | .l c J, h => by
    obtain ⟨x, hx⟩ := Hd.opens e o h.left
    exact ⟨x, Hd.mk2 hx h.right fun a ha => h.apart a ⟨(fill_F (e x) c a).mp ha.1, ha.2⟩⟩
  | .r J c, h => by
    obtain ⟨x, hx⟩ := Hd.opens e o h.right
    exact ⟨x, Hd.mk2 h.left hx fun a ha => h.apart a ⟨ha.1, (fill_F (e x) c a).mp ha.2⟩⟩
end
end DL
set_option Elab.async false
set_option linter.all false
set_option maxRecDepth 100000
set_option maxHeartbeats 4000000
namespace DL
open PySem PySem.Spec PyProof.Rows L2

structure wpE (X : Cx) (e : Expr) (σ : L2.St) (H : Hp) (Q : VK) : Prop where
  run : ∀ (pins : List (Addr × Obj)) (s : Shared), Inv X pins σ H s → wpAny (model X.prog X.w) X.A (eval e X.env) (EP X pins σ Q) X.xe s
structure wpT (X : Cx) (e : Expr) (σ : L2.St) (H : Hp) (Q : Bool → Hp → Prop) : Prop where
  run : ∀ (pins : List (Addr × Obj)) (s : Shared), Inv X pins σ H s → wpAny (model X.prog X.w) X.A (isTrue e X.env (eval e X.env)) (TP X pins σ Q) X.xe s
structure wpW (X : Cx) (e : Expr) (σ : L2.St) (H : Hp) (Q : Bool → Hp → Prop) : Prop where
  run : ∀ (whole : Sem Value) (pins : List (Addr × Obj)) (s : Shared), Inv X pins σ H s → wpAny (model X.prog X.w) X.A (isTrue e X.env whole) (TP X pins σ Q) X.xe s
structure wpA (X : Cx) (es : List Expr) (σ : L2.St) (H : Hp) (Q : List V → Hp → Prop) : Prop where
  run : ∀ (pos : Pos) (pins : List (Addr × Obj)) (s : Shared), Inv X pins σ H s → wpAny (model X.prog X.w) X.A (spliced (backTo pos (starEach es X.env))) (AP X pins σ Q) X.xe s
structure wpS (X : Cx) (st : Stmt) (D : Ends) (σ : L2.St) (H : Hp) : Prop where
  run : ∀ (pins : List (Addr × Obj)) (s : Shared), Inv X pins σ H s → wpAny (model X.prog X.w) X.A (exec st X.env) (SP X pins D) X.xe s
structure wpB (X : Cx) (sts : List Stmt) (D : Ends) (σ : L2.St) (H : Hp) : Prop where
  run : ∀ (pins : List (Addr × Obj)) (s : Shared), Inv X pins σ H s → wpAny (model X.prog X.w) X.A (execs sts X.env) (SP X pins D) X.xe s
section
variable {X : Cx} {e : Expr} {es : List Expr} {st : Stmt} {sts : List Stmt} {te : TE} {tt : TT} {ta : TA} {ts : TS} {σ : L2.St} {H : Hp}
theorem peC : PE X e (wpE X e) := ⟨fun pins s σ H Q I h => h.run pins s I⟩
theorem ptC : PT X e (wpT X e) := ⟨fun pins s σ H Q I h => h.run pins s I⟩
theorem pwC : PW X e (wpW X e) := ⟨fun whole pins s σ H Q I h => h.run whole pins s I⟩
theorem paC : PA X es (wpA X es) := ⟨fun pos pins s σ H Q I h => h.run pos pins s I⟩
theorem psC : PS X st (wpS X st) := ⟨fun pins s σ H D I h => h.run pins s I⟩
theorem pssC : PSs X sts (wpB X sts) := ⟨fun pins s σ H D I h => h.run pins s I⟩
theorem PE.wp (h : PE X e te) {Q : VK} (q : te σ H Q) : wpE X e σ H Q := ⟨fun pins s I => h.run pins s σ H Q I q⟩
theorem PT.wp (h : PT X e tt) {Q : Bool → Hp → Prop} (q : tt σ H Q) : wpT X e σ H Q := ⟨fun pins s I => h.run pins s σ H Q I q⟩
theorem PW.wp (h : PW X e tt) {Q : Bool → Hp → Prop} (q : tt σ H Q) : wpW X e σ H Q := ⟨fun w pins s I => h.run w pins s σ H Q I q⟩
theorem PA.wp (h : PA X es ta) {Q : List V → Hp → Prop} (q : ta σ H Q) : wpA X es σ H Q := ⟨fun pos pins s I => h.run pos pins s σ H Q I q⟩
theorem PS.wp (h : PS X st ts) {D : Ends} (q : ts D σ H) : wpS X st D σ H := ⟨fun pins s I => h.run pins s σ H D I q⟩
theorem PSs.wp (h : PSs X sts ts) {D : Ends} (q : ts D σ H) : wpB X sts D σ H := ⟨fun pins s I => h.run pins s σ H D I q⟩
end

section
variable {K : PySem.W.Frag}
def Kv (K : PySem.W.Frag) (Q : VK) (G : Hp) (P : D → Iv K → Prop) : Prop := ∀ (v : V) (d : D) (G' H' : Hp) (I' : Iv K), Same G G' → Same G' H' → Hd I' G' H' → Rep K G' d v → P d I' → Q v H'
def Kb (K : PySem.W.Frag) (Q : Bool → Hp → Prop) (G : Hp) (P : Bool → Iv K → Prop) : Prop := ∀ (b : Bool) (G' H' : Hp) (I' : Iv K), Same G G' → Same G' H' → Hd I' G' H' → P b I' → Q b H'
def Ka (K : PySem.W.Frag) (Q : List V → Hp → Prop) (G : Hp) (P : List D → Iv K → Prop) : Prop := ∀ (vs : List V) (ds : List D) (G' H' : Hp) (I' : Iv K), Same G G' → Same G' H' → Hd I' G' H' → Reps K G' ds vs → P ds I' → Q vs H'
theorem Kv.mono {Q : VK} {G G1 : Hp} {P : D → Iv K → Prop} (s : Same G G1) (h : Kv K Q G P) : Kv K Q G1 P := fun v d G' H' I' s1 => h v d G' H' I' (s.trans s1)
theorem Kb.mono {Q : Bool → Hp → Prop} {G G1 : Hp} {P : Bool → Iv K → Prop} (s : Same G G1) (h : Kb K Q G P) : Kb K Q G1 P := fun b G' H' I' s1 => h b G' H' I' (s.trans s1)
theorem Ka.mono {Q : List V → Hp → Prop} {G G1 : Hp} {P : List D → Iv K → Prop} (s : Same G G1) (h : Ka K Q G P) : Ka K Q G1 P := fun v d G' H' I' s1 => h v d G' H' I' (s.trans s1)
def Op2 (K : PySem.W.Frag) (r : R2) (x y : D) (I : Iv K) (P : D → Iv K → Prop) : Prop := ∀ (G H : Hp) (v w : V) (Q : VK), Same G H → Hd I G H → Rep K G x v → Rep K G y w → Kv K Q G P → r v w H Q
def Op1 (K : PySem.W.Frag) (r : V → Hp → VK → Prop) (x : D) (I : Iv K) (P : D → Iv K → Prop) : Prop := ∀ (G H : Hp) (v : V) (Q : VK), Same G H → Hd I G H → Rep K G x v → Kv K Q G P → r v H Q
def OpN (K : PySem.W.Frag) (r : List V → Hp → VK → Prop) (xs : List D) (I : Iv K) (P : D → Iv K → Prop) : Prop := ∀ (G H : Hp) (vs : List V) (Q : VK), Same G H → Hd I G H → Reps K G xs vs → Kv K Q G P → r vs H Q
end
def FRep (K : PySem.W.Frag) (G : Hp) : List (Str × D) → List (Str × V) → Prop
  | [], l => l = []
  | p :: ps, l => ∃ v r, l = (p.1, v) :: r ∧ Rep K G p.2 v ∧ FRep K G ps r
def Kx (K : PySem.W.Frag) (W : WX) (σ : L2.St) (G : Hp) (R : Rx K) : Prop := ∀ (C dd : Addr) (fs : List (Str × D)) (l : List (Str × V)) (G' H' : Hp) (I' : Iv K), Same G G' → Same G' H' → Hd I' G' H' → FRep K G' fs l → G' dd = some (.xd l) → R C fs I' → W (.ref C) (some dd) σ H'
theorem Kx.mono {K : PySem.W.Frag} {W : WX} {σ : L2.St} {G G1 : Hp} {R : Rx K} (s : Same G G1) (h : Kx K W σ G R) : Kx K W σ G1 R := fun C dd fs l G' H' I' s1 => h C dd fs l G' H' I' (s.trans s1)
def EvX (X : Cx) (W : WX) (R : Rx X.K) (e : Expr) (δ : DEnv) (I : Iv X.K) (P : D → Iv X.K → Prop) : Prop := ∀ (σ : L2.St) (G H : Hp) (Q : VK), EnvR X.K G δ σ → Same G H → Hd I G H → Kx X.K W σ G R → Kv X.K Q G P → wpE X e σ H Q
def EvT (X : Cx) (W : WX) (R : Rx X.K) (e : Expr) (δ : DEnv) (I : Iv X.K) (P : Bool → Iv X.K → Prop) : Prop := ∀ (σ : L2.St) (G H : Hp) (Q : Bool → Hp → Prop), EnvR X.K G δ σ → Same G H → Hd I G H → Kx X.K W σ G R → Kb X.K Q G P → wpT X e σ H Q
def EvW (X : Cx) (W : WX) (R : Rx X.K) (e : Expr) (δ : DEnv) (I : Iv X.K) (P : Bool → Iv X.K → Prop) : Prop := ∀ (σ : L2.St) (G H : Hp) (Q : Bool → Hp → Prop), EnvR X.K G δ σ → Same G H → Hd I G H → Kx X.K W σ G R → Kb X.K Q G P → wpW X e σ H Q
def EvA (X : Cx) (W : WX) (R : Rx X.K) (es : List Expr) (δ : DEnv) (I : Iv X.K) (P : List D → Iv X.K → Prop) : Prop := ∀ (σ : L2.St) (G H : Hp) (Q : List V → Hp → Prop), EnvR X.K G δ σ → Same G H → Hd I G H → Kx X.K W σ G R → Ka X.K Q G P → wpA X es σ H Q
def PV (X : Cx) (I : Iv X.K) (e : Expr) (δ : DEnv) (d : D) : Prop := ∀ (W : WX) (R : Rx X.K) (P : D → Iv X.K → Prop), P d I → EvX X W R e δ I P
def PVT (X : Cx) (I : Iv X.K) (e : Expr) (δ : DEnv) (b : Bool) : Prop := ∀ (W : WX) (R : Rx X.K) (P : Bool → Iv X.K → Prop), P b I → EvT X W R e δ I P
def PVW (X : Cx) (I : Iv X.K) (e : Expr) (δ : DEnv) (b : Bool) : Prop := ∀ (W : WX) (R : Rx X.K) (P : Bool → Iv X.K → Prop), P b I → EvW X W R e δ I P
def PVA (X : Cx) (I : Iv X.K) (es : List Expr) (δ : DEnv) (ds : List D) : Prop := ∀ (W : WX) (R : Rx X.K) (P : List D → Iv X.K → Prop), P ds I → EvA X W R es δ I P
def P2 (K : PySem.W.Frag) (I : Iv K) (r : R2) (x y z : D) : Prop := ∀ (P : D → Iv K → Prop), P z I → Op2 K r x y I P
def P1 (K : PySem.W.Frag) (I : Iv K) (r : V → Hp → VK → Prop) (x z : D) : Prop := ∀ (P : D → Iv K → Prop), P z I → Op1 K r x I P
def PN (K : PySem.W.Frag) (I : Iv K) (r : List V → Hp → VK → Prop) (xs : List D) (z : D) : Prop := ∀ (P : D → Iv K → Prop), P z I → OpN K r xs I P

section
variable {X : Cx} {a b c e : Expr} {es rest : List Expr} {δ : DEnv} {I : Iv X.K} {W : WX} {R : Rx X.K} {P P' : D → Iv X.K → Prop} {PB PB' : Bool → Iv X.K → Prop} {PA' : List D → Iv X.K → Prop} {pos p : Pos} {d x y z : D} {x' : Str}
theorem EvX.imp (h : EvX X W R e δ I P) (k : ∀ d I', P d I' → P' d I') : EvX X W R e δ I P' := fun σ G H Q hE s hI qx q => h σ G H Q hE s hI qx fun v d G' H' I' s1 s2 h1 r p => q v d G' H' I' s1 s2 h1 r (k d I' p)
theorem EvT.imp (h : EvT X W R e δ I PB) (k : ∀ d I', PB d I' → PB' d I') : EvT X W R e δ I PB' := fun σ G H Q hE s hI qx q => h σ G H Q hE s hI qx fun d G' H' I' s1 s2 h1 p => q d G' H' I' s1 s2 h1 (k d I' p)
theorem PV.is (h : PV X I e δ d) (q : d = z) : PV X I e δ z := q ▸ h
theorem PVT.is {b c : Bool} (h : PVT X I e δ b) (q : b = c) : PVT X I e δ c := q ▸ h
theorem P2.is {K : PySem.W.Frag} {I : Iv K} {r : R2} {x y z z' : D} (h : P2 K I r x y z) (q : z = z') : P2 K I r x y z' := q ▸ h
theorem pv_t {v : V} (h : PE X e (tC v)) (hr : ∀ G, Rep X.K G d v) : PV X I e δ d := fun W R P p σ G H Q _ s hI _ q => PE.wp h (q v d G H I (Same.refl G) s hI (hr G) p)
theorem pv_int {i : Int} {j} : PV X I (.Constant (.int i) j pos) δ (.int i) := pv_t pe_int fun _ => rfl
theorem pv_str {w : Str} {j} : PV X I (.Constant (.str w) j pos) δ (.str w) := pv_t pe_str fun _ => rfl
theorem pv_bl {k : Bool} {j} : PV X I (.Constant (.bool k) j pos) δ (.bl k) := pv_t pe_bl fun _ => rfl
theorem pv_non {j} : PV X I (.Constant .none j pos) δ .non := pv_t pe_non fun _ => rfl
theorem pv_v (i : Nat) (hd : δ[i]? = some (some d) := by rfl) (hN : X.N[i]? = some x' := by rfl) (hv : Vis X.env.scope x' := by first | exact Or.inl rfl | exact Or.inr (Or.inl rfl) | exact Or.inr (Or.inr rfl)) (hdb : (x' == ("__debug__" : Str)) = false := by decide)
    (hcd : (x' == ("__classdict__" : Str)) = false := by decide) : PV X I (.Name x' pos) δ d := fun W R P p σ G H Q hE s hI qx q => by
  obtain ⟨v, h1, h2⟩ := hE.2 i d hd
  exact PE.wp (pe_var hN hv hdb hcd) ⟨v, h1, q v d G H I (Same.refl G) s hI h2 p⟩
theorem pv_g {v : V} {u : Value} (hm : X.mg x' = some u) (r : RelV v u) (hr : ∀ G, Rep X.K G d v) (hg : Gl X x' := by rfl) (hdb : (x' == ("__debug__" : Str)) = false := by decide) : PV X I (.Name x' pos) δ d := pv_t (pe_glob hg hm r hdb) hr
theorem pv_gty {n : String} (hm : X.mg x' = none) (hv : bootBuiltins x' = some (.type n) := by decide +kernel) (hg : Gl X x' := by rfl) (hn : x' ≠ "__name__" := by decide) (hdb : (x' == ("__debug__" : Str)) = false := by decide) : PV X I (.Name x' pos) δ (.ty n) :=
  pv_t (v := .ty n) (pe_bltn hg hm hv rfl hn hdb) fun _ => rfl
theorem ev_op {op : Operator} {r : R2} (ho : OpR X (binaryOp op) r) (h : EvX X W R a δ I fun x I1 => EvX X W R b δ I1 fun y I2 => Op2 X.K r x y I2 P) : EvX X W R (.BinOp a op b pos) δ I P := fun σ G H Q hE s hI qx q =>
  PE.wp (pe_op ho peC peC) (h σ G H _ hE s hI qx fun v x G1 H1 I1 s1 t1 h1 r1 k1 => k1 σ G1 H1 _ (hE.mono s1) t1 h1 (qx.mono s1) fun w y G2 H2 I2 s2 t2 h2 r2 k2 => k2 G2 H2 v w Q t2 h2 (r1.mono s2) r2 (q.mono (s1.trans s2)))
theorem ev_cmp {op : CmpOp} {r : R2} (ho : OpR X (compareOp op) r) (h : EvX X W R a δ I fun x I1 => EvX X W R b δ I1 fun y I2 => Op2 X.K r x y I2 P) (hm : behindInMarks op b = false := by first | exact nomark _ | rfl) : EvX X W R (.Compare a [op] [b] pos) δ I P := fun σ G H Q hE s hI qx q =>
  PE.wp (pe_cmpR ho peC peC hm) (h σ G H _ hE s hI qx fun v x G1 H1 I1 s1 t1 h1 r1 k1 => k1 σ G1 H1 _ (hE.mono s1) t1 h1 (qx.mono s1) fun w y G2 H2 I2 s2 t2 h2 r2 k2 => k2 G2 H2 v w Q t2 h2 (r1.mono s2) r2 (q.mono (s1.trans s2)))
theorem et_cmp {op : CmpOp} {r : R2} (ho : OpR X (compareOp op) r) (h : EvX X W R a δ I fun x I1 => EvX X W R b δ I1 fun y I2 => Op2 X.K r x y I2 fun z I3 => ∃ k, z = .bl k ∧ PB k I3) (hm : behindInMarks op b = false := by first | exact nomark _ | rfl) : EvT X W R (.Compare a [op] [b] pos) δ I PB := fun σ G H Q hE s hI qx q =>
  PT.wp (pt_cmpR ho peC peC hm) (h σ G H _ hE s hI qx fun v x G1 H1 I1 s1 t1 h1 r1 k1 => k1 σ G1 H1 _ (hE.mono s1) t1 h1 (qx.mono s1) fun w y G2 H2 I2 s2 t2 h2 r2 k2 => k2 G2 H2 v w _ t2 h2 (r1.mono s2) r2 fun z d G3 H3 I3 s3 t3 h3 r3 ⟨k, e, p⟩ => ⟨k, by subst e; exact r3, q k G3 H3 I3 ((s1.trans s2).trans s3) t3 h3 p⟩)
theorem pv_op {op : Operator} {r : R2} (ho : OpR X (binaryOp op) r) (ha : PV X I a δ x) (hb : PV X I b δ y) (h : P2 X.K I r x y z) : PV X I (.BinOp a op b pos) δ z := fun W R P p => ev_op ho (ha W R _ (hb W R _ (h P p)))
theorem pv_cmp {op : CmpOp} {r : R2} (ho : OpR X (compareOp op) r) (ha : PV X I a δ x) (hb : PV X I b δ y) (h : P2 X.K I r x y z) (hm : behindInMarks op b = false := by first | exact nomark _ | rfl) : PV X I (.Compare a [op] [b] pos) δ z := fun W R P p => ev_cmp ho (ha W R _ (hb W R _ (h P p))) hm
theorem pt_cmp {op : CmpOp} {r : R2} {k : Bool} (ho : OpR X (compareOp op) r) (ha : PV X I a δ x) (hb : PV X I b δ y) (h : P2 X.K I r x y (.bl k)) (hm : behindInMarks op b = false := by first | exact nomark _ | rfl) : PVT X I (.Compare a [op] [b] pos) δ k := fun W R P p => et_cmp ho (ha W R _ (hb W R _ (h _ ⟨k, rfl, p⟩))) hm
theorem ev_ix {r : R2} (ho : IxR X r) (h : EvX X W R a δ I fun x I1 => EvX X W R b δ I1 fun y I2 => Op2 X.K r x y I2 P) (hs : PlainIx b := by exact fun _ _ => rfl) : EvX X W R (.Subscript a b pos) δ I P := fun σ G H Q hE s hI qx q =>
  PE.wp (pe_ix ho peC peC hs) (h σ G H _ hE s hI qx fun v x G1 H1 I1 s1 t1 h1 r1 k1 => k1 σ G1 H1 _ (hE.mono s1) t1 h1 (qx.mono s1) fun w y G2 H2 I2 s2 t2 h2 r2 k2 => k2 G2 H2 v w Q t2 h2 (r1.mono s2) r2 (q.mono (s1.trans s2)))
theorem pv_ix {r : R2} (ho : IxR X r) (ha : PV X I a δ x) (hb : PV X I b δ y) (h : P2 X.K I r x y z) (hs : PlainIx b := by exact fun _ _ => rfl) : PV X I (.Subscript a b pos) δ z := fun W R P p => ev_ix ho (ha W R _ (hb W R _ (h P p))) hs
theorem ev_un {op : UnaryOp} {r : V → Hp → VK → Prop} (ho : UnR X (unaryOp op) r) (h : EvX X W R a δ I fun x I1 => Op1 X.K r x I1 P) : EvX X W R (.UnaryOp op a pos) δ I P := fun σ G H Q hE s hI qx q =>
  PE.wp (pe_un ho peC) (h σ G H _ hE s hI qx fun v x G1 H1 I1 s1 t1 h1 r1 k1 => k1 G1 H1 v Q t1 h1 r1 (q.mono s1))
theorem pv_un {op : UnaryOp} {r : V → Hp → VK → Prop} (ho : UnR X (unaryOp op) r) (ha : PV X I a δ x) (h : P1 X.K I r x z) : PV X I (.UnaryOp op a pos) δ z := fun W R P p => ev_un ho (ha W R _ (h P p))
theorem et_val (h : EvX X W R e δ I fun z I1 => ∃ k, z = .bl k ∧ PB k I1) (he : ∀ whole, isTrue e X.env whole = (do let v ← whole; standAt e.pos; holding [v] (truthy v)) := by intro _; rfl) : EvT X W R e δ I PB := fun σ G H Q hE s hI qx q =>
  PT.wp (pt_val peC he) (h σ G H _ hE s hI qx fun v d G1 H1 I1 s1 t1 h1 r1 ⟨k, ek, p⟩ => ⟨k, by subst ek; exact r1, q k G1 H1 I1 s1 t1 h1 p⟩)
theorem pt_v {k : Bool} (h : PV X I e δ (.bl k)) (he : ∀ whole, isTrue e X.env whole = (do let v ← whole; standAt e.pos; holding [v] (truthy v)) := by intro _; rfl) : PVT X I e δ k := fun W R P p => et_val (h W R _ ⟨k, rfl, p⟩) he
theorem et_not (h : EvT X W R a δ I fun k I1 => PB (!k) I1) : EvT X W R (.UnaryOp .Not a pos) δ I PB := fun σ G H Q hE s hI qx q =>
  PT.wp (L2.pt_not ptC) (h σ G H _ hE s hI qx fun k G1 H1 I1 s1 t1 h1 p => q (!k) G1 H1 I1 s1 t1 h1 p)
theorem ptn {k : Bool} (h : PVT X I a δ k) : PVT X I (.UnaryOp .Not a pos) δ (!k) := fun W R P p => et_not (h W R _ p)
theorem ew_and (h : EvT X W R a δ I fun k I1 => if k = true then EvW X W R (.BoolOp .And (b :: rest) pos) δ I1 PB else PB false I1) : EvW X W R (.BoolOp .And (a :: b :: rest) pos) δ I PB := fun σ G H Q hE s hI qx q =>
  PW.wp (pw_and ptC pwC) (h σ G H _ hE s hI qx fun k G1 H1 I1 s1 t1 h1 p => by
    cases k with
    | true => exact (show EvW X W R (.BoolOp .And (b :: rest) pos) δ I1 PB from p) σ G1 H1 Q (hE.mono s1) t1 h1 (qx.mono s1) (q.mono s1)
    | false => exact q false G1 H1 I1 s1 t1 h1 p)
theorem ew_or (h : EvT X W R a δ I fun k I1 => if k = true then PB true I1 else EvW X W R (.BoolOp .Or (b :: rest) pos) δ I1 PB) : EvW X W R (.BoolOp .Or (a :: b :: rest) pos) δ I PB := fun σ G H Q hE s hI qx q =>
  PW.wp (pw_or ptC pwC) (h σ G H _ hE s hI qx fun k G1 H1 I1 s1 t1 h1 p => by
    cases k with
    | false => exact (show EvW X W R (.BoolOp .Or (b :: rest) pos) δ I1 PB from p) σ G1 H1 Q (hE.mono s1) t1 h1 (qx.mono s1) (q.mono s1)
    | true => exact q true G1 H1 I1 s1 t1 h1 p)
theorem ew_and1 (h : EvT X W R a δ I PB) : EvW X W R (.BoolOp .And [a] pos) δ I PB := fun σ G H Q hE s hI qx q => PW.wp (pw_and1 ptC) (h σ G H _ hE s hI qx q)
theorem ew_or1 (h : EvT X W R a δ I PB) : EvW X W R (.BoolOp .Or [a] pos) δ I PB := fun σ G H Q hE s hI qx q => PW.wp (pw_or1 ptC) (h σ G H _ hE s hI qx q)
theorem et_w (h : EvW X W R e δ I PB) : EvT X W R e δ I PB := fun σ G H Q hE s hI qx q => ⟨fun pins s1 J => (h σ G H Q hE s hI qx q).run _ pins s1 J⟩
theorem ww_and {k l : Bool} (h1 : PVT X I a δ k) (h2 : k = true → PVW X I (.BoolOp .And (b :: rest) pos) δ l) : PVW X I (.BoolOp .And (a :: b :: rest) pos) δ (k && l) := fun W R P p => ew_and (h1 W R _ (by
  cases k with
  | true => exact h2 rfl W R P p
  | false => exact p))
theorem ww_or {k l : Bool} (h1 : PVT X I a δ k) (h2 : k = false → PVW X I (.BoolOp .Or (b :: rest) pos) δ l) : PVW X I (.BoolOp .Or (a :: b :: rest) pos) δ (k || l) := fun W R P p => ew_or (h1 W R _ (by
  cases k with
  | false => exact h2 rfl W R P p
  | true => exact p))
theorem ww_and1 {k : Bool} (h : PVT X I a δ k) : PVW X I (.BoolOp .And [a] pos) δ k := fun W R P p => ew_and1 (h W R P p)
theorem ww_or1 {k : Bool} (h : PVT X I a δ k) : PVW X I (.BoolOp .Or [a] pos) δ k := fun W R P p => ew_or1 (h W R P p)
theorem ptw {k : Bool} (h : PVW X I e δ k) : PVT X I e δ k := fun W R P p => et_w (h W R P p)
theorem pv_and {k : Bool} (h1 : PV X I a δ (.bl k)) (h2 : k = true → PV X I (.BoolOp .And (b :: rest) pos) δ z) (h3 : k = false → z = .bl false) : PV X I (.BoolOp .And (a :: b :: rest) pos) δ z := fun W R P p σ G H Q hE s hI qx q =>
  PE.wp (pe_and peC peC) (h1 W R (fun z I1 => z = .bl k ∧ I1 = I) ⟨rfl, rfl⟩ σ G H _ hE s hI qx fun v d G1 H1 I1 s1 t1 e1 r1 ⟨ed, ei⟩ => by
    subst ed ei
    refine ⟨k, r1, ?_⟩
    cases k with
    | true => exact h2 rfl W R P p σ G1 H1 Q (hE.mono s1) t1 e1 (qx.mono s1) (q.mono s1)
    | false =>
      have ez := h3 rfl
      subst ez
      exact q (.bl false) (.bl false) G1 H1 _ s1 t1 e1 rfl p)
theorem pv_one {op} (h : PV X I a δ z) : PV X I (.BoolOp op [a] pos) δ z := fun W R P p σ G H Q hE s hI qx q => PE.wp (pe_one peC) (h W R P p σ G H Q hE s hI qx q)
theorem pv_andB {k l : Bool} (h1 : PV X I a δ (.bl k)) (h2 : k = true → PV X I (.BoolOp .And (b :: rest) pos) δ (.bl l)) : PV X I (.BoolOp .And (a :: b :: rest) pos) δ (.bl (k && l)) := by
  cases k with
  | true => exact pv_and h1 h2 (fun z => nomatch z)
  | false => exact pv_and h1 (fun z => nomatch z) (fun _ => rfl)
theorem pv_if {k : Bool} (h : PVT X I c δ k) (h1 : k = true → PV X I a δ z) (h2 : k = false → PV X I b δ z) : PV X I (.IfExp c a b pos) δ z := fun W R P p σ G H Q hE s hI qx q =>
  PE.wp (pe_ifExp ptC peC peC) (h W R (fun l I1 => l = k ∧ I1 = I) ⟨rfl, rfl⟩ σ G H _ hE s hI qx fun l G1 H1 I1 s1 t1 e1 ⟨el, ei⟩ => by
    subst el ei
    cases l with
    | true => exact h1 rfl W R P p σ G1 H1 Q (hE.mono s1) t1 e1 (qx.mono s1) (q.mono s1)
    | false => exact h2 rfl W R P p σ G1 H1 Q (hE.mono s1) t1 e1 (qx.mono s1) (q.mono s1))
theorem ea_nil (p : PA' [] I) : EvA X W R [] δ I PA' := fun σ G H Q hE s hI qx q => PA.wp pa_nil (q [] [] G H I (Same.refl G) s hI rfl p)
theorem ea_cons (h : EvX X W R e δ I fun d I1 => EvA X W R es δ I1 fun ds I2 => PA' (d :: ds) I2) (hs : starEach (e :: es) X.env = (false, eval e X.env) :: starEach es X.env := by rfl) : EvA X W R (e :: es) δ I PA' := fun σ G H Q hE s hI qx q =>
  PA.wp (pa_cons peC paC hs) (h σ G H _ hE s hI qx fun v d G1 H1 I1 s1 t1 h1 r1 k => k σ G1 H1 _ (hE.mono s1) t1 h1 (qx.mono s1) fun vs ds G2 H2 I2 s2 t2 h2 r2 k2 => q (v :: vs) (d :: ds) G2 H2 I2 (s1.trans s2) t2 h2 ⟨v, vs, rfl, r1.mono s2, r2⟩ k2)
theorem va_nil : PVA X I [] δ [] := fun W R P p => ea_nil p
theorem va_cons {ds : List D} (h : PV X I e δ d) (t : PVA X I es δ ds) (hs : starEach (e :: es) X.env = (false, eval e X.env) :: starEach es X.env := by rfl) : PVA X I (e :: es) δ (d :: ds) := fun W R P p => ea_cons (h W R _ (t W R _ p)) hs
theorem ev_tup {x1} (h : EvA X W R es δ I fun ds I1 => ds.length ≤ 1000 ∧ P (.tup ds) I1) : EvX X W R (.Tuple es x1 pos) δ I P := fun σ G H Q hE s hI qx q =>
  PE.wp (pe_tup paC) (h σ G H _ hE s hI qx fun vs ds G1 H1 I1 s1 t1 h1 r1 ⟨hl, k⟩ => ⟨by rw [r1.length, sizeLine_eq]; omega, fun p hp => by
    have hg : G1 p = none := t1.free hp
    exact q (.ref p) (.tup ds) (upd G1 p (.tup vs)) _ I1 (s1.trans (Evl.Ex.new hg)) (same_upd2 t1) (h1.keep hp t1) ⟨p, vs, rfl, SqT.of upd_same, r1.mono (Evl.Ex.new hg)⟩ k⟩)
theorem ev_lst (h : EvA X W R es δ I fun ds I1 => ds.length ≤ 1000 ∧ P (.lst ds) I1) : EvX X W R (.List es pos) δ I P := fun σ G H Q hE s hI qx q =>
  PE.wp (pe_lst paC) (h σ G H _ hE s hI qx fun vs ds G1 H1 I1 s1 t1 h1 r1 ⟨hl, k⟩ => ⟨by rw [r1.length, sizeLine_eq]; omega, fun p hp => by
    have hg : G1 p = none := t1.free hp
    exact q (.ref p) (.lst ds) (upd G1 p (.lst vs)) _ I1 (s1.trans (Evl.Ex.new hg)) (same_upd2 t1) (h1.keep hp t1) ⟨p, vs, rfl, upd_same, r1.mono (Evl.Ex.new hg)⟩ k⟩)
theorem pv_tup {x1} {ds : List D} (h : PVA X I es δ ds) (hl : ds.length ≤ 1000 := by first | decide | simp) : PV X I (.Tuple es x1 pos) δ (.tup ds) := fun W R P p => ev_tup (h W R _ ⟨hl, p⟩)
theorem pv_lst {ds : List D} (h : PVA X I es δ ds) (hl : ds.length ≤ 1000 := by first | decide | simp) : PV X I (.List es pos) δ (.lst ds) := fun W R P p => ev_lst (h W R _ ⟨hl, p⟩)
theorem ev_lstM {ds : List D} (h : PVA X I es δ ds) (hl : ds.length ≤ 1000) (hp : ∀ p, (∀ a, ¬ (I.F a ∧ a = p)) → P (.adr p) (I.and (iLst X.K p ds))) : EvX X W R (.List es pos) δ I P := fun σ G H Q hE s hI qx q =>
  PE.wp (pe_lst paC) (h W R (fun es I1 => es = ds ∧ I1 = I) ⟨rfl, rfl⟩ σ G H _ hE s hI qx fun vs es G1 H1 I1 s1 t1 h1 r1 ⟨ee, ei⟩ => ⟨by rw [r1.length, ee, sizeLine_eq]; omega, fun p hq => by
    subst ee ei
    have hg : G1 p = none := t1.free hq
    have na : ∀ a, ¬ (I1.F a ∧ a = p) := fun a ha => h1.dom ha.1 (by rw [ha.2]; exact hq)
    exact q (.ref p) (.adr p) G1 _ (I1.and (iLst X.K p es)) s1 (same_upd t1 hg) (Hd.mk2 (h1.newp hq) ⟨⟨_, upd_same, vs, rfl, r1⟩, fun a ha => by rw [show a = p from ha]; exact hg⟩ na) rfl (hp p na)⟩)
theorem ev_cb {r : List V → Hp → VK → Prop} {id : String} (hc : CallR X (.builtin id) r) (hm : X.mg x' = none) (h : EvA X W R (e :: es) δ I fun ds I1 => OpN X.K r ds I1 P) (hv : bootBuiltins x' = some (.builtin id) := by decide +kernel) (hg : Gl X x' := by rfl) (hn : x' ≠ "__name__" := by decide) (hdb : (x' == ("__debug__" : Str)) = false := by decide)
    (he : starEach (e :: es) X.env = (false, eval e X.env) :: starEach es X.env := by rfl) (hpl : (backTo pos (starEach es X.env)).any (·.1) = false := by rfl) : EvX X W R (.Call (.Name x' p) (e :: es) [] pos) δ I P := fun σ G H Q hE s hI qx q =>
  PE.wp (pe_callB hc hg hm hv paC hn hdb he hpl) (h σ G H _ hE s hI qx fun vs ds G1 H1 I1 s1 t1 h1 r1 k => k G1 H1 vs Q t1 h1 r1 (q.mono s1))
theorem ev_ct {r : List V → Hp → VK → Prop} {T : String} (hc : CallR X (.type T) r) (hm : X.mg x' = none) (h : EvA X W R (e :: es) δ I fun ds I1 => OpN X.K r ds I1 P) (hv : bootBuiltins x' = some (.type T) := by decide +kernel) (hg : Gl X x' := by rfl) (hn : x' ≠ "__name__" := by decide) (hdb : (x' == ("__debug__" : Str)) = false := by decide)
    (he : starEach (e :: es) X.env = (false, eval e X.env) :: starEach es X.env := by rfl) (hpl : (backTo pos (starEach es X.env)).any (·.1) = false := by rfl) : EvX X W R (.Call (.Name x' p) (e :: es) [] pos) δ I P := fun σ G H Q hE s hI qx q =>
  PE.wp (pe_callTy hc hg hm hv paC hn hdb he hpl) (h σ G H _ hE s hI qx fun vs ds G1 H1 I1 s1 t1 h1 r1 k => k G1 H1 vs Q t1 h1 r1 (q.mono s1))
theorem pv_cb {r : List V → Hp → VK → Prop} {id : String} {ds : List D} (hc : CallR X (.builtin id) r) (hm : X.mg x' = none) (h : PVA X I (e :: es) δ ds) (k : PN X.K I r ds z) (hv : bootBuiltins x' = some (.builtin id) := by decide +kernel) (hg : Gl X x' := by rfl) (hn : x' ≠ "__name__" := by decide) (hdb : (x' == ("__debug__" : Str)) = false := by decide)
    (he : starEach (e :: es) X.env = (false, eval e X.env) :: starEach es X.env := by rfl) (hpl : (backTo pos (starEach es X.env)).any (·.1) = false := by rfl) : PV X I (.Call (.Name x' p) (e :: es) [] pos) δ z := fun W R P p => ev_cb hc hm (h W R _ (k P p)) hv hg hn hdb he hpl
theorem pv_ct {r : List V → Hp → VK → Prop} {T : String} {ds : List D} (hc : CallR X (.type T) r) (hm : X.mg x' = none) (h : PVA X I (e :: es) δ ds) (k : PN X.K I r ds z) (hv : bootBuiltins x' = some (.type T) := by decide +kernel) (hg : Gl X x' := by rfl) (hn : x' ≠ "__name__" := by decide) (hdb : (x' == ("__debug__" : Str)) = false := by decide)
    (he : starEach (e :: es) X.env = (false, eval e X.env) :: starEach es X.env := by rfl) (hpl : (backTo pos (starEach es X.env)).any (·.1) = false := by rfl) : PV X I (.Call (.Name x' p) (e :: es) [] pos) δ z := fun W R P p => ev_ct hc hm (h W R _ (k P p)) hv hg hn hdb he hpl
end
end DL
set_option Elab.async false
set_option linter.all false
set_option maxRecDepth 100000
set_option maxHeartbeats 4000000
namespace DL
open PySem PySem.Spec PyProof.Rows L2

def Ks (K : PySem.W.Frag) (N : L2.St → Hp → Prop) (G : Hp) (n : DEnv → Iv K → Prop) : Prop := ∀ (δ : DEnv) (σ : L2.St) (G' H' : Hp) (I' : Iv K), Same G G' → Same G' H' → Hd I' G' H' → EnvR K G' δ σ → n δ I' → N σ H'
def Ke (K : PySem.W.Frag) (W : WX) (G : Hp) (x : Addr → List (Str × D) → DEnv → Iv K → Prop) : Prop := ∀ (C dd : Addr) (fs : List (Str × D)) (l : List (Str × V)) (δ : DEnv) (σ : L2.St) (G' H' : Hp) (I' : Iv K), Same G G' → Same G' H' → Hd I' G' H' → EnvR K G' δ σ → FRep K G' fs l → G' dd = some (.xd l) → x C fs δ I' → W (.ref C) (some dd) σ H'
structure KoLe (K : PySem.W.Frag) (W : WX) (E : Ends) (G : Hp) (κ : Ko K) : Prop where
  nx : Ks K E.nx G κ.nx
  rt : Kv K E.rt G κ.rt
  bk : Ks K E.bk G κ.bk
  ct : Ks K E.ct G κ.ct
  ex : Ke K W G κ.ex
section
variable {K : PySem.W.Frag} {W : WX} {E : Ends} {G G1 : Hp} {κ : Ko K}
theorem Ks.mono {N : L2.St → Hp → Prop} {n : DEnv → Iv K → Prop} (s : Same G G1) (h : Ks K N G n) : Ks K N G1 n := fun δ σ G' H' I' s1 => h δ σ G' H' I' (s.trans s1)
theorem Ke.mono {x : Addr → List (Str × D) → DEnv → Iv K → Prop} (s : Same G G1) (h : Ke K W G x) : Ke K W G1 x := fun C dd fs l δ σ G' H' I' s1 => h C dd fs l δ σ G' H' I' (s.trans s1)
theorem KoLe.mono (s : Same G G1) (h : KoLe K W E G κ) : KoLe K W E G1 κ := ⟨h.nx.mono s, h.rt.mono s, h.bk.mono s, h.ct.mono s, h.ex.mono s⟩
theorem KoLe.kx {δ : DEnv} {σ : L2.St} (h : KoLe K W E G κ) (hE : EnvR K G δ σ) : Kx K W σ G (fun C fs I' => κ.ex C fs δ I') := fun C dd fs l G' H' I' s1 s2 h1 r hd p => h.ex C dd fs l δ σ G' H' I' s1 s2 h1 (hE.mono s1) r hd p
end
def SX (X : Cx) (W : WX) (sts : List Stmt) (δ : DEnv) (I : Iv X.K) (κ : Ko X.K) : Prop := ∀ (σ : L2.St) (G H : Hp) (E : Ends), EnvR X.K G δ σ → Same G H → Hd I G H → KoLe X.K W E G κ → wpB X sts E σ H
def S1 (X : Cx) (W : WX) (st : Stmt) (δ : DEnv) (I : Iv X.K) (κ : Ko X.K) : Prop := ∀ (σ : L2.St) (G H : Hp) (E : Ends), EnvR X.K G δ σ → Same G H → Hd I G H → KoLe X.K W E G κ → wpS X st E σ H
abbrev Ko.r {K : PySem.W.Frag} (κ : Ko K) (δ : DEnv) : Rx K := fun C fs I' => κ.ex C fs δ I'
structure wpG (X : Cx) (tg : Expr) (v : V) (σ : L2.St) (H : Hp) (Q : L2.St → Hp → Prop) : Prop where
  run : ∀ (pins : List (Addr × Obj)) (s : Shared) (u : Value), Inv X pins σ H s → RelV v u → wpAny (model X.prog X.w) X.A (assign tg X.env u) (fun _ s' => ∃ σ' H', Inv X pins σ' H' s' ∧ Q σ' H') X.xe s
def BindD (X : Cx) (tg : Expr) (d : D) (δ δ' : DEnv) (vs : List Nat) : Prop := ∀ (v : V) (σ : L2.St) (G H : Hp) (Q : L2.St → Hp → Prop), EnvR X.K G δ σ → Same G H → Rep X.K G d v → (∀ σ', EnvR X.K G δ' σ' → wipe σ' vs = wipe σ vs → Q σ' H) → wpG X tg v σ H Q
structure wpI (X : Cx) (tg iter : Expr) (σ : L2.St) (H : Hp) (RR : It → Hp → Prop) : Prop where
  run : ∀ (pins : List (Addr × Obj)) (s : Shared), Inv X pins σ H s → wpAny (model X.prog X.w) X.A (eval iter X.env) (fun v s1 => wpAny (model X.prog X.w) X.A (pyIter v) (PIE X pins σ tg RR) X.xe s1) X.xe s
structure WalkD (K : PySem.W.Frag) (J : It) (ds : List D) (G : Hp) : Prop where
  go : ∀ i G' H', Same G G' → Same G' H' → i < ds.length → J.go i H'
  stop : ∀ G' H', Same G G' → Same G' H' → J.stop ds.length H'
  yld : ∀ i G' H' (I : Iv K) x H'', Same G G' → Same G' H' → Hd I G' H' → i < ds.length → J.yld i H' x H'' → ∃ G'', Same G' G'' ∧ Same G'' H'' ∧ Hd I G'' H'' ∧ (∀ a o, H' a = some o → H'' a = some o) ∧ ∃ d, ds[i]? = some d ∧ Rep K G'' d x
theorem WalkD.mono {K : PySem.W.Frag} {J : It} {ds : List D} {G G1 : Hp} (h : WalkD K J ds G) (s : Same G G1) : WalkD K J ds G1 :=
  ⟨fun i G' H' s1 => h.go i G' H' (s.trans s1), fun G' H' s1 => h.stop G' H' (s.trans s1), fun i G' H' I x H'' s1 => h.yld i G' H' I x H'' (s.trans s1)⟩
def EvI (X : Cx) (W : WX) (R : Rx X.K) (tg iter : Expr) (δ : DEnv) (I : Iv X.K) (P : List D → Iv X.K → Prop) : Prop := ∀ (σ : L2.St) (G H : Hp) (RR : It → Hp → Prop), EnvR X.K G δ σ → Same G H → Hd I G H → Kx X.K W σ G R →
  (∀ (J : It) (ds : List D) (G' H' : Hp) (I' : Iv X.K), Same G G' → Same G' H' → Hd I' G' H' → WalkD X.K J ds G' → P ds I' → RR J H') → wpI X tg iter σ H RR
def PVI (X : Cx) (I : Iv X.K) (tg iter : Expr) (δ : DEnv) (ds : List D) : Prop := ∀ (W : WX) (R : Rx X.K) (P : List D → Iv X.K → Prop), P ds I → EvI X W R tg iter δ I P
section
variable {X : Cx} {tg iter : Expr} {wi : TI} {g : TG}
theorem piC : PI X tg iter (wpI X tg iter) := ⟨fun pins s σ H R I h => h.run pins s I⟩
theorem PI.wp (h : PI X tg iter wi) {σ : L2.St} {H : Hp} {RR : It → Hp → Prop} (q : wi σ H RR) : wpI X tg iter σ H RR := ⟨fun pins s I => h.run pins s σ H RR I q⟩
theorem pgC : PG X tg (wpG X tg) := ⟨fun pins s σ H v u Q I r h => h.run pins s u I r⟩
theorem PG.wp (h : PG X tg g) {v : V} {σ : L2.St} {H : Hp} {Q : L2.St → Hp → Prop} (q : g v σ H Q) : wpG X tg v σ H Q := ⟨fun pins s u I r => h.run pins s σ H v u Q I r q⟩
end
def wipeD (δ : DEnv) : List Nat → DEnv
  | [] => δ
  | v :: vs => (wipeD δ vs).set v none
theorem EnvR.wipe {K : PySem.W.Frag} {G : Hp} {δ : DEnv} {σ : L2.St} (h : EnvR K G δ σ) : ∀ vs, EnvR K G (wipeD δ vs) (L2.wipe σ vs)
  | [] => h
  | _ :: vs => (EnvR.wipe h vs).drop none
theorem wipe_get (σ : L2.St) (j : Nat) : ∀ vs : List Nat, (L2.wipe σ vs)[j]? = if j ∈ vs then (if j < σ.length then some none else none) else σ[j]?
  | [] => by simp [L2.wipe]
  | v :: vs => by
    unfold L2.wipe
    by_cases h : v = j
    · subst h
      rw [List.getElem?_set, wipe_length]
      simp
    · rw [List.getElem?_set_ne h, wipe_get σ j vs]
      have e : (j ∈ v :: vs) ↔ (j ∈ vs) := by
        simp only [List.mem_cons]
        exact ⟨fun z => z.elim (fun z => absurd z.symm h) id, .inr⟩
      by_cases q : j ∈ vs
      · rw [if_pos q, if_pos (e.mpr q)]
      · rw [if_neg q, if_neg (fun z => q (e.mp z))]
theorem wipe_set (σ : L2.St) {i : Nat} {x : Option V} {vs : List Nat} (h : i ∈ vs) : L2.wipe (σ.set i x) vs = L2.wipe σ vs := by
  apply List.ext_getElem?
  intro j
  rw [wipe_get, wipe_get]
  by_cases q : j ∈ vs
  · simp [q]
  · rw [if_neg q, if_neg q, List.getElem?_set_ne]
    intro e
    exact q (e ▸ h)
theorem wipe_wipe (σ : L2.St) (vs : List Nat) : L2.wipe (L2.wipe σ vs) vs = L2.wipe σ vs := by
  apply List.ext_getElem?
  intro j
  rw [wipe_get]
  by_cases q : j ∈ vs
  · rw [if_pos q, wipe_get, if_pos q, wipe_length]
  · rw [if_neg q]

section
variable {X : Cx} {W : WX} {a b c e : Expr} {es : List Expr} {st : Stmt} {sts rest : List Stmt} {δ : DEnv} {I : Iv X.K} {κ : Ko X.K} {pos p : Pos} {d x y z : D} {x' : Str} {i : Nat}
theorem s_nil (h : κ.nx δ I) : SX X W [] δ I κ := fun σ G H E hE s hI k => PSs.wp pss_nil (k.nx δ σ G H I (Same.refl G) s hI hE h)
theorem s_cons (h : S1 X W st δ I { κ with nx := fun δ' I' => SX X W rest δ' I' κ }) : SX X W (st :: rest) δ I κ := fun σ G H E hE s hI k =>
  PSs.wp (pss_cons psC pssC) (h σ G H _ hE s hI ⟨fun δ' σ' G' H' I' s1 t1 h1 r p => p σ' G' H' E r t1 h1 (k.mono s1), k.rt, k.bk, k.ct, k.ex⟩)
theorem s_one (h : S1 X W st δ I κ) : SX X W [st] δ I κ := fun σ G H E hE s hI k => PSs.wp (pss_one psC) (h σ G H E hE s hI k)
theorem S1.imp {κ' : Ko X.K} (h : S1 X W st δ I κ') (n : ∀ δ I, κ'.nx δ I → κ.nx δ I) (r : ∀ d I, κ'.rt d I → κ.rt d I) (b : ∀ δ I, κ'.bk δ I → κ.bk δ I) (c : ∀ δ I, κ'.ct δ I → κ.ct δ I) (x : ∀ C fs δ I, κ'.ex C fs δ I → κ.ex C fs δ I) : S1 X W st δ I κ := fun σ G H E hE s hI k =>
  h σ G H E hE s hI ⟨fun δ' σ' G' H' I' s1 t1 h1 r p => k.nx δ' σ' G' H' I' s1 t1 h1 r (n _ _ p), fun v d G' H' I' s1 t1 h1 r1 p => k.rt v d G' H' I' s1 t1 h1 r1 (r _ _ p), fun δ' σ' G' H' I' s1 t1 h1 r p => k.bk δ' σ' G' H' I' s1 t1 h1 r (b _ _ p), fun δ' σ' G' H' I' s1 t1 h1 r p => k.ct δ' σ' G' H' I' s1 t1 h1 r (c _ _ p),
    fun C dd fs l δ' σ' G' H' I' s1 t1 h1 r q hd p => k.ex C dd fs l δ' σ' G' H' I' s1 t1 h1 r q hd (x _ _ _ _ p)⟩
theorem SX.imp {κ' : Ko X.K} (h : SX X W sts δ I κ') (n : ∀ δ I, κ'.nx δ I → κ.nx δ I) (r : ∀ d I, κ'.rt d I → κ.rt d I) (b : ∀ δ I, κ'.bk δ I → κ.bk δ I) (c : ∀ δ I, κ'.ct δ I → κ.ct δ I) (x : ∀ C fs δ I, κ'.ex C fs δ I → κ.ex C fs δ I) : SX X W sts δ I κ := fun σ G H E hE s hI k =>
  h σ G H E hE s hI ⟨fun δ' σ' G' H' I' s1 t1 h1 r p => k.nx δ' σ' G' H' I' s1 t1 h1 r (n _ _ p), fun v d G' H' I' s1 t1 h1 r1 p => k.rt v d G' H' I' s1 t1 h1 r1 (r _ _ p), fun δ' σ' G' H' I' s1 t1 h1 r p => k.bk δ' σ' G' H' I' s1 t1 h1 r (b _ _ p), fun δ' σ' G' H' I' s1 t1 h1 r p => k.ct δ' σ' G' H' I' s1 t1 h1 r (c _ _ p),
    fun C dd fs l δ' σ' G' H' I' s1 t1 h1 r q hd p => k.ex C dd fs l δ' σ' G' H' I' s1 t1 h1 r q hd (x _ _ _ _ p)⟩
theorem s_set (i : Nat) (h : EvX X W (κ.r δ) e δ I fun d I1 => κ.nx (δ.set i (some d)) I1) {pos' : Pos} (hN : X.N.Nodup := by assumption) (hi : X.N[i]? = some x' := by rfl) (hx : Loc X.env.scope x' := by first | exact Or.inl rfl | exact Or.inr rfl) (hs : swapsWith e (some (.Name x' pos')) pos.line X.env = pure false := by rfl)
    (hf : X.fn x' = true ∨ X.env.scope.names.lookup x' = some .local := by first | exact .inl rfl | exact .inr rfl) : S1 X W (.Assign [.Name x' pos'] e pos) δ I κ := fun σ G H E hE s hI k =>
  PS.wp (ps_set hN hi hx peC hs hf) (h σ G H _ hE s hI (k.kx hE) fun v d G1 H1 I1 s1 t1 h1 r1 p => k.nx _ _ G1 H1 I1 s1 t1 h1 ((hE.mono s1).set r1) p)
theorem s_setP (i : Nat) (h : PV X I e δ d) (q : κ.nx (δ.set i (some d)) I) {pos' : Pos} (hN : X.N.Nodup := by assumption) (hi : X.N[i]? = some x' := by rfl) (hx : Loc X.env.scope x' := by first | exact Or.inl rfl | exact Or.inr rfl) (hs : swapsWith e (some (.Name x' pos')) pos.line X.env = pure false := by rfl)
    (hf : X.fn x' = true ∨ X.env.scope.names.lookup x' = some .local := by first | exact .inl rfl | exact .inr rfl) : S1 X W (.Assign [.Name x' pos'] e pos) δ I κ := s_set i (h W _ _ q) hN hi hx hs hf
theorem s_ret (h : EvX X W (κ.r δ) e δ I κ.rt) : S1 X W (.Return (some e) pos) δ I κ := fun σ G H E hE s hI k => PS.wp (ps_ret peC) (h σ G H _ hE s hI (k.kx hE) k.rt)
theorem s_retP (h : PV X I e δ d) (q : κ.rt d I) : S1 X W (.Return (some e) pos) δ I κ := s_ret (h W _ _ q)
theorem s_if (h : EvT X W (κ.r δ) c δ I fun b I1 => if b = true then SX X W sts δ I1 κ else SX X W rest δ I1 κ) : S1 X W (.If c sts rest pos) δ I κ := fun σ G H E hE s hI k =>
  PS.wp (ps_if ptC pssC pssC) (h σ G H _ hE s hI (k.kx hE) fun b G1 H1 I1 s1 t1 h1 p => by
    cases b with
    | true => exact (show SX X W sts δ I1 κ from p) σ G1 H1 E (hE.mono s1) t1 h1 (k.mono s1)
    | false => exact (show SX X W rest δ I1 κ from p) σ G1 H1 E (hE.mono s1) t1 h1 (k.mono s1))
theorem s_ifP {b : Bool} (h : PVT X I c δ b) (h1 : b = true → SX X W sts δ I κ) (h2 : b = false → SX X W rest δ I κ) : S1 X W (.If c sts rest pos) δ I κ := s_if (h W _ _ (by
  cases b with
  | true => exact h1 rfl
  | false => exact h2 rfl))
theorem s_expr (h : EvX X W (κ.r δ) e δ I fun _ I1 => κ.nx δ I1) (hs : swapsWith e none pos.line X.env = pure false := by rfl) : S1 X W (.Expr e pos) δ I κ := fun σ G H E hE s hI k =>
  PS.wp (ps_expr peC hs) (h σ G H _ hE s hI (k.kx hE) fun v d G1 H1 I1 s1 t1 h1 r1 p => k.nx _ _ G1 H1 I1 s1 t1 h1 (hE.mono s1) p)
theorem bind_name (i : Nat) {vs : List Nat} {pos' : Pos} (hv : i ∈ vs := by decide) (hN : X.N.Nodup := by assumption) (hi : X.N[i]? = some x' := by rfl) (hx : Loc X.env.scope x' := by first | exact Or.inl rfl | exact Or.inr rfl) (hf : X.fn x' = true ∨ X.env.scope.names.lookup x' = some .local := by first | exact .inl rfl | exact .inr rfl) :
    BindD X (.Name x' pos') d δ (δ.set i (some d)) vs := fun v σ G H Q hE s r q => PG.wp (pg_name hN hi hx hf) (q _ (hE.set r) (wipe_set σ hv))
theorem s_for {iter tg : Expr} {body : List Stmt} (po : PassesOwn (model X.prog X.w) X.A X.env X.xe) (h : EvI X W (κ.r δ) tg iter δ I fun ds I1 => ∃ Nv : Nat → DEnv → Iv X.K → Prop, Nv 0 δ I1 ∧
      (∀ i d δ' I', ds[i]? = some d → Nv i δ' I' → ∃ δ'' vs, BindD X tg d δ' δ'' vs ∧ SX X W body δ'' I' { κ with nx := Nv (i + 1), ct := Nv (i + 1), bk := κ.nx }) ∧ ∀ δ' I', Nv ds.length δ' I' → κ.nx δ' I')
    (hc : X.calm = true := by rfl) (hs : ∀ x, foldedSetIterable iter X.env x = pure x := by intro _; rfl) : S1 X W (.For tg iter body [] pos) δ I κ := fun σ G H E hE s hI k =>
  PS.wp (ps_for po hc piC pgC pssC hs) (h σ G H _ hE s hI (k.kx hE) fun J ds G1 H1 I1 s1 t1 h1 wk ⟨Nv, i0, step, fin⟩ => by
    refine ⟨fun i m σ' H' => m = ds.length - i ∧ i ≤ ds.length ∧ ∃ δ' G' I', Same G1 G' ∧ Same G' H' ∧ Hd I' G' H' ∧ EnvR X.K G' δ' σ' ∧ Nv i δ' I', ⟨_, rfl, Nat.zero_le _, δ, G1, I1, Same.refl G1, t1, h1, hE.mono s1, i0⟩, ?_⟩
    rintro i m σ' H' ⟨rfl, hi, δ', G', I', s2, t2, h2, e2, iv⟩
    by_cases hlt : i < ds.length
    · refine .inr ⟨wk.go i G' H' s2 t2 hlt, fun σ3 H3 => ∃ δ3 G3 I3, Same G1 G3 ∧ Same G3 H3 ∧ Hd I3 G3 H3 ∧ EnvR X.K G3 δ3 σ3 ∧ Nv (i + 1) δ3 I3, fun σ3 H3 ⟨δ3, G3, I3, q1, q2, q3, q4, q5⟩ => ⟨ds.length - (i + 1), by omega, rfl, hlt, δ3, G3, I3, q1, q2, q3, q4, q5⟩, fun x H3 hy => ?_⟩
      obtain ⟨G3, s3, t3, h3, _, d, hd, rd⟩ := wk.yld i G' H' I' x H3 s2 t2 h2 hlt hy
      obtain ⟨δ'', vs, bd, bs⟩ := step i d δ' I' hd iv
      refine bd x σ' G3 H3 _ (e2.mono s3) t3 rd fun σ4 e4 _ => ?_
      have s13 : Same G1 G3 := s2.trans s3
      exact bs σ4 G3 H3 _ e4 t3 h3 ⟨fun δ5 σ5 G5 H5 I5 s5 t5 h5 r5 p5 => ⟨δ5, G5, I5, s13.trans s5, t5, h5, r5, p5⟩, k.rt.mono (s1.trans s13), k.nx.mono (s1.trans s13), fun δ5 σ5 G5 H5 I5 s5 t5 h5 r5 p5 => ⟨δ5, G5, I5, s13.trans s5, t5, h5, r5, p5⟩, k.ex.mono (s1.trans s13)⟩
    · have ei : i = ds.length := by omega
      subst ei
      exact .inl ⟨wk.stop G' H' s2 t2, k.nx δ' σ' G' H' I' (s1.trans s2) t2 h2 e2 (fin δ' I' iv)⟩)
theorem s_while {body : List Stmt} (po : PassesOwn (model X.prog X.w) X.A X.env X.xe) (Nv : Nat → DEnv → Iv X.K → Prop) (m : Nat) (i0 : Nv m δ I)
    (step : ∀ m δ' I', Nv m δ' I' → EvT X W (κ.r δ') c δ' I' fun b I1 => if b = true then SX X W body δ' I1 { κ with nx := fun δ'' I'' => ∃ m', m' < m ∧ Nv m' δ'' I'', ct := fun δ'' I'' => ∃ m', m' < m ∧ Nv m' δ'' I'', bk := κ.nx } else κ.nx δ' I1) : S1 X W (.While c body [] pos) δ I κ := fun σ G H E hE s hI k =>
  PS.wp (ps_while po ptC pssC) (by
    refine ⟨fun m σ' H' => ∃ δ' G' I', Same G G' ∧ Same G' H' ∧ Hd I' G' H' ∧ EnvR X.K G' δ' σ' ∧ Nv m δ' I', ⟨m, δ, G, I, Same.refl G, s, hI, hE, i0⟩, ?_⟩
    rintro m σ' H' ⟨δ', G', I', s2, t2, h2, e2, iv⟩
    refine step m δ' I' iv σ' G' H' _ e2 t2 h2 ((k.mono s2).kx e2) fun b G3 H3 I3 s3 t3 h3 p => ?_
    cases b with
    | true =>
      have s13 := s2.trans s3
      refine ⟨fun σ5 H5 => ∃ m', m' < m ∧ ∃ δ5 G5 I5, Same G G5 ∧ Same G5 H5 ∧ Hd I5 G5 H5 ∧ EnvR X.K G5 δ5 σ5 ∧ Nv m' δ5 I5, fun σ5 H5 q => q, ?_⟩
      exact (show SX X W body δ' I3 _ from p) σ' G3 H3 _ (e2.mono s3) t3 h3 ⟨fun δ5 σ5 G5 H5 I5 s5 t5 h5 r5 ⟨m', hm, p5⟩ => ⟨m', hm, δ5, G5, I5, s13.trans s5, t5, h5, r5, p5⟩, k.rt.mono s13, k.nx.mono s13, fun δ5 σ5 G5 H5 I5 s5 t5 h5 r5 ⟨m', hm, p5⟩ => ⟨m', hm, δ5, G5, I5, s13.trans s5, t5, h5, r5, p5⟩, k.ex.mono s13⟩
    | false => exact k.nx δ' σ' G3 H3 I3 (s2.trans s3) t3 h3 (e2.mono s3) p)
end
end DL
set_option Elab.async false
set_option linter.all false
set_option maxRecDepth 100000
set_option maxHeartbeats 4000000
namespace DL
open PySem PySem.Spec PyProof.Rows L2

def spD (K : PySem.W.Frag) (S : Spec K) : Sp := fun vs H Q E => ∃ (I : Iv K) (G : Hp) (ds : List D) (P : D → Iv K → Prop) (R : Rx K), Same G H ∧ Hd I G H ∧ Reps K G ds vs ∧ S I ds P R ∧ Kv K Q G P ∧
  ∀ (C dd : Addr) (fs : List (Str × D)) (l : List (Str × V)) (G' H' : Hp) (I' : Iv K), Same G G' → Same G' H' → Hd I' G' H' → FRep K G' fs l → G' dd = some (.xd l) → R C fs I' → E (.ref C) (some dd) H'
section
variable {P : Program} {w : World} {K : PySem.W.Frag} {mg : Str → Option Value} {base : Heap} {x qual : Str} {params : Arguments} {body : List Stmt} {scope : Scope} {dvs : List V} {kws : List (Str × V)} {f : Addr} {fd : FuncData}
theorem fn_d {N ps : List Str} {k : Nat} {S : Spec K} (F : FunD K x qual params body scope dvs kws f fd) (sc : FnScope N ps scope) (len : ∀ I ds P R, S I ds P R → ds.length = ps.length)
    (h : ∀ (cdv : Value) (A : Around) (outer : List Env) (s : Shared) (H : Hp) (E : XK), Room k (A.deeper (envOfC qual scope s.heap.objs.size f cdv)) →
      Takes (cxOf (L2.CX P w) P w K mg base N qual scope f cdv A outer s H E) (fun cls d _ H => E cls d H) →
      PassesOwn (model P w) (A.deeper (envOfC qual scope s.heap.objs.size f cdv)) (envOfC qual scope s.heap.objs.size f cdv) (cxOf (L2.CX P w) P w K mg base N qual scope f cdv A outer s H E).xe →
      ∀ (I : Iv K) (ds : List D) (Q : D → Iv K → Prop) (R : Rx K), S I ds Q R →
      SX (cxOf (L2.CX P w) P w K mg base N qual scope f cdv A outer s H E) (fun cls d _ H => E cls d H) body (dstart N ds) I { nx := fun _ I' => Q .non I', rt := Q, ex := fun C fs _ I' => R C fs I' }) :
    FnOk P w K mg base (L2.CX P w) (k + 1) f fd ps (spD K S) := by
  refine F.ok sc (fun vs H Q E h => ?_) (fun cdv A outer s H vs Q E hr hq => ?_)
  · obtain ⟨I, G, ds, P', R, _, _, r, hS, _, _⟩ := h
    rw [r.length]
    exact len _ _ _ _ hS
  · obtain ⟨I, G, ds, P', R, sm, hI, r, hS, kv, ke⟩ := hq
    refine ⟨_, pssC, h cdv A outer s H E hr (takes_of rfl rfl rfl rfl) (passes_of rfl) I ds P' R hS _ G H _ (EnvR.start r) sm hI ?_⟩
    exact ⟨fun δ σ G' H' I' s1 s2 h1 _ p => kv .non .non G' H' I' s1 s2 h1 rfl p, kv, fun _ _ _ _ _ _ _ _ _ p => p.elim, fun _ _ _ _ _ _ _ _ _ p => p.elim,
      fun C dd fs l δ σ G' H' I' s1 s2 h1 _ r2 hd p => ke C dd fs l G' H' I' s1 s2 h1 r2 hd p⟩
end
section
variable {X : Cx} {W : WX} {R : Rx X.K} {e : Expr} {es : List Expr} {δ : DEnv} {I : Iv X.K} {P : D → Iv X.K → Prop} {pos p : Pos} {x : Str} {f : Addr} {fd : FuncData} {ps : List Str} {k : Nat} {S : Spec X.K} {dvs : List V} {dds : List D} {us : List Value} {d : D}
theorem ev_callD (tk : Takes X W) (F : FnOk X.prog X.w X.K X.mg X.base (L2.CX X.prog X.w) k f fd ps (spD X.K S)) (hr : Room k X.A) (hm : X.mg x = some (.ref f)) (hk : PySem.W.keepIn X.K (.ref f) = true) (hb : Binds X.K fd ps us) (hd : Vals dvs us) (hdd : ∀ G, Reps X.K G dds dvs)
    (h : EvA X W R (e :: es) δ I fun ds I1 => S I1 (ds ++ dds) P R) (hg : Gl X x := by rfl) (hdb : (x == ("__debug__" : Str)) = false := by decide)
    (he : starEach (e :: es) X.env = (false, eval e X.env) :: starEach es X.env := by rfl) (hpl : (backTo pos (starEach es X.env)).any (·.1) = false := by rfl) : EvX X W R (.Call (.Name x p) (e :: es) [] pos) δ I P := fun σ G H Q hE s hI qx q =>
  PE.wp (pe_callSD F hr hg hm hk hb hd (fun σ => passAt tk σ) paC hdb he hpl) (h σ G H _ hE s hI qx fun vs ds G1 H1 I1 s1 t1 h1 r1 k1 =>
    ⟨I1, G1, ds ++ dds, P, R, t1, h1, r1.append (hdd G1), k1, q.mono s1, fun C dd fs l G' H' I' s2 t2 h2 r2 hx p => qx C dd fs l G' H' I' (s1.trans s2) t2 h2 r2 hx p⟩)
end
theorem takesF {X : Cx} : Takes X (fun _ _ _ _ => False) := takes0
section
variable {X : Cx} {I : Iv X.K} {e : Expr} {es : List Expr} {δ : DEnv} {pos p : Pos} {x : Str} {f : Addr} {fd : FuncData} {ps : List Str} {k : Nat} {S : Spec X.K} {dvs : List V} {ds dds : List D} {us : List Value} {d : D}
theorem EvX.weak {W : WX} {R : Rx X.K} {P : D → Iv X.K → Prop} (h : EvX X (fun _ _ _ _ => False) (fun _ _ _ => False) e δ I P) : EvX X W R e δ I P := fun σ G H Q hE s hI qx q => h σ G H Q hE s hI (fun _ _ _ _ _ _ _ _ _ _ _ _ z => z.elim) q
theorem pv_callD (F : FnOk X.prog X.w X.K X.mg X.base (L2.CX X.prog X.w) k f fd ps (spD X.K S)) (hr : Room k X.A) (hm : X.mg x = some (.ref f)) (hk : PySem.W.keepIn X.K (.ref f) = true) (hb : Binds X.K fd ps us) (hd : Vals dvs us) (hdd : ∀ G, Reps X.K G dds dvs)
    (ha : PVA X I (e :: es) δ ds) (hS : ∀ (P : D → Iv X.K → Prop), P d I → S I (ds ++ dds) P (fun _ _ _ => False)) (hg : Gl X x := by rfl) (hdb : (x == ("__debug__" : Str)) = false := by decide)
    (he : starEach (e :: es) X.env = (false, eval e X.env) :: starEach es X.env := by rfl) (hpl : (backTo pos (starEach es X.env)).any (·.1) = false := by rfl) : PV X I (.Call (.Name x p) (e :: es) [] pos) δ d := fun W R P q =>
  EvX.weak (ev_callD takesF F hr hm hk hb hd hdd (ha _ _ _ (hS P q)) hg hdb he hpl)
end

section
variable {K : PySem.W.Frag} {I : Iv K} {x y z d : D} {i j : Int}
theorem p2_I0 {g : Int → Int → V} {z : D} (h : ∀ G, Rep K G z (g i j)) : P2 K I (rI0 g) (.int i) (.int j) z := fun P p G H v w Q s hI r1 r2 q => ⟨i, j, r1, r2, q _ z G H I (Same.refl G) s hI (h G) p⟩
theorem p2_I {C : Int → Int → Prop} {g : Int → Int → V} {z : D} (h : ∀ G, Rep K G z (g i j)) (c : C i j) : P2 K I (rI C g) (.int i) (.int j) z := fun P p G H v w Q s hI r1 r2 q => ⟨i, j, r1, r2, c, q _ z G H I (Same.refl G) s hI (h G) p⟩
theorem p2_add : P2 K I (rI0 fun i j => .int (i + j)) (.int i) (.int j) (.int (i + j)) := p2_I0 fun _ => rfl
theorem p2_sub : P2 K I (rI0 fun i j => .int (i - j)) (.int i) (.int j) (.int (i - j)) := p2_I0 fun _ => rfl
theorem p2_mul (h : CMul i j) : P2 K I (rI CMul fun i j => .int (i * j)) (.int i) (.int j) (.int (i * j)) := p2_I (fun _ => rfl) h
theorem p2_fdiv (h : CDivN i j) : P2 K I (rI CDivN fun i j => .int (i.fdiv j)) (.int i) (.int j) (.int (i.fdiv j)) := p2_I (fun _ => rfl) h
theorem p2_mod (h : j ≠ 0) : P2 K I (rI (fun _ j => j ≠ 0) fun i j => .int (i.fmod j)) (.int i) (.int j) (.int (i.fmod j)) := p2_I (fun _ => rfl) h
theorem p2_pow (h : CPow i j) : P2 K I (rI CPow fun i j => .int (i ^ j.toNat)) (.int i) (.int j) (.int (i ^ j.toNat)) := p2_I (fun _ => rfl) h
theorem p2_lt : P2 K I (rI0 fun i j => .bl (decide (i < j))) (.int i) (.int j) (.bl (decide (i < j))) := p2_I0 fun _ => rfl
theorem p2_le : P2 K I (rI0 fun i j => .bl (decide (i ≤ j))) (.int i) (.int j) (.bl (decide (i ≤ j))) := p2_I0 fun _ => rfl
theorem p2_gt : P2 K I (rI0 fun i j => .bl (decide (j < i))) (.int i) (.int j) (.bl (decide (j < i))) := p2_I0 fun _ => rfl
theorem p2_ge : P2 K I (rI0 fun i j => .bl (decide (j ≤ i))) (.int i) (.int j) (.bl (decide (j ≤ i))) := p2_I0 fun _ => rfl
def flatD : D → Option V
  | .non => some .non
  | .bl b => some (.bl b)
  | .int i => some (.int i)
  | .str s => some (.str s)
  | .ty n => some (.ty n)
  | _ => none
theorem Rep.flat {G : Hp} {v u : V} : ∀ {d : D}, Rep K G d v → flatD d = some u → v = u
  | .non, r, h => by cases h; exact r
  | .bl _, r, h => by cases h; exact r
  | .int _, r, h => by cases h; exact r
  | .str _, r, h => by cases h; exact r
  | .ty _, r, h => by cases h; exact r
  | .adr _, _, h => by cases h
  | .tup _, _, h => by cases h
  | .lst _, _, h => by cases h
  | .lsf _, _, h => by cases h
  | .tub _, _, h => by cases h
  | .slo _ _, _, h => by cases h
  | .exc _ _ _ _ _, _, h => by cases h
  | .dic _ _, _, h => by cases h
theorem p2_eq {v u : V} {b : Bool} (hx : flatD x = some v) (hy : flatD y = some u) (hs : scal v u = true) (hb : decide (v = u) = b) : P2 K I rEq x y (.bl b) := fun P p G H v' w Q s hI r1 r2 q => by
  rw [r1.flat hx, r2.flat hy]
  exact ⟨hs, by rw [hb]; exact q _ (.bl b) G H I (Same.refl G) s hI rfl p⟩
theorem p2_ne {v u : V} {b : Bool} (hx : flatD x = some v) (hy : flatD y = some u) (hs : scal v u = true) (hb : (!decide (v = u)) = b) : P2 K I rNe x y (.bl b) := fun P p G H v' w Q s hI r1 r2 q => by
  rw [r1.flat hx, r2.flat hy]
  exact ⟨hs, by rw [hb]; exact q _ (.bl b) G H I (Same.refl G) s hI rfl p⟩
theorem eqV_str (s t : Str) : P2 K I rEq (.str s) (.str t) (.bl (decide (s = t))) := p2_eq rfl rfl rfl (by simp)
theorem neV_str (s t : Str) : P2 K I rNe (.str s) (.str t) (.bl (!decide (s = t))) := p2_ne rfl rfl rfl (by simp)
theorem atI_rep {G : Hp} {ds : List D} {vs : List V} (r : Reps K G ds vs) (h : atI ds i = some d) : ∃ v, atI vs i = some v ∧ Rep K G d v := by
  unfold atI at h ⊢
  rw [r.length]
  cases e : ixN ds.length i with
  | none => rw [e] at h; cases h
  | some j =>
    rw [e] at h
    exact r.get (show ds[j]? = some d from h)
theorem p2_ixL {ds : List D} (h : atI ds i = some d) : P2 K I (rIxL K) (.lst ds) (.int i) d := fun P p G H v w Q s hI ⟨a, vs, e1, e2, e3⟩ r2 q => by
  obtain ⟨u, h1, h2⟩ := atI_rep e3 h
  exact ⟨a, vs, i, u, e1, r2, SqL.of (s _ _ e2), h1, q u d G H I (Same.refl G) s hI h2 p⟩
theorem p2_ixT {ds : List D} (h : atI ds i = some d) : P2 K I (rIxT K) (.tup ds) (.int i) d := fun P p G H v w Q s hI ⟨a, vs, e1, e2, e3⟩ r2 q => by
  obtain ⟨u, h1, h2⟩ := atI_rep e3 h
  exact ⟨a, vs, i, u, e1, r2, sqT_mono s e2, h1, q u d G H I (Same.refl G) s hI h2 p⟩
theorem p2_ixS {z : Str} {c : Nat} (hl : z.length ≤ sizeLine) (h : atI z.cps.toList i = some c) : P2 K I rIxS (.str z) (.int i) (.str ⟨#[c]⟩) := fun P p G H v w Q s hI r1 r2 q =>
  ⟨z, i, c, r1, r2, hl, h, q _ (.str ⟨#[c]⟩) G H I (Same.refl G) s hI rfl p⟩
def flatDs : List D → Option (List V)
  | [] => some []
  | d :: ds => match flatD d, flatDs ds with
    | some v, some vs => some (v :: vs)
    | _, _ => none
theorem Reps.flat {G : Hp} : ∀ {ds : List D} {vs us : List V}, Reps K G ds vs → flatDs ds = some us → vs = us
  | [], vs, us, r, h => by
    have e : ([] : List V) = us := Option.some.inj h
    rw [← e]
    exact r
  | d :: ds, vs, us, ⟨v, r, e1, e2, e3⟩, h => by
    unfold flatDs at h
    cases h1 : flatD d with
    | none => rw [h1] at h; cases h
    | some u =>
      cases h2 : flatDs ds with
      | none => rw [h1, h2] at h; cases h
      | some us' =>
        rw [h1, h2] at h
        have e := Option.some.inj h
        rw [← e, e1, e2.flat h1, Reps.flat e3 h2]
theorem p2_in {ds : List D} {v : V} {us : List V} {neg b : Bool} (hx : flatD x = some v) (hy : flatDs ds = some us) (h1 : flatV v = true) (h2 : us.all flatV = true) (hb : (if neg then !inV v us else inV v us) = b) (hc : y = .lst ds ∨ y = .tup ds) : P2 K I (rIn K neg) x y (.bl b) := fun P p G H v' w Q s hI r1 r2 q => by
  have e1 := r1.flat hx
  subst e1
  have r3 : ∃ a, w = .ref a ∧ (SqL K G a us ∨ SqT K G a us) := by
    rcases hc with e | e
    · subst e
      obtain ⟨a, vs, e1, e2, e3⟩ := r2
      rw [e3.flat hy] at e2
      exact ⟨a, e1, .inl (SqL.of e2)⟩
    · subst e
      obtain ⟨a, vs, e1, e2, e3⟩ := r2
      rw [e3.flat hy] at e2
      exact ⟨a, e1, .inr e2⟩
  obtain ⟨a, ea, sq⟩ := r3
  exact ⟨a, us, ea, sq.elim (fun z => .inl (sqL_mono s z)) (fun z => .inr (sqT_mono s z)), h1, h2, by rw [hb]; exact q _ (.bl b) G H I (Same.refl G) s hI rfl p⟩
theorem pn_int : PN K I (fun xs H Q => (∃ i, xs = [.int i] ∧ Q (.int i) H) ∨ ∃ k, xs = [.bl k] ∧ Q (.int (if k then 1 else 0)) H) [.int i] (.int i) := fun P p G H vs Q s hI ⟨v, r, e1, e2, e3⟩ q =>
  .inl ⟨i, by rw [e1, show v = .int i from e2, show r = [] from e3], q _ (.int i) G H I (Same.refl G) s hI rfl p⟩
theorem pn_max2 : PN K I (fun xs H Q => ∃ i j, xs = [.int i, .int j] ∧ Q (.int (if j > i then j else i)) H) [.int i, .int j] (.int (if j > i then j else i)) := fun P p G H vs Q s hI ⟨v, r, e1, e2, v2, r2, e3, e4, e5⟩ q =>
  ⟨i, j, by rw [e1, e3, show v = .int i from e2, show v2 = .int j from e4, show r2 = [] from e5], q _ (.int (if j > i then j else i)) G H I (Same.refl G) s hI rfl p⟩
theorem pn_lenL {ds : List D} : PN K I (fun xs H Q => ∃ p ys, xs = [.ref p] ∧ (SqL K H p ys ∨ SqT K H p ys) ∧ Q (.int ys.length) H) [.lst ds] (.int ds.length) := fun P p G H vs Q s hI ⟨v, r, e1, ⟨a, ws, e2, e3, e4⟩, e5⟩ q =>
  ⟨a, ws, by rw [e1, e2, show r = [] from e5], .inl (SqL.of (s _ _ e3)), by rw [e4.length]; exact q _ (.int ds.length) G H I (Same.refl G) s hI rfl p⟩
theorem pn_lenT {ds : List D} : PN K I (fun xs H Q => ∃ p ys, xs = [.ref p] ∧ (SqL K H p ys ∨ SqT K H p ys) ∧ Q (.int ys.length) H) [.tup ds] (.int ds.length) := fun P p G H vs Q s hI ⟨v, r, e1, ⟨a, ws, e2, e3, e4⟩, e5⟩ q =>
  ⟨a, ws, by rw [e1, e2, show r = [] from e5], .inr (sqT_mono s e3), by rw [e4.length]; exact q _ (.int ds.length) G H I (Same.refl G) s hI rfl p⟩
theorem pn_all {bs : List Bool} : PN K I (rAll K) [.lst (bs.map D.bl)] (.bl (bs.all id)) := fun P p G H vs Q s hI ⟨v, r, e1, ⟨a, ws, e2, e3, e4⟩, e5⟩ q => by
  have e6 : ∀ {bs : List Bool} {ws : List V}, Reps K G (bs.map D.bl) ws → ws = bs.map V.bl := by
    intro bs
    induction bs with
    | nil => intro ws h; exact h
    | cons b bs ih =>
      intro ws ⟨v, r, h1, h2, h3⟩
      rw [h1, show v = .bl b from h2, ih h3]
      rfl
  refine ⟨a, bs, by rw [e1, e2, show r = [] from e5], ?_, q _ (.bl (bs.all id)) G H I (Same.refl G) s hI rfl p⟩
  rw [e6 e4] at e3
  exact SqL.of (s _ _ e3)
def tyD : D → Option String
  | .non => some "NoneType"
  | .bl _ => some "bool"
  | .int _ => some "int"
  | .str _ => some "str"
  | .tup _ => some "tuple"
  | .lst _ => some "list"
  | .lsf _ => some "list"
  | .dic _ _ => some "dict"
  | _ => none
theorem tyX_of {G H : Hp} {v : V} {t : String} (s : Same G H) : ∀ {d : D}, Rep K G d v → tyD d = some t → TyX K H v (.type t)
  | .non, r, h => by cases h; rw [show v = .non from r]; exact .base .non
  | .bl _, r, h => by cases h; rw [show v = .bl _ from r]; exact .base (.bl _)
  | .int _, r, h => by cases h; rw [show v = .int _ from r]; exact .base (.int _)
  | .str _, r, h => by cases h; rw [show v = .str _ from r]; exact .base (.str _)
  | .ty _, _, h => by cases h
  | .adr _, _, h => by cases h
  | .slo _ _, _, h => by cases h
  | .tub _, _, h => by cases h
  | .exc _ _ _ _ _, _, h => by cases h
  | .dic _ _, ⟨a, od, vs, e1, e2, _, _⟩, h => by
    cases h
    rw [e1]
    exact .fDict (s _ _ e2)
  | .tup _, ⟨a, vs, e1, e2, _⟩, h => by
    cases h
    rw [e1]
    rcases e2 with (e2 | ⟨o, e2⟩) | ⟨o, its, n, e2, e3, _⟩
    · exact .base (.tup (s _ _ e2))
    · exact .fTuple (s _ _ e2)
    · exact .kTuple e2 e3
  | .lst _, ⟨a, vs, e1, e2, _⟩, h => by
    cases h
    rw [e1]
    exact .base (.lst (s _ _ e2))
  | .lsf _, ⟨a, vs, e1, e2, _⟩, h => by
    cases h
    rw [e1]
    rcases e2 with (e2 | ⟨o, e2⟩) | ⟨o, its, n, e2, e3, _⟩
    · exact .base (.lst (s _ _ e2))
    · exact .base (.frz (s _ _ e2))
    · exact .kList e2 e3
theorem pn_isi {t u : String} {b : Bool} (h : tyD d = some t) (hb : kitB t u = some b := by decide +kernel) : PN K I (rIsi K) [d, .ty u] (.bl b) := fun P p G H vs Q s hI ⟨v, r, e1, e2, v2, r2, e3, e4, e5⟩ q =>
  ⟨v, .ty u, .type t, .type u, b, by rw [e1, e3, show v2 = .ty u from e4, show r2 = [] from e5], .ty u, tyX_of s e2 h, kit_ty hb, q _ (.bl b) G H I (Same.refl G) s hI rfl p⟩
end
end DL
set_option Elab.async false
set_option linter.all false
set_option maxRecDepth 100000
set_option maxHeartbeats 4000000
namespace DL
open PySem PySem.Spec PyProof.Rows L2

def rAddS' : R2 := fun x y H Q => ∃ i j, x = .str i ∧ y = .str j ∧ i.length + j.length ≤ sizeLine ∧ Q (.str (i ++ j)) H
theorem op_addT {X : Cx} : OpR X (binaryOp .Add) rAddS' := op_add_str
def rSignIn : R2 := fun x y H Q => ∃ (c : Nat) (z : Str), x = .str ⟨#[c]⟩ ∧ y = .str z ∧ Q (.bl (decide (c ∈ z.cps.toList))) H
theorem op_signIn {X : Cx} : OpR X (compareOp .In) rSignIn := op_in_sign
section
variable {K : PySem.W.Frag} {I : Iv K} {x y z d : D} {i j : Int}
theorem p2_addT {s t : Str} (h : s.length + t.length ≤ 100000) : P2 K I rAddS' (.str s) (.str t) (.str (s ++ t)) := fun P p G H v w Q sm hI r1 r2 q => ⟨s, t, r1, r2, by rw [sizeLine_eq]; omega, q _ (.str (s ++ t)) G H I (Same.refl G) sm hI rfl p⟩
theorem p2_signIn {c : Nat} {s : Str} : P2 K I rSignIn (.str ⟨#[c]⟩) (.str s) (.bl (decide (c ∈ s.cps.toList))) := fun P p G H v w Q sm hI r1 r2 q => ⟨c, s, r1, r2, q _ (.bl (decide (c ∈ s.cps.toList))) G H I (Same.refl G) sm hI rfl p⟩
theorem pn_lenS {s : Str} (h : s.length ≤ 100000) : PN K I (fun xs H Q => ∃ z, xs = [.str z] ∧ z.length ≤ sizeLine ∧ Q (.int z.length) H) [.str s] (.int s.length) := fun P p G H vs Q sm hI ⟨v, r, e1, e2, e5⟩ q =>
  ⟨s, by rw [e1, show v = .str s from e2, show r = [] from e5], by rw [sizeLine_eq]; omega, q _ (.int s.length) G H I (Same.refl G) sm hI rfl p⟩
end
section
variable {X : Cx} {W : WX} {R : Rx X.K} {a b e o tg iter : Expr} {es : List Expr} {δ : DEnv} {I : Iv X.K} {P : D → Iv X.K → Prop} {pos p apos : Pos} {x : Str} {d z : D}
theorem repsStr {K : PySem.W.Frag} {G : Hp} : ∀ {ss : List Str} {vs : List V}, Reps K G (ss.map D.str) vs → vs = ss.map V.str
  | [], vs, h => h
  | s :: ss, vs, ⟨v, r, e1, e2, e3⟩ => by rw [e1, show v = .str s from e2, repsStr e3]; rfl
theorem ev_join {sep : Str} (ho : PV X I o δ (.str sep)) (h : EvX X W R e δ I fun d I1 => ∃ ss : List Str, d = .lst (ss.map D.str) ∧ (ss.map (·.length)).sum + ss.length * sep.length ≤ 16777216 ∧ P (.str (Txt.join sep ss)) I1)
    (hs : starEach [e] X.env = [(false, eval e X.env)] := by rfl) (hbase : attributeBase o "join" X.env (eval o X.env) = eval o X.env := by rfl) (hline : (apos.endLine == pos.line) = true := by rfl) : EvX X W R (.Call (.Attribute o "join" apos) [e] [] pos) δ I P := fun σ G H Q hE s hI qx q =>
  PE.wp (pe_join peC peC hs hbase hline) (ho W R (fun z I1 => z = .str sep ∧ I1 = I) ⟨rfl, rfl⟩ σ G H _ hE s hI qx fun v d G1 H1 I1 s1 t1 h1 r1 ⟨ed, ei⟩ => by
    subst ed ei
    obtain rfl : v = .str sep := r1
    refine ⟨⟨sep, rfl⟩, h σ G1 H1 _ (hE.mono s1) t1 h1 (qx.mono s1) fun w d2 G2 H2 I2 s2 t2 h2 r2 ⟨ss, e2, hz, p2⟩ => ?_⟩
    subst e2
    obtain ⟨a, vs, e3, e4, e5⟩ := r2
    have e6 := repsStr e5
    subst e6
    exact ⟨sep, a, ss, rfl, by rw [e3], .inl (SqL.of (t2 _ _ e4)), hz, q _ (.str (Txt.join sep ss)) G2 H2 I2 (s1.trans s2) t2 h2 rfl p2⟩)
theorem walk_dL {K : PySem.W.Frag} {a : Addr} {ds : List D} {vs : List V} {G : Hp} (h : SqL K G a vs) (r : Reps K G ds vs) : WalkD K (Itl K a) ds G := by
  have hl := r.length
  refine ⟨fun i G' H' s1 s2 hi => (walk_list (K := K) (a := a) (xs := vs)).goes i H' (by omega) (sqL_mono (s1.trans s2) h), fun G' H' s1 s2 => by rw [← hl]; exact walk_list.stops H' (sqL_mono (s1.trans s2) h), fun i G' H' I x H'' s1 s2 hI hi y => ?_⟩
  obtain ⟨eH, ex⟩ := (walk_list (K := K) (a := a) (xs := vs)).yields i H' x H'' (by omega) (sqL_mono (s1.trans s2) h) y
  subst eH
  obtain ⟨d, hd⟩ : ∃ d, ds[i]? = some d := ⟨ds[i], by simp [hi]⟩
  obtain ⟨v, h1, h2⟩ := r.get hd
  rw [ex] at h1
  cases h1
  exact ⟨G', Same.refl _, s2, hI, fun _ _ z => z, d, hd, h2.mono s1⟩
theorem walk_dT {K : PySem.W.Frag} {a : Addr} {ds : List D} {vs : List V} {G : Hp} (h : SqT K G a vs) (r : Reps K G ds vs) : WalkD K (Itt K a) ds G := by
  have hl := r.length
  refine ⟨fun i G' H' s1 s2 hi => (walk_tup (K := K) (a := a) (xs := vs)).goes i H' (by omega) (sqT_mono (s1.trans s2) h), fun G' H' s1 s2 => by rw [← hl]; exact walk_tup.stops H' (sqT_mono (s1.trans s2) h), fun i G' H' I x H'' s1 s2 hI hi y => ?_⟩
  obtain ⟨eH, ex⟩ := (walk_tup (K := K) (a := a) (xs := vs)).yields i H' x H'' (by omega) (sqT_mono (s1.trans s2) h) y
  subst eH
  obtain ⟨d, hd⟩ : ∃ d, ds[i]? = some d := ⟨ds[i], by simp [hi]⟩
  obtain ⟨v, h1, h2⟩ := r.get hd
  rw [ex] at h1
  cases h1
  exact ⟨G', Same.refl _, s2, hI, fun _ _ z => z, d, hd, h2.mono s1⟩
theorem ei_lst (h : EvX X W R iter δ I fun d I1 => ∃ ds, (d = .lst ds ∨ d = .lsf ds) ∧ PP ds I1) : EvI X W R tg iter δ I PP := fun σ G H RR hE s hI qx q =>
  PI.wp (pi_list peC) (h σ G H _ hE s hI qx fun v d G1 H1 I1 s1 t1 h1 r1 ⟨ds, ed, pp⟩ => by
    have k : ∃ a vs, v = .ref a ∧ SqL X.K G1 a vs ∧ Reps X.K G1 ds vs := by
      rcases ed with e | e
      · subst e
        obtain ⟨a, vs, e1, e2, e3⟩ := r1
        exact ⟨a, vs, e1, SqL.of e2, e3⟩
      · subst e
        exact r1
    obtain ⟨a, vs, e1, e2, e3⟩ := k
    exact ⟨a, e1, ⟨vs, sqL_mono t1 e2⟩, q _ ds G1 H1 I1 s1 t1 h1 (walk_dL e2 e3) pp⟩)
theorem ei_tup (h : EvX X W R iter δ I fun d I1 => ∃ ds, d = .tup ds ∧ PP ds I1) : EvI X W R tg iter δ I PP := fun σ G H RR hE s hI qx q =>
  PI.wp (pi_tup peC) (h σ G H _ hE s hI qx fun v d G1 H1 I1 s1 t1 h1 r1 ⟨ds, ed, pp⟩ => by
    subst ed
    obtain ⟨a, vs, e1, e2, e3⟩ := r1
    exact ⟨a, e1, ⟨vs, sqT_mono t1 e2⟩, q _ ds G1 H1 I1 s1 t1 h1 (walk_dT e2 e3) pp⟩)
theorem ei_str (h : EvX X W R iter δ I fun d I1 => ∃ w : Str, d = .str w ∧ PP (w.cps.toList.map fun c => D.str ⟨#[c]⟩) I1) : EvI X W R tg iter δ I PP := fun σ G H RR hE s hI qx q =>
  PI.wp (pi_str peC) (h σ G H _ hE s hI qx fun v d G1 H1 I1 s1 t1 h1 r1 ⟨w, ed, pp⟩ => by
    subst ed
    refine ⟨w, r1, q _ _ G1 H1 I1 s1 t1 h1 ⟨fun i G' H' _ _ hi => walk_str.goes i H' (by simpa using hi) trivial, fun G' H' _ _ => by rw [List.length_map, Array.length_toList]; exact walk_str.stops H' trivial, fun i G' H' I x H'' s1 s2 hI hi y => ?_⟩ pp⟩
    obtain ⟨eH, c, ec, ex⟩ := (walk_str (z := w)).yields i H' x H'' (by simpa using hi) trivial y
    subst eH ex
    exact ⟨G', Same.refl _, s2, hI, fun _ _ z => z, .str ⟨#[c]⟩, by rw [List.getElem?_map, Array.getElem?_toList, ec]; rfl, rfl⟩)
def intsFrom (lo : Int) (n : Nat) : List D := (List.range n).map fun i => D.int (lo + (i : Nat))
theorem walk_dR {K : PySem.W.Frag} {lo : Int} {n : Nat} {G : Hp} : WalkD K (Itr lo n) (intsFrom lo n) G := by
  have hl : (intsFrom lo n).length = n := by unfold intsFrom; simp
  refine ⟨fun i G' H' _ _ hi => walk_range.goes i H' (by omega) trivial, fun G' H' _ _ => by rw [hl]; exact walk_range.stops H' trivial, fun i G' H' I x H'' s1 s2 hI hi y => ?_⟩
  obtain ⟨eH, ex⟩ := (walk_range (lo := lo) (n := n)).yields i H' x H'' (by omega) trivial y
  subst eH ex
  exact ⟨G', Same.refl _, s2, hI, fun _ _ z => z, .int (lo + (i : Nat)), by unfold intsFrom; rw [List.getElem?_map, List.getElem?_range (by omega)]; rfl, rfl⟩
theorem ei_range1 (hm : X.mg "range" = none) (h : EvX X W R a δ I fun d I1 => ∃ n : Int, d = .int n ∧ n < 1000000 ∧ -1000000 < n ∧ PP (intsFrom 0 n.toNat) I1) (hg : Gl X "range" := by rfl) (hst : starEach [a] X.env = [(false, eval a X.env)] := by rfl) (hpl : (backTo pos (starEach [] X.env)).any (·.1) = false := by rfl) : EvI X W R tg (.Call (.Name "range" p) [a] [] pos) δ I PP := fun σ G H RR hE s hI qx q =>
  PI.wp (pi_range1 hg hm (pa_cons peC pa_nil hst) (hs := hst)) (h σ G H _ hE s hI qx fun v d G1 H1 I1 s1 t1 h1 r1 ⟨n, ed, b1, b2, pp⟩ => by
    subst ed
    exact ⟨n, by rw [show v = .int n from r1], by omega, by omega, q _ _ G1 H1 I1 s1 t1 h1 walk_dR pp⟩)
theorem vi_lst {ds : List D} (h : PV X I iter δ (.lst ds)) : PVI X I tg iter δ ds := fun W R P p => ei_lst (h W R _ ⟨ds, .inl rfl, p⟩)
theorem vi_tup {ds : List D} (h : PV X I iter δ (.tup ds)) : PVI X I tg iter δ ds := fun W R P p => ei_tup (h W R _ ⟨ds, rfl, p⟩)
theorem vi_str {w : Str} (h : PV X I iter δ (.str w)) : PVI X I tg iter δ (w.cps.toList.map fun c => D.str ⟨#[c]⟩) := fun W R P p => ei_str (h W R _ ⟨w, rfl, p⟩)
structure wpTs (X : Cx) (ifs : List Expr) (σ : L2.St) (H : Hp) (Q : Bool → Hp → Prop) : Prop where
  run : ∀ (pins : List (Addr × Obj)) (s : Shared), Inv X pins σ H s → wpAny (model X.prog X.w) X.A (forIn ifs true fun c r => if r = true then do let ok ← isTrue c X.env (eval c X.env); pure (ForInStep.yield ok) else pure (ForInStep.yield r)) (TP X pins σ Q) X.xe s
def EvTs (X : Cx) (W : WX) (R : Rx X.K) (ifs : List Expr) (δ : DEnv) (I : Iv X.K) (P : Bool → Iv X.K → Prop) : Prop := ∀ (σ : L2.St) (G H : Hp) (Q : Bool → Hp → Prop), EnvR X.K G δ σ → Same G H → Hd I G H → Kx X.K W σ G R → Kb X.K Q G P → wpTs X ifs σ H Q
theorem ets_nil {PB : Bool → Iv X.K → Prop} (p : PB true I) : EvTs X W R [] δ I PB := fun σ G H Q hE s hI qx q => ⟨fun pins s1 J => pts_nil.run pins s1 σ H Q J (q true G H I (Same.refl G) s hI p)⟩
theorem ets_one {c : Expr} {PB : Bool → Iv X.K → Prop} (h : EvT X W R c δ I PB) : EvTs X W R [c] δ I PB := fun σ G H Q hE s hI qx q => ⟨fun pins s1 J => (pts_one ptC).run pins s1 σ H Q J (h σ G H Q hE s hI qx q)⟩
abbrev W0 : WX := fun _ _ _ _ => False
abbrev R0 {K : PySem.W.Frag} : Rx K := fun _ _ _ => False
theorem kx0 {K : PySem.W.Frag} {σ : L2.St} {G : Hp} : Kx K W0 σ G R0 := fun _ _ _ _ _ _ _ _ _ _ _ _ z => z.elim
theorem ev_lc {elt : Expr} {ifs : List Expr} {scope : Scope} (own : List (Str × Nat)) (hN : X.N.Nodup) (ok : BlkOk X.N X.env.scope scope own)
    (h : EvI X W R tg iter δ I fun ds I1 => ds.length ≤ 1000000 ∧ ∃ (Nv : Nat → List D → Prop) (δ' : D → DEnv), Nv 0 [] ∧ (∀ i d ys, ds[i]? = some d → Nv i ys → ∃ T : Bool → Prop, (∀ (J : Iv X.K) (s : Shared) (H : Hp) (C : Addr) (cl : List (Str × Addr)) (fp : List Addr),
        BindD (X.blk s H scope (compEnvC scope cl C X.env) fp) tg d (wipeD δ (own.map (·.2))) (δ' d) (own.map (·.2)) ∧
        EvTs (X.blk s H scope (compEnvC scope cl C X.env) fp) W0 R0 ifs (δ' d) (I1.and J) fun b I2 => I2 = I1.and J ∧ T b) ∧
        (T true → ∀ (J : Iv X.K) (s : Shared) (H : Hp) (C : Addr) (cl : List (Str × Addr)) (fp : List Addr), EvX (X.blk s H scope (compEnvC scope cl C X.env) fp) W0 R0 elt (δ' d) (I1.and J) fun y I3 => I3 = I1.and J ∧ Nv (i + 1) (ys ++ [y])) ∧ (T false → Nv (i + 1) ys)) ∧
      ∀ ys, Nv ds.length ys → P (.lst ys) I1)
    (hc : X.calm = true := by rfl) (hs : ∀ x, foldedSetIterable iter X.env x = pure x := by intro _; rfl) : EvX X W R (.ListComp elt [⟨tg, iter, ifs, 0⟩] scope pos) δ I P := fun σ G H Q hE s hI qx q => by
  refine PE.wp (pe_lc (wi := wpI X tg iter) (g := fun v σ H Q => ∀ s0 H0 C cl fp, wpG (X.blk s0 H0 scope (compEnvC scope cl C X.env) fp) tg v σ H Q) (tt := fun σ H Q => ∀ s0 H0 C cl fp, wpTs (X.blk s0 H0 scope (compEnvC scope cl C X.env) fp) ifs σ H Q)
    (te := fun σ H Q => ∀ s0 H0 C cl fp, wpE (X.blk s0 H0 scope (compEnvC scope cl C X.env) fp) elt σ H Q) hc hN piC ok
    (fun s0 H0 C cl fp => ⟨fun pins s σ H v u Q J r k => (k s0 H0 C cl fp).run pins s u J r⟩) (fun s0 H0 C cl fp => ⟨fun pins s σ H Q J k => (k s0 H0 C cl fp).run pins s J⟩) (fun s0 H0 C cl fp => ⟨fun pins s σ H Q J k => (k s0 H0 C cl fp).run pins s J⟩) hs) ?_
  refine h σ G H _ hE s hI qx fun J ds G1 H1 I1 s1 t1 h1 wk ⟨hz, Nv, δ', n0, step, fin⟩ D hD => ?_
  have gD : G1 D = none := t1.free hD
  have apart : ∀ a, ¬ (I1.F a ∧ a = D) := fun a ha => h1.dom ha.1 (by rw [ha.2]; exact hD)
  refine ⟨fun i m H' => m = ds.length - i ∧ i ≤ ds.length ∧ ∃ ys G', Nv i ys ∧ ys.length ≤ i ∧ Same G1 G' ∧ Same G' H' ∧ Hd (I1.and (iLst X.K D ys)) G' H', ⟨_, rfl, Nat.zero_le _, [], G1, n0, Nat.le_refl _, Same.refl _, same_upd t1 gD, ?_⟩, ?_⟩
  · exact Hd.mk2 (h1.newp hD) ⟨⟨_, upd_same, [], rfl, rfl⟩, fun a ha => by rw [show a = D from ha]; exact gD⟩ apart
  · rintro i m H' ⟨rfl, hi, ys, G', nv, hy, s2, t2, hd2⟩
    by_cases hlt : i < ds.length
    · refine .inr ⟨wk.go i G' H' s2 t2 hlt, fun H3 => ∃ ys3 G3, Nv (i + 1) ys3 ∧ ys3.length ≤ i + 1 ∧ Same G1 G3 ∧ Same G3 H3 ∧ Hd (I1.and (iLst X.K D ys3)) G3 H3, fun H3 ⟨ys3, G3, q1, q2, q3, q4, q5⟩ => ⟨ds.length - (i + 1), by omega, rfl, hlt, ys3, G3, q1, q2, q3, q4, q5⟩, fun x H3 hyl => ?_⟩
      obtain ⟨G3, s3, t3, h3, _, d, hd, rd⟩ := wk.yld i G' H' _ x H3 s2 t2 hd2 hlt hyl
      obtain ⟨T, stA, stB, stC⟩ := step i d ys hd nv
      intro s0 H0 C cl fp
      refine (stA (iLst X.K D ys) s0 H0 C cl fp).1 x _ G3 H3 _ (((hE.mono s1).mono (s2.trans s3)).wipe _) t3 rd fun σ4 e4 ew => ⟨by rw [ew, wipe_wipe], ?_⟩
      intro s0 H0 C cl fp
      refine (stA (iLst X.K D ys) s0 H0 C cl fp).2 σ4 G3 H3 _ e4 t3 h3 kx0 fun b G4 H4 I4 s4 t4 h4 ⟨eI, pb⟩ => ?_
      subst eI
      cases b with
      | false => exact ⟨ys, G4, stC pb, by omega, (s2.trans s3).trans s4, t4, h4⟩
      | true =>
        intro s0 H0 C cl fp
        refine stB pb (iLst X.K D ys) s0 H0 C cl fp σ4 G4 H4 _ (e4.mono s4) t4 h4 kx0 fun y dy G5 H5 I5 s5 t5 h5 r5 ⟨eI, nv5⟩ => ?_
        subst eI
        obtain ⟨o, ho, vs, ev, rv⟩ := h5.right.ph
        subst ev
        have g5 : G5 D = none := h5.right.fr D rfl
        refine ⟨vs, ho, ?_, ys ++ [dy], G5, nv5, by simp; omega, ((s2.trans s3).trans s4).trans s5, same_upd t5 g5, ?_⟩
        · rw [rv.length, sizeLine_eq]; omega
        · refine Hd.mk2 (h5.left.chg fun hf => apart D ⟨hf, rfl⟩) ⟨⟨_, upd_same, _, rfl, rv.append (Reps.one r5)⟩, h5.right.fr⟩ apart
    · have ei : i = ds.length := by omega
      subst ei
      obtain ⟨o, ho, vs, ev, rv⟩ := hd2.right.ph
      subst ev
      have g5 : G' D = none := hd2.right.fr D rfl
      refine .inl ⟨wk.stop G' H' s2 t2, q (.ref D) (.lst ys) (upd G' D (.lst vs)) H' I1 ((s1.trans s2).trans (Evl.Ex.new g5)) (same_freeze t2 ho) ?_ ⟨D, vs, rfl, upd_same, rv.mono (Evl.Ex.new g5)⟩ (fin ys nv)⟩
      exact ⟨I1.loc G' _ H' H' (Evl.Ex.new g5) (fun _ _ => rfl) hd2.left.ph, fun a ha => by rw [upd_ne fun e => apart a ⟨ha, e⟩]; exact hd2.left.fr a ha⟩
end
end DL
set_option Elab.async false
set_option linter.all false
set_option maxRecDepth 100000
set_option maxHeartbeats 4000000
namespace DL
open PySem PySem.Spec PyProof.Rows L2

section
variable {K : PySem.W.Frag} {G H : Hp} {p : Addr} {ds : List D} {c : Rc K}
theorem Hd.lst (h : Hd (c.fill (iLst K p ds)) G H) : ∃ vs, H p = some (.lst vs) ∧ Reps K G ds vs ∧ G p = none := by
  have q := h.inner
  obtain ⟨o, ho, vs, ev, r⟩ := q.ph
  subst ev
  exact ⟨vs, ho, r, q.fr p rfl⟩
theorem Hd.lstSet {es : List D} {ws : List V} (h : Hd (c.fill (iLst K p ds)) G H) (r : Reps K G es ws) : Hd (c.fill (iLst K p es)) G (upd H p (.lst ws)) :=
  Hd.change (I := iLst K p ds) (I' := iLst K p es) (fun _ => Iff.rfl) (fun a ha => upd_ne ha) ⟨⟨_, upd_same, ws, rfl, r⟩, h.inner.fr⟩ h
end
section
variable {X : Cx} {W : WX} {R : Rx X.K} {a b e o : Expr} {es : List Expr} {δ : DEnv} {I : Iv X.K} {P : D → Iv X.K → Prop} {pos q' : Pos} {x : Str} {d z : D} {p : Addr} {ds : List D} {i : Int} {κ : Ko X.K}
theorem p2_ixM {K : PySem.W.Frag} {I : Iv K} (c : Rc K) (h : atI ds i = some d) (eI : I = c.fill (iLst K p ds) := by rfl) : P2 K I (rIxL K) (.adr p) (.int i) d := fun P pp G H v w Q s hI r1 r2 q => by
  subst eI
  obtain ⟨vs, ho, r, _⟩ := hI.lst
  obtain ⟨u, h1, h2⟩ := atI_rep r h
  exact ⟨p, vs, i, u, r1, r2, SqL.of ho, h1, q u d G H _ (Same.refl G) s hI h2 pp⟩
theorem pn_lenM {K : PySem.W.Frag} {I : Iv K} (c : Rc K) (eI : I = c.fill (iLst K p ds) := by rfl) : PN K I (fun xs H Q => ∃ p ys, xs = [.ref p] ∧ (SqL K H p ys ∨ SqT K H p ys) ∧ Q (.int ys.length) H) [.adr p] (.int ds.length) := fun P pp G H vs Q s hI ⟨v, r, e1, e2, e3⟩ q => by
  subst eI
  obtain ⟨ws, ho, rw', _⟩ := hI.lst
  exact ⟨p, ws, by rw [e1, show v = .ref p from e2, show r = [] from e3], .inl (SqL.of ho), by rw [rw'.length]; exact q _ (.int ds.length) G H _ (Same.refl G) s hI rfl pp⟩
theorem p2_catMK {K : PySem.W.Frag} {I : Iv K} (c : Rc K) {es : List D} (hz : ds.length + es.length ≤ 100000) (eI : I = c.fill (iLst K p ds) := by rfl) : P2 K I rCat (.adr p) (.lst es) (.lst (ds ++ es)) := fun P pp G H v w Q s hI r1 ⟨b, zs, e1, e2, e3⟩ q => by
  subst eI
  obtain ⟨vs, ho, r, _⟩ := hI.lst
  refine ⟨p, b, vs, zs, r1, e1, ho, s _ _ e2, by rw [r.length, e3.length, sizeLine_eq]; omega, fun n hn => ?_⟩
  have hg : G n = none := s.free hn
  exact q (.ref n) (.lst (ds ++ es)) (upd G n (.lst (vs ++ zs))) _ _ (Evl.Ex.new hg) (same_upd2 s) (hI.keep hn s) ⟨n, vs ++ zs, rfl, upd_same, (r.append e3).mono (Evl.Ex.new hg)⟩ pp
theorem p2_catKK {K : PySem.W.Frag} {I : Iv K} {fs es : List D} (hz : fs.length + es.length ≤ 100000) : P2 K I rCat (.lst fs) (.lst es) (.lst (fs ++ es)) := fun P pp G H v w Q s hI ⟨a, vs, h1, h2, r⟩ ⟨b, zs, e1, e2, e3⟩ q => by
  refine ⟨a, b, vs, zs, h1, e1, s _ _ h2, s _ _ e2, by rw [r.length, e3.length, sizeLine_eq]; omega, fun n hn => ?_⟩
  have hg : G n = none := s.free hn
  exact q (.ref n) (.lst (fs ++ es)) (upd G n (.lst (vs ++ zs))) _ _ (Evl.Ex.new hg) (same_upd2 s) (hI.keep hn s) ⟨n, vs ++ zs, rfl, upd_same, (r.append e3).mono (Evl.Ex.new hg)⟩ pp
theorem on_listM {K : PySem.W.Frag} {I : Iv K} {P : D → Iv K → Prop} {fs : List D} (hd : d = .lst fs ∨ d = .lsf fs ∨ d = .tup fs) (pp : ∀ n, (∀ a, ¬ (I.F a ∧ a = n)) → P (.adr n) (I.and (iLst K n fs))) : OpN K (fun xs H Q => ∃ p ys, xs = [.ref p] ∧ (SqL K H p ys ∨ SqT K H p ys) ∧ ∀ l, H l = none → Q (.ref l) (upd H l (.lst ys))) [d] I P := fun G H vs Q s hI ⟨v, r, e1, e2, e3⟩ q => by
  have k : ∃ a ws, v = .ref a ∧ (SqL K H a ws ∨ SqT K H a ws) ∧ Reps K G fs ws := by
    rcases hd with e | e | e <;> subst e
    · obtain ⟨a, ws, h1, h2, h3⟩ := e2
      exact ⟨a, ws, h1, .inl (SqL.of (s _ _ h2)), h3⟩
    · obtain ⟨a, ws, h1, h2, h3⟩ := e2
      exact ⟨a, ws, h1, .inl (sqL_mono s h2), h3⟩
    · obtain ⟨a, ws, h1, h2, h3⟩ := e2
      exact ⟨a, ws, h1, .inr (sqT_mono s h2), h3⟩
  obtain ⟨a, ws, h1, h2, h3⟩ := k
  refine ⟨a, ws, by rw [e1, h1, show r = [] from e3], h2, fun n hn => ?_⟩
  have hg : G n = none := s.free hn
  have na : ∀ a, ¬ (I.F a ∧ a = n) := fun a ha => hI.dom ha.1 (by rw [ha.2]; exact hn)
  exact q (.ref n) (.adr n) G _ (I.and (iLst K n fs)) (Same.refl G) (same_upd s hg) (Hd.mk2 (hI.newp hn) ⟨⟨_, upd_same, ws, rfl, h3⟩, fun a ha => by rw [show a = n from ha]; exact hg⟩ na) rfl (pp n na)
theorem s_setItem (c : Rc X.K) {j : Nat} (ho : PV X I o δ (.adr p)) (hi : PV X I b δ (.int i)) (he : PV X I e δ d) (hj : ixN ds.length i = some j) (q : κ.nx δ (c.fill (iLst X.K p (ds.set j d)))) {ps : Pos} (eI : I = c.fill (iLst X.K p ds) := by rfl)
    (hs : swapsWithSole [.Subscript o b ps] e pos.line X.env = pure false := by rfl) (hw : swappedStores [.Subscript o b ps] e X.env = pure none := by rfl) (h1 : (assignEach [.Subscript o b ps] X.env).map (·.2) = [assign (.Subscript o b ps) X.env] := by rfl)
    (hasg : ∀ v, assign (.Subscript o b ps) X.env v = (do
      let ov ← holding [v] (eval o X.env)
      let iv ← holding [v, ov] (eval b X.env)
      standAt ps
      holding [v, ov, iv] (setItem ov iv v)
      release [v, ov, iv] []) := by intro _; rfl) :
    S1 X W (.Assign [.Subscript o b ps] e pos) δ I κ := fun σ G H E hE s hI k => by
  subst eI
  exact PS.wp (ps_asg peC (pg_sub peC peC set_list (ha := hasg)) hs hw h1) (he W _ (fun z I1 => z = d ∧ I1 = c.fill (iLst X.K p ds)) ⟨rfl, rfl⟩ σ G H _ hE s hI (k.kx hE) fun v d1 G1 H1 I1 s1 t1 h1 r1 ⟨ed, ei⟩ => by
    subst ed ei
    refine ho W (κ.r δ) (fun z I1 => z = .adr p ∧ I1 = c.fill (iLst X.K p ds)) ⟨rfl, rfl⟩ σ G1 H1 _ (hE.mono s1) t1 h1 ((k.kx hE).mono s1) fun ov d2 G2 H2 I2 s2 t2 h2 r2 ⟨ed, ei⟩ => ?_
    subst ed ei
    refine hi W (κ.r δ) (fun z I1 => z = .int i ∧ I1 = c.fill (iLst X.K p ds)) ⟨rfl, rfl⟩ σ G2 H2 _ (hE.mono (s1.trans s2)) t2 h2 ((k.kx hE).mono (s1.trans s2)) fun iv d3 G3 H3 I3 s3 t3 h3 r3 ⟨ed, ei⟩ => ?_
    subst ed ei
    obtain ⟨vs, hp, rv, gp⟩ := h3.lst
    refine ⟨p, vs, i, j, r2, r3, hp, by rw [rv.length]; exact hj, ?_⟩
    exact k.nx δ σ G3 _ _ ((s1.trans s2).trans s3) (same_upd t3 gp) (h3.lstSet (rv.set ((r1.mono s2).mono s3))) (hE.mono ((s1.trans s2).trans s3)) q)
theorem s_append (c : Rc X.K) {apos ep : Pos} (ho : PV X I o δ (.adr p)) (hI0 : I = c.fill (iLst X.K p ds)) (h : EvX X W (κ.r δ) e δ I fun d I1 => I1 = c.fill (iLst X.K p ds) ∧ ds.length < 1000000 ∧ κ.nx δ (c.fill (iLst X.K p (ds ++ [d]))))
    (hbase : attributeBase o "append" X.env (eval o X.env) = eval o X.env := by rfl)
    (hfew : ((backTo pos (starEach [e] X.env)).all (fun x => !x.1) && (backToKw pos (keywordEach [] X.env)).all (fun x => x.1.isSome) && decide ([e].length + ([] : List Keyword).length + (if ([] : List Keyword).isEmpty then 0 else 1) < 30)) = true := by rfl)
    (hline : (apos.endLine == pos.line) = true := by rfl) (hst : starEach [e] X.env = (false, eval e X.env) :: starEach [] X.env := by rfl) (hpl : (backTo pos (starEach [] X.env)).any (·.1) = false := by rfl)
    (hs : swapsWith (.Call (.Attribute o "append" apos) [e] [] pos) none ep.line X.env = pure false := by rfl) : S1 X W (.Expr (.Call (.Attribute o "append" apos) [e] [] pos) ep) δ I κ := fun σ G H E hE s hI k =>
  PS.wp (ps_expr (pe_bm PySem.F.plainAttrs_list PySem.F.slot_list_append PySem.F.type_list_append mt_append peC (pa_cons peC pa_nil hst) hbase hfew hline hst hpl) hs) (ho W (κ.r δ) (fun z I1 => z = .adr p ∧ I1 = I) ⟨rfl, rfl⟩ σ G H _ hE s hI (k.kx hE) fun v d1 G1 H1 I1 s1 t1 h1 r1 ⟨ed, ei⟩ => by
    subst ed ei hI0
    obtain ⟨vs, hp, rv, gp⟩ := h1.lst
    obtain rfl : v = .ref p := r1
    refine ⟨.inl ⟨rfl, _, .inl (.inl hp)⟩, ?_⟩
    refine h σ G1 H1 _ (hE.mono s1) t1 h1 ((k.kx hE).mono s1) fun w d2 G2 H2 I2 s2 t2 h2 r2 ⟨ei, hz, nx⟩ => ?_
    subst ei
    obtain ⟨vs2, hp2, rv2, gp2⟩ := h2.lst
    refine ⟨p, vs2, w, rfl, rfl, hp2, by rw [rv2.length, sizeLine_eq]; omega, ?_⟩
    exact k.nx δ σ G2 _ _ (s1.trans s2) (same_upd t2 gp2) (h2.lstSet (rv2.append (Reps.one r2))) (hE.mono (s1.trans s2)) nx)
theorem freeze_lst {K : PySem.W.Frag} {I : Iv K} {G H : Hp} (s : Same G H) (h : Hd (I.and (iLst K p ds)) G H) : ∃ G', Same G G' ∧ Same G' H ∧ Hd I G' H ∧ Rep K G' (.lst ds) (.ref p) := by
  obtain ⟨o, ho, vs, ev, rv⟩ := h.right.ph
  subst ev
  have gp : G p = none := h.right.fr p rfl
  refine ⟨upd G p (.lst vs), Evl.Ex.new gp, same_freeze s ho, ⟨I.loc G _ H H (Evl.Ex.new gp) (fun _ _ => rfl) h.left.ph, fun a ha => ?_⟩, ⟨p, vs, rfl, upd_same, rv.mono (Evl.Ex.new gp)⟩⟩
  rw [upd_ne fun e => h.apart a ⟨ha, e⟩]
  exact h.left.fr a ha
end
def iDrC (K : PySem.W.Frag) (a b : Addr) (s k m : Int) (ns : List Int) : Iv K := (iLst K a [.int s, .adr b, .int k, .int m]).and (iLst K b (ns.map D.int))
def iDr (K : PySem.W.Frag) (a b : Addr) : Iv K where
  F := fun x => x = a ∨ x = b
  φ := fun G H => ∃ q : Int × Int × Int × List Int, (iDrC K a b q.1 q.2.1 q.2.2.1 q.2.2.2).φ G H ∧ q.2.2.2.length ≤ 63
  loc := fun G G' H H' s k ⟨q, h, hl⟩ => ⟨q, (iDrC K a b q.1 q.2.1 q.2.2.1 q.2.2.2).loc G G' H H' s k h, hl⟩
  dom := fun G H ⟨q, h, _⟩ x hx => (iDrC K a b q.1 q.2.1 q.2.2.1 q.2.2.2).dom G H h x hx
theorem iDr_of {K : PySem.W.Frag} {a b : Addr} {s k m : Int} {ns : List Int} (hl : ns.length ≤ 63) : Sub (iDrC K a b s k m ns) (iDr K a b) := ⟨fun _ => Iff.rfl, fun _ _ h => ⟨(s, k, m, ns), h, hl⟩⟩
theorem iDr_open {X : Cx} {W : WX} {a b : Addr} {sts : List Stmt} {δ : DEnv} {κ : Ko X.K} {c : Rc X.K} (h : ∀ s k m ns, ns.length ≤ 63 → SX X W sts δ (c.fill (iDrC X.K a b s k m ns)) κ) : SX X W sts δ (c.fill (iDr X.K a b)) κ := fun σ G H E hE s hI kk => by
  obtain ⟨⟨q, hq⟩, hx⟩ := Hd.opens (I := iDr X.K a b) (f := fun x : { q : Int × Int × Int × List Int // q.2.2.2.length ≤ 63 } => iDrC X.K a b x.1.1 x.1.2.1 x.1.2.2.1 x.1.2.2.2) (fun _ _ => Iff.rfl) (fun _ _ ⟨q, h, hl⟩ => ⟨⟨q, hl⟩, h⟩) hI
  exact h _ _ _ _ hq σ G H E hE s hx kk
def Ko.sub {K : PySem.W.Frag} (κ : Ko K) (I I' : Iv K) : Ko K := κ
end DL
set_option Elab.async false
set_option linter.all false
set_option maxRecDepth 100000
set_option maxHeartbeats 4000000
namespace DL
open PySem PySem.Spec PyProof.Rows L2

theorem FRep.of {K : PySem.W.Frag} {G : Hp} : ∀ {fs : List (Str × D)} {l : List (Str × V)}, FRep K G fs l → l.map (·.1) = fs.map (·.1) ∧ ∀ f d, fs.lookup f = some d → ∃ v, l.lookup f = some v ∧ Rep K G d v
  | [], l, h => by
    have e : l = [] := h
    subst e
    exact ⟨rfl, fun f d z => by cases z⟩
  | (x, d0) :: fs, l, ⟨v, r, e, r1, r2⟩ => by
    subst e
    obtain ⟨h1, h2⟩ := FRep.of r2
    refine ⟨by rw [List.map_cons, List.map_cons, h1], fun f d z => ?_⟩
    by_cases hf : f = x
    · subst hf
      simp [List.lookup] at z
      subst z
      exact ⟨v, by simp [List.lookup], r1⟩
    · have e : (f == x) = false := by simpa using hf
      simp only [List.lookup, e] at z ⊢
      exact h2 f d z
theorem FRep.mono {K : PySem.W.Frag} {G G' : Hp} (s : Same G G') : ∀ {fs : List (Str × D)} {l : List (Str × V)}, FRep K G fs l → FRep K G' fs l
  | [], _, h => h
  | _ :: _, _, ⟨v, r, e, r1, r2⟩ => ⟨v, r, e, r1.mono s, FRep.mono s r2⟩
def spXIC (C : Addr) (ks : List Str) : Sp := fun vs H Q _ => ∃ (a : Addr) (ws : List V), vs = .ref a :: ws ∧ ws.length = ks.length ∧ H a = some (exo a C none) ∧ ∀ (d : Addr) (H' : Hp), H d = none → d ≠ a → H' a = some (exo a C (some d)) → H' d = some (exd d (ks.zip ws).reverse) → (∀ b, b ≠ a → b ≠ d → H' b = H b) → Q .non H'
section
variable {X : Cx} {W : WX} {es : List Expr} {e : Expr} {δ : DEnv} {I : Iv X.K} {κ : Ko X.K} {pos p pos2 : Pos} {x : Str} {C fI : Addr} {fd : FuncData} {ps ks : List Str} {k : Nat}
theorem frep_zip {K : PySem.W.Frag} {G : Hp} : ∀ {ks : List Str} {ds : List D} {vs : List V}, Reps K G ds vs → ks.length = ds.length → FRep K G (ks.zip ds) (ks.zip vs)
  | [], _, _, _, _ => by simp [FRep]
  | k :: ks, [], _, _, h => by simp at h
  | k :: ks, d :: ds, _, ⟨v, r, e, r1, r2⟩, h => by
    subst e
    exact ⟨v, ks.zip r, rfl, r1, frep_zip r2 (by simpa using h)⟩
theorem frep_append {K : PySem.W.Frag} {G : Hp} : ∀ {fs gs : List (Str × D)} {l m : List (Str × V)}, FRep K G fs l → FRep K G gs m → FRep K G (fs ++ gs) (l ++ m)
  | [], _, l, m, h, t => by
    have e : l = [] := h
    subst e
    exact t
  | f :: fs, gs, l, m, ⟨v, r, e, r1, r2⟩, t => by
    subst e
    exact ⟨v, r ++ m, rfl, r1, frep_append r2 t⟩
theorem frep_rev {K : PySem.W.Frag} {G : Hp} : ∀ {fs : List (Str × D)} {l : List (Str × V)}, FRep K G fs l → FRep K G fs.reverse l.reverse
  | [], l, h => by
    have e : l = [] := h
    subst e
    exact rfl
  | f :: fs, l, ⟨v, r, e, r1, r2⟩ => by
    subst e
    rw [List.reverse_cons, List.reverse_cons]
    exact frep_append (frep_rev r2) ⟨v, [], rfl, r1, rfl⟩
theorem s_raise (tk : Takes X W) (T : OexC X.K C) (iC : PySem.W.findIn X.K (.ref C) "__init__" = some (some (.ref fI))) (tI : PySem.W.typeIn X.K (.ref fI) = some (.type "function"))
    (F1 : FnOk X.prog X.w X.K X.mg X.base (L2.CX X.prog X.w) k fI fd ps (spXIC C ks)) (hr : Room (k + 1) X.A) (hb : Binds X.K fd ps []) (hm : X.mg x = some (.ref C))
    (h : EvA X W (κ.r δ) (e :: es) δ I fun ds I1 => ks.length = ds.length ∧ ds.length ≤ 10 ∧ κ.ex C (ks.zip ds).reverse δ I1) (hc : X.calm = true := by rfl) (hg : Gl X x := by rfl) (hdb : (x == ("__debug__" : Str)) = false := by decide)
    (he : starEach (e :: es) X.env = (false, eval e X.env) :: starEach es X.env := by rfl) (hpl : (backTo pos (starEach es X.env)).any (·.1) = false := by rfl) : S1 X W (.Raise (some (.Call (.Name x p) (e :: es) [] pos)) none pos2) δ I κ := fun σ G H E hE s hI kk =>
  PS.wp (ps_raise hc tk (pmk_oex T iC tI F1 hr hb .nil passL hg hm paC hdb he hpl)) (h σ G H _ hE s hI (kk.kx hE) fun vs ds G1 H1 I1 s1 t1 h1 r1 ⟨hl, hz, xx⟩ => by
    refine ⟨by rw [r1.length]; omega, fun a ha => ?_⟩
    refine ⟨a, vs ++ [], rfl, by rw [List.append_nil, r1.length, hl], upd_same, fun d H2 hd hda e1 e2 e3 => ?_⟩
    rw [upd_ne hda] at hd
    refine ⟨rfl, d, _, e1, e2, hd, ?_⟩
    have eH : upd (L2.del H2 a) d (.xd (ks.zip (vs ++ [])).reverse) = upd H1 d (.xd (ks.zip (vs ++ [])).reverse) := by
      funext b
      by_cases hb : b = d
      · subst hb; rw [upd_same, upd_same]
      · rw [upd_ne hb, upd_ne hb]
        by_cases hba : b = a
        · subst hba; rw [del_same, ha]
        · rw [del_ne hba, e3 b hba hb, upd_ne hba]
    rw [eH]
    have gd : G1 d = none := t1.free hd
    refine kk.ex C d (ks.zip ds).reverse _ δ σ (upd G1 d (.xd (ks.zip (vs ++ [])).reverse)) _ I1 (s1.trans (Evl.Ex.new gd)) (same_upd2 t1) (h1.keep hd t1) (hE.mono (s1.trans (Evl.Ex.new gd))) ?_ upd_same xx
    rw [List.append_nil]
    exact (frep_rev (frep_zip r1 hl)).mono (Evl.Ex.new gd))
end
section
variable {X : Cx} {I : Iv X.K} {δ : DEnv} {e : Expr} {pos : Pos} {d : D}
end
end DL
set_option Elab.async false
set_option linter.all false
set_option maxRecDepth 100000
set_option maxHeartbeats 4000000
namespace DL
open PySem PySem.Spec PyProof.Rows L2

def ORep (K : PySem.W.Frag) (G : Hp) (os : List (Option D)) (vs : List (Option V)) : Prop := vs.length = os.length ∧ ∀ (i : Nat) (d : D), os[i]? = some (some d) → ∃ v, vs[i]? = some (some v) ∧ Rep K G d v
theorem ORep.mono {K : PySem.W.Frag} {G G' : Hp} {os : List (Option D)} {vs : List (Option V)} (s : Same G G') (h : ORep K G os vs) : ORep K G' os vs := ⟨h.1, fun i d e => by
  obtain ⟨v, h1, h2⟩ := h.2 i d e
  exact ⟨v, h1, h2.mono s⟩⟩
def iSl (K : PySem.W.Frag) (x C dx : Addr) (os : List (Option D)) : Iv K where
  F := fun a => a = x ∨ a = dx
  φ := fun G H => H dx ≠ none ∧ dx ≠ x ∧ ∃ vs, SlX.Slt H x C dx vs ∧ ORep K G os vs
  loc := fun G G' H H' s k ⟨h1, h0, vs, h2, h3⟩ => ⟨by rw [k dx (.inr rfl)]; exact h1, h0, vs, by
    have e1 := k x (.inl rfl)
    have e2 := k dx (.inr rfl)
    rcases h2 with ⟨q1, q2⟩ | ⟨q1, q2⟩
    · exact .inl ⟨by rw [e1]; exact q1, q2⟩
    · exact .inr ⟨by rw [e1]; exact q1, by rw [e2]; exact q2⟩, h3.mono s⟩
  dom := fun G H ⟨h1, _, vs, h2, _⟩ a ha => by
    rcases ha with e | e
    · subst e
      rcases h2 with ⟨q, _⟩ | ⟨q, _⟩ <;> rw [q] <;> simp
    · subst e
      exact h1
def putO (i : Nat) (d : D) (os : List (Option D)) : List (Option D) := (os ++ List.replicate (i + 1 - os.length) none).set i (some d)
theorem ORep.put {K : PySem.W.Frag} {G : Hp} {os : List (Option D)} {vs : List (Option V)} (h : ORep K G os vs) (i : Nat) {d : D} {v : V} (r : Rep K G d v) : ORep K G (putO i d os) (SlX.putS i v vs) := by
  unfold putO SlX.putS
  refine ⟨by simp [h.1], fun j e he => ?_⟩
  have hl : i < (os ++ List.replicate (i + 1 - os.length) none).length := by simp; omega
  by_cases hj : i = j
  · subst hj
    rw [List.getElem?_set_self hl] at he
    have e2 : d = e := by simpa using he
    subst e2
    exact ⟨v, List.getElem?_set_self (by simp; omega), r⟩
  · rw [List.getElem?_set_ne hj] at he
    by_cases ho : j < os.length
    · rw [List.getElem?_append_left ho] at he
      obtain ⟨w, h1, h2⟩ := h.2 j e he
      exact ⟨w, by rw [List.getElem?_set_ne hj, List.getElem?_append_left (by rw [h.1]; exact ho)]; exact h1, h2⟩
    · rw [List.getElem?_append_right (by omega), List.getElem?_replicate] at he
      split at he <;> cases he
section
variable {K : PySem.W.Frag} {G H : Hp} {x C dx : Addr} {os : List (Option D)} {c : Rc K} {I : Iv K}
theorem Hd.sl (h : Hd (c.fill (iSl K x C dx os)) G H) : ∃ vs, SlX.Slt H x C dx vs ∧ ORep K G os vs ∧ dx ≠ x ∧ G x = none ∧ G dx = none := by
  obtain ⟨_, h0, vs, h2, h3⟩ := h.inner.ph
  exact ⟨vs, h2, h3, h0, h.inner.fr x (.inl rfl), h.inner.fr dx (.inr rfl)⟩
theorem slH_same {vs : List (Option V)} (s : Same G H) (h1 : G x = none) (h2 : G dx = none) : Same G (SlX.slH H x C dx vs) := fun a u e => by
  rw [SlX.slH_ne (ne_of_none e h1) (ne_of_none e h2)]
  exact s a u e
theorem Hd.slSet {os' : List (Option D)} {vs' : List (Option V)} (h : Hd (c.fill (iSl K x C dx os)) G H) (r : ORep K G os' vs') : Hd (c.fill (iSl K x C dx os')) G (SlX.slH H x C dx vs') := by
  obtain ⟨_, h0, _⟩ := h.inner.ph
  refine Hd.change (I := iSl K x C dx os) (I' := iSl K x C dx os') (fun _ => Iff.rfl) (fun a ha => SlX.slH_ne (fun e => ha (.inl e)) (fun e => ha (.inr e))) ⟨⟨?_, h0, vs', SlX.slH_slt h0, r⟩, h.inner.fr⟩ h
  show SlX.slH H x C dx vs' dx ≠ none
  unfold SlX.slH
  rw [upd_ne h0, upd_same]
  simp
theorem freeze_sl {ds : List D} (s : Same G H) (h : Hd (I.and (iSl K x C dx (ds.map some))) G H) : ∃ G', Same G G' ∧ Same G' H ∧ Hd I G' H ∧ Rep K G' (.slo C ds) (.ref x) := by
  obtain ⟨hd, h0, vs, h2, h3⟩ := h.right.ph
  have gx : G x = none := h.right.fr x (.inl rfl)
  have gd : G dx = none := h.right.fr dx (.inr rfl)
  obtain ⟨ox, ex⟩ : ∃ o, H x = some o := by
    rcases h2 with ⟨q, _⟩ | ⟨q, _⟩ <;> exact ⟨_, q⟩
  obtain ⟨od, ed⟩ : ∃ o, H dx = some o := Option.ne_none_iff_exists'.mp hd
  have g2 : upd G dx od x = none := by rw [upd_ne (Ne.symm h0)]; exact gx
  have sA : Same G (upd (upd G dx od) x ox) := (Evl.Ex.new gd).trans (Evl.Ex.new g2)
  have sB : Same (upd (upd G dx od) x ox) H := same_freeze (same_freeze s ed) ex
  have slt : SlX.Slt (upd (upd G dx od) x ox) x C dx vs := by
    rcases h2 with ⟨q1, q2⟩ | ⟨q1, q2⟩
    · exact .inl ⟨by rw [upd_same, ← ex]; exact q1, q2⟩
    · exact .inr ⟨by rw [upd_same, ← ex]; exact q1, by rw [upd_ne h0, upd_same, ← ed]; exact q2⟩
  -- the slots as values
  have key : ∀ {ds : List D} {vs : List (Option V)}, ORep K G (ds.map some) vs → ∃ ws, vs = ws.map some ∧ Reps K G ds ws := by
    intro ds
    induction ds with
    | nil =>
      intro vs ⟨hl, _⟩
      have e : vs = [] := List.length_eq_zero_iff.mp (by simpa using hl)
      exact ⟨[], by rw [e]; rfl, rfl⟩
    | cons d ds ih =>
      intro vs ⟨hl, hg⟩
      cases vs with
      | nil => simp at hl
      | cons v vs =>
        obtain ⟨w, h1, h2⟩ := hg 0 d rfl
        obtain ⟨ws, e1, e2⟩ := ih (vs := vs) ⟨by simpa using hl, fun i e he => by
          obtain ⟨w, q1, q2⟩ := hg (i + 1) e (by simpa using he)
          exact ⟨w, by simpa using q1, q2⟩⟩
        have e3 : v = some w := by simpa using h1
        exact ⟨w :: ws, by rw [e3, e1]; rfl, ⟨w, ws, rfl, h2, e2⟩⟩
  obtain ⟨ws, e1, e2⟩ := key h3
  subst e1
  refine ⟨_, sA, sB, ⟨I.loc G _ H H sA (fun _ _ => rfl) h.left.ph, fun a ha => ?_⟩, ⟨x, dx, ws, rfl, slt, e2.mono sA⟩⟩
  rw [upd_ne fun e => h.apart a ⟨ha, .inl e⟩, upd_ne fun e => h.apart a ⟨ha, .inr e⟩]
  exact h.left.fr a ha
end
section
variable {X : Cx} {W : WX} {R : Rx X.K} {a b e o : Expr} {es : List Expr} {δ : DEnv} {I : Iv X.K} {P : D → Iv X.K → Prop} {pos q' p : Pos} {n : Str} {d z : D} {x C dx pd : Addr} {ds : List D} {os : List (Option D)} {i : Nat} {κ : Ko X.K}
theorem pv_sl (c : SlX.SCls X.K C) (t : SlX.Slot1 X.K C n pd i) (ho : PV X I o δ (.slo C ds)) (hd : ds[i]? = some d) (hb : attributeBase o n X.env (eval o X.env) = eval o X.env := by rfl) : PV X I (.Attribute o n pos) δ d := fun W R P p σ G H Q hE s hI qx q =>
  PE.wp (SlX.pe_sl peC hb) (ho W R (fun z I1 => z = .slo C ds ∧ I1 = I) ⟨rfl, rfl⟩ σ G H _ hE s hI qx fun v d1 G1 H1 I1 s1 t1 h1 r1 ⟨ed, ei⟩ => by
    subst ed ei
    obtain ⟨y, dy, vs, e1, e2, e3⟩ := r1
    obtain ⟨u, h2, h3⟩ := e3.get hd
    exact ⟨y, C, dy, pd, vs.map some, i, u, e1, slt_mono t1 e2, c, t, by rw [List.getElem?_map, h2]; rfl, q u d G1 H1 _ s1 t1 h1 h3 p⟩)
theorem s_slot (k : Rc X.K) (c : SlX.SCls X.K C) (t : SlX.Slot1 X.K C n pd i) (ho : PV X I o δ (.adr x)) (he : PV X I e δ d) (nx : κ.nx δ (k.fill (iSl X.K x C dx (putO i d os))))
    (hs : swapsWith e (some (.Attribute o n q')) pos.line X.env = pure false := by rfl) (eI : I = k.fill (iSl X.K x C dx os) := by rfl) : S1 X W (.Assign [.Attribute o n q'] e pos) δ I κ := fun σ G H E hE s hI kk => by
  subst eI
  exact PS.wp (SlX.ps_sl peC peC hs) (he W _ (fun z I1 => z = d ∧ I1 = k.fill (iSl X.K x C dx os)) ⟨rfl, rfl⟩ σ G H _ hE s hI (kk.kx hE) fun v d1 G1 H1 I1 s1 t1 h1 r1 ⟨ed, ei⟩ => by
    subst ed ei
    refine ho W (κ.r δ) (fun z I1 => z = .adr x ∧ I1 = k.fill (iSl X.K x C dx os)) ⟨rfl, rfl⟩ σ G1 H1 _ (hE.mono s1) t1 h1 ((kk.kx hE).mono s1) fun ov d2 G2 H2 I2 s2 t2 h2 r2 ⟨ed, ei⟩ => ?_
    subst ed ei
    obtain ⟨vs, h4, h5, h6, h7, h8⟩ := h2.sl
    exact ⟨x, C, dx, pd, vs, i, r2, h4, c, t, kk.nx δ σ G2 _ _ (s1.trans s2) (slH_same t2 h7 h8) (h2.slSet (h5.put i (r1.mono s2))) (hE.mono (s1.trans s2)) nx⟩)
structure wpK (X : Cx) (kws : List Keyword) (σ : L2.St) (H : Hp) (Q : List V → Hp → Prop) : Prop where
  run : ∀ (pos : Pos) (pins : List (Addr × Obj)) (s : Shared), Inv X pins σ H s → wpAny (model X.prog X.w) X.A (evalAll ((backToKw pos (keywordEach kws X.env)).map (·.2))) (AP X pins σ Q) X.xe s
def EvK (X : Cx) (W : WX) (R : Rx X.K) (kws : List Keyword) (δ : DEnv) (I : Iv X.K) (P : List D → Iv X.K → Prop) : Prop := ∀ (σ : L2.St) (G H : Hp) (Q : List V → Hp → Prop), EnvR X.K G δ σ → Same G H → Hd I G H → Kx X.K W σ G R → Ka X.K Q G P → wpK X kws σ H Q
theorem pkC {kws : List Keyword} : PK X kws (wpK X kws) := ⟨fun pos pins s σ H Q I h => h.run pos pins s I⟩
theorem ek_nil {PP : List D → Iv X.K → Prop} (p : PP [] I) : EvK X W R [] δ I PP := fun σ G H Q hE s hI qx q => ⟨fun pos pins s1 J => pk_nil.run pos pins s1 σ H Q J (q [] [] G H I (Same.refl G) s hI rfl p)⟩
theorem ek_cons {PP : List D → Iv X.K → Prop} {nm : Option Str} {kpos : Pos} {kws : List Keyword} (h : EvX X W R e δ I fun d I1 => EvK X W R kws δ I1 fun ds I2 => PP (d :: ds) I2) : EvK X W R (⟨nm, e, kpos⟩ :: kws) δ I PP := fun σ G H Q hE s hI qx q => ⟨fun pos pins s1 J =>
  (pk_cons peC pkC).run pos pins s1 σ H Q J (h σ G H _ hE s hI qx fun v d G1 H1 I1 s1 t1 h1 r1 k => k σ G1 H1 _ (hE.mono s1) t1 h1 (qx.mono s1) fun vs ds G2 H2 I2 s2 t2 h2 r2 k2 => q (v :: vs) (d :: ds) G2 H2 I2 (s1.trans s2) t2 h2 ⟨v, vs, rfl, r1.mono s2, r2⟩ k2)⟩
theorem ev_makeSl {x' : Str} {f : Addr} {fd : FuncData} {ps ks : List Str} {j m : Nat} {S : Spec X.K} {kws : List Keyword} {g : List Value → List Value → List Value} {gV : List V → List V → List V} (gD : List D → List D → List D) (tk : Takes X W) (M : Mk X.K C f) (F : FnOk X.prog X.w X.K X.mg X.base (L2.CX X.prog X.w) j f fd ps (spD X.K S))
    (hr : Room (j + 1) X.A) (hm : X.mg x' = some (.ref C)) (hb : KBn X.K fd ps (m + 1) ks g gV) (hgD : ∀ {G : Hp} {ds zs : List D} {vs ws : List V}, Reps X.K G ds vs → Reps X.K G zs ws → Reps X.K G (gD ds zs) (gV vs ws))
    (h : EvA X W R (e :: es) δ I fun ds I1 => EvK X W R kws δ I1 fun zs I2 => ds.length = m ∧ zs.length = ks.length ∧ ∀ y dy, (∀ a, ¬ (I2.F a ∧ (a = y ∨ a = dy))) → S (I2.and (iSl X.K y C dy [])) (gD (.adr y :: ds) zs)
      (fun v I3 => v = .non ∧ ∃ fs : List D, I3 = I2.and (iSl X.K y C dy (fs.map some)) ∧ P (.slo C fs) I2) (fun C' fs I3 => ∃ os, I3 = I2.and (iSl X.K y C dy os) ∧ R C' fs I2))
    (hg : Gl X x' := by rfl) (hdb : (x' == ("__debug__" : Str)) = false := by decide) (hall : (backToKw pos (keywordEach kws X.env)).all (·.1.isSome) = true := by rfl) (hks : (backToKw pos (keywordEach kws X.env)).filterMap (·.1) = ks := by rfl)
    (he : starEach (e :: es) X.env = (false, eval e X.env) :: starEach es X.env := by rfl) (hpl : ((backTo pos (starEach (e :: es) X.env)).any (·.1) || (backToKw pos (keywordEach kws X.env)).any (·.1.isNone)) = false := by rfl) : EvX X W R (.Call (.Name x' p) (e :: es) kws pos) δ I P := fun σ G H Q hE s hI qx q => ⟨fun pins s0 J0 => by
  refine wpAny_Call_Name_kw (ld_glob J0 hg hm ?_ hdb)
  refine PySem.W.callWith_KW (h₀ := X.base) J0.ok.mod.kin M.kp hall ?_ hpl he
  refine thn ((h σ G H (fun vs H1 => ∀ (st : Shared) (us : List Value), Inv X pins σ H1 st → Vals vs us → wpAny (model X.prog X.w) X.A (evalAll ((backToKw pos (keywordEach kws X.env)).map (·.2)))
    (fun ws st2 => X.K.In st2.heap ∧ wpAny (model X.prog X.w) X.A (call (.ref C) us (((backToKw pos (keywordEach kws X.env)).filterMap (·.1)).zip ws)) (EP X pins σ Q) X.xe st2) X.xe st) hE s hI qx ?_).run pos pins s0 J0) fun us s1 ⟨vs, H1, J1, rv, z⟩ => z s1 us J1 rv
  intro vs ds G1 H1 I1 s1 t1 h1 r1 k st1 us J1 rv
  refine thn ((k σ G1 H1 (fun zs H2 => ∀ (st : Shared) (ws : List Value), Inv X pins σ H2 st → Vals zs ws → X.K.In st.heap ∧ wpAny (model X.prog X.w) X.A (call (.ref C) us (((backToKw pos (keywordEach kws X.env)).filterMap (·.1)).zip ws)) (EP X pins σ Q) X.xe st)
    (hE.mono s1) t1 h1 (qx.mono s1) ?_).run pos pins st1 J1) fun ws s2 ⟨zs, H2, J2, rz, z⟩ => z s2 ws J2 rz
  intro zs dz G2 H2 I2 s2 t2 h2 r2 ⟨hn, hk, hS⟩ st2 ws J2 rz
  refine ⟨J2.kIn, ?_⟩
  rw [hks]
  have J3 := Inv.made (C := C) J2
  have nd : H2 st2.heap.objs.size = none := J2.hok.fresh (Nat.le_refl _)
  have ny : H2 (st2.heap.objs.size + 1) = none := J2.hok.fresh (Nat.le_succ _)
  have dn : st2.heap.objs.size ≠ st2.heap.objs.size + 1 := Nat.ne_of_lt (Nat.lt_succ_self _)
  have rs : Vals (V.ref (st2.heap.objs.size + 1) :: vs) (Value.ref (st2.heap.objs.size + 1) :: us) := .cons rfl rv
  have rel := hb.rel rs rz
  have gd : G2 st2.heap.objs.size = none := t2.free nd
  have gy : G2 (st2.heap.objs.size + 1) = none := t2.free ny
  have ny2 : upd H2 st2.heap.objs.size (.own (st2.heap.objs.size + 1)) (st2.heap.objs.size + 1) = none := by rw [upd_ne (Ne.symm dn)]; exact ny
  have na : ∀ a, ¬ (I2.F a ∧ (a = st2.heap.objs.size + 1 ∨ a = st2.heap.objs.size)) := fun a ha => ha.2.elim (fun e => h2.dom ha.1 (by rw [e]; exact ny)) (fun e => h2.dom ha.1 (by rw [e]; exact nd))
  have hd3 : Hd (I2.and (iSl X.K (st2.heap.objs.size + 1) C st2.heap.objs.size [])) G2 (upd (upd H2 st2.heap.objs.size (.own (st2.heap.objs.size + 1))) (st2.heap.objs.size + 1) (.ins C st2.heap.objs.size [])) := by
    refine Hd.mk2 ((h2.newp nd).newp ny2) ⟨⟨by rw [upd_ne dn, upd_same]; simp, dn, [], .inl ⟨upd_same, rfl⟩, rfl, fun i d z => by simp at z⟩, fun a ha => ?_⟩ na
    rcases ha with e | e
    · subst e; exact gy
    · subst e; exact gd
  refine wpAny_call (make_map (f := f) J2.kIn M.makes M.init (beq_iff_eq.mp M.fn) (codeAny_mono (F.run _ X.stack _ _ ⟨Value.ref (st2.heap.objs.size + 1) :: us, ks.zip ws⟩ _ _ (fun v H3 => v = .non ∧ Q (.ref (st2.heap.objs.size + 1)) H3) (WE W σ) (hr.make C us (ks.zip ws))
    (J3.env0.make C us (ks.zip ws)) (hb.to _ _ ws J3.kIn ?_ ?_) rel ⟨_, G2, gD (.adr (st2.heap.objs.size + 1) :: ds) dz, _, _, same_upd (same_upd t2 gd) gy, hd3, hgD (.cons rfl (r1.mono s2)) r2, hS _ _ na, ?_, ?_⟩) fun r s' hq => ?_))
  · rw [List.length_cons, ← rv.length, r1.length, hn]
  · rw [← rz.length, r2.length, hk]
  · intro v d G' H' I' s3 t3 h3 r3 ⟨ed, fs, eI, pp⟩
    subst ed eI
    obtain ⟨G4, s4, t4, h4, r4⟩ := freeze_sl t3 h3
    exact ⟨r3, q (.ref _) (.slo C fs) G4 H' I2 ((s1.trans s2).trans (s3.trans s4)) t4 h4 r4 pp⟩
  · intro C' dd fs l G' H' I' s3 t3 h3 r3 hx ⟨os, eI, pp⟩
    subst eI
    exact qx C' dd fs l G' H' I2 ((s1.trans s2).trans s3) t3 h3.left r3 hx pp
  · cases r with
    | error e => exact passAt tk σ pins _ _ e s' J3 hq
    | ok fl =>
      cases fl with
      | ret u =>
        obtain ⟨v, H', J4, rv', ev, q3⟩ := J3.after hq
        subst ev
        exact ⟨rv', ⟨V.ref (st2.heap.objs.size + 1), H', J4, rfl, q3⟩⟩
      | next => exact False.elim hq
      | brk => exact False.elim hq
      | cont => exact False.elim hq⟩
end
end DL
set_option Elab.async false
set_option linter.all false
set_option maxRecDepth 100000
set_option maxHeartbeats 4000000
namespace DL
open PySem PySem.Spec PyProof.Rows L2

def Rc.comp {K : PySem.W.Frag} : Rc K → Rc K → Rc K
  | .here, c' => c'
  | .l c J, c' => .l (c.comp c') J
  | .r J c, c' => .r J (c.comp c')
theorem fill_comp {K : PySem.W.Frag} {I : Iv K} (c' : Rc K) : ∀ c : Rc K, (c.comp c').fill I = c.fill (c'.fill I)
  | .here => rfl
  | .l c J => by show ((c.comp c').fill I).and J = _; rw [fill_comp c' c]; rfl
  | .r J c => by show J.and ((c.comp c').fill I) = _; rw [fill_comp c' c]; rfl
theorem Sub.trans {K : PySem.W.Frag} {I J L : Iv K} (a : Sub I J) (b : Sub J L) : Sub I L := ⟨fun x => (b.F x).trans (a.F x), fun G H h => b.φ G H (a.φ G H h)⟩
theorem Sub.assoc {K : PySem.W.Frag} {I J L : Iv K} : Sub ((I.and J).and L) (I.and (J.and L)) := ⟨fun a => ⟨fun h => h.elim (fun z => .inl (.inl z)) fun z => z.elim (fun z => .inl (.inr z)) .inr, fun h => h.elim (fun z => z.elim .inl fun z => .inr (.inl z)) fun z => .inr (.inr z)⟩,
  fun G H h => ⟨h.1.1, ⟨h.1.2.1, h.2.1, fun a ha => h.2.2 a ⟨.inr ha.1, ha.2⟩⟩, fun a ha => ha.2.elim (fun z => h.1.2.2 a ⟨ha.1, z⟩) fun z => h.2.2 a ⟨.inl ha.1, z⟩⟩⟩
theorem Sub.comm {K : PySem.W.Frag} {I J : Iv K} : Sub (I.and J) (J.and I) := ⟨fun a => ⟨Or.symm, Or.symm⟩, fun G H h => ⟨h.2.1, h.1, fun a ha => h.2.2 a ⟨ha.2, ha.1⟩⟩⟩
section
variable {X : Cx} {W : WX} {R : Rx X.K} {a b e o : Expr} {es : List Expr} {sts : List Stmt} {st : Stmt} {δ : DEnv} {I I' : Iv X.K} {P P' : D → Iv X.K → Prop} {pos p : Pos} {d z : D} {x' : Str} {κ : Ko X.K}
theorem EvX.sub (s : Sub I I') (h : EvX X W R e δ I' P) : EvX X W R e δ I P := fun σ G H Q hE sm hI qx q => h σ G H Q hE sm (hI.sub s) qx q
theorem SX.sub (s : Sub I I') (h : SX X W sts δ I' κ) : SX X W sts δ I κ := fun σ G H E hE sm hI k => h σ G H E hE sm (hI.sub s) k
theorem EvX.reg (h : EvX X W R e δ I P') (k : ∀ d I', P' d I' → ∃ I'', Sub I' I'' ∧ P d I'') : EvX X W R e δ I P := fun σ G H Q hE sm hI qx q => h σ G H Q hE sm hI qx fun v d G' H' I' s1 s2 h1 r p => by
  obtain ⟨I'', s3, p'⟩ := k d I' p
  exact q v d G' H' I'' s1 s2 (h1.sub s3) r p'
theorem SX.eq (e : I = I') (h : SX X W sts δ I' κ) : SX X W sts δ I κ := e ▸ h
theorem ev_lstMM (h : EvA X W R es δ I fun ds I1 => ds.length ≤ 1000 ∧ ∀ p, (∀ a, ¬ (I1.F a ∧ a = p)) → P (.adr p) (I1.and (iLst X.K p ds))) : EvX X W R (.List es pos) δ I P := fun σ G H Q hE s hI qx q =>
  PE.wp (pe_lst paC) (h σ G H _ hE s hI qx fun vs ds G1 H1 I1 s1 t1 h1 r1 ⟨hl, hp⟩ => ⟨by rw [r1.length, sizeLine_eq]; omega, fun p hq => by
    have hg : G1 p = none := t1.free hq
    have na : ∀ a, ¬ (I1.F a ∧ a = p) := fun a ha => h1.dom ha.1 (by rw [ha.2]; exact hq)
    exact q (.ref p) (.adr p) G1 _ (I1.and (iLst X.K p ds)) s1 (same_upd t1 hg) (Hd.mk2 (h1.newp hq) ⟨⟨_, upd_same, vs, rfl, r1⟩, fun a ha => by rw [show a = p from ha]; exact hg⟩ na) rfl (hp p na)⟩)
theorem pv_gint {i : Int} (hm : ∃ t, X.mg x' = some (.int i t)) (hg : Gl X x' := by rfl) (hdb : (x' == ("__debug__" : Str)) = false := by decide) : PV X I (.Name x' pos) δ (.int i) := by
  obtain ⟨t, ht⟩ := hm
  exact pv_g (v := .int i) ht ⟨t, rfl⟩ (fun _ => rfl) hg hdb
theorem pv_gstr {w : Str} (hm : ∃ t, X.mg x' = some (.str w t)) (hg : Gl X x' := by rfl) (hdb : (x' == ("__debug__" : Str)) = false := by decide) : PV X I (.Name x' pos) δ (.str w) := by
  obtain ⟨t, ht⟩ := hm
  exact pv_g (v := .str w) ht ⟨t, rfl⟩ (fun _ => rfl) hg hdb
structure GTup (K : PySem.W.Frag) (mg : Str → Option Value) (x : Str) (ds : List D) : Prop where
  ex : ∃ a vs, mg x = some (.ref a) ∧ flatDs ds = some vs ∧ ∀ G, SqT K G a vs
theorem reps_flat {K : PySem.W.Frag} {G : Hp} : ∀ {ds : List D} {vs : List V}, flatDs ds = some vs → Reps K G ds vs
  | [], vs, h => by
    have e : ([] : List V) = vs := Option.some.inj h
    rw [← e]
    exact rfl
  | d :: ds, vs, h => by
    unfold flatDs at h
    cases h1 : flatD d with
    | none => rw [h1] at h; cases h
    | some u =>
      cases h2 : flatDs ds with
      | none => rw [h1, h2] at h; cases h
      | some us =>
        rw [h1, h2] at h
        have e := Option.some.inj h
        rw [← e]
        refine ⟨u, us, rfl, ?_, reps_flat h2⟩
        cases d <;> first | (cases h1; rfl) | cases h1
theorem pv_gtup {ds : List D} (hm : GTup X.K X.mg x' ds) (hg : Gl X x' := by rfl) (hdb : (x' == ("__debug__" : Str)) = false := by decide) : PV X I (.Name x' pos) δ (.tup ds) := by
  obtain ⟨a, vs, h1, h2, h3⟩ := hm.ex
  exact pv_g (v := .ref a) h1 rfl (fun G => ⟨a, vs, rfl, h3 G, reps_flat h2⟩) hg hdb
theorem pv_gref {a : Addr} (hm : X.mg x' = some (.ref a)) (hg : Gl X x' := by rfl) (hdb : (x' == ("__debug__" : Str)) = false := by decide) : PV X I (.Name x' pos) δ (.adr a) := pv_g (v := .ref a) hm rfl (fun _ => rfl) hg hdb
end
theorem str_or (d : D) {t : String} (h : tyD d = some t) : (∃ s, d = .str s) ∨ (kitB t "str" = some false ∧ ∀ s, d ≠ .str s) := by
  cases d with
  | str s => exact .inl ⟨s, rfl⟩
  | non => cases h; exact .inr ⟨by decide +kernel, fun s z => nomatch z⟩
  | bl b => cases h; exact .inr ⟨by decide +kernel, fun s z => nomatch z⟩
  | int i => cases h; exact .inr ⟨by decide +kernel, fun s z => nomatch z⟩
  | tup _ => cases h; exact .inr ⟨by decide +kernel, fun s z => nomatch z⟩
  | lst _ => cases h; exact .inr ⟨by decide +kernel, fun s z => nomatch z⟩
  | lsf _ => cases h; exact .inr ⟨by decide +kernel, fun s z => nomatch z⟩
  | dic _ _ => cases h; exact .inr ⟨by decide +kernel, fun s z => nomatch z⟩
  | _ => cases h
def sMix {K : PySem.W.Frag} (m : Int) : Spec K := fun I ds P _ => ∃ (ns : List Int) (seed : Int), ds = [.lsf (ns.map D.int), .int seed] ∧ ns.length ≤ 63 ∧ ∀ a b, P (.adr a) (I.and (iDr K a b))
def sNext {K : PySem.W.Frag} : Spec K := fun I ds P _ => ∃ (a b : Addr) (c : Rc K) (n : Int), ds = [.adr a, .int n] ∧ I = c.fill (iDr K a b) ∧ 0 < n ∧ n < 1000000000 ∧ ∀ k : Int, 0 ≤ k → k < n → P (.int k) I
end DL
namespace DL
open PySem PySem.Spec PyProof.Rows L2
section
variable {X : Cx} {W : WX} {R : Rx X.K} {elt tg iter c : Expr} {ifs : List Expr} {scope : Scope} {δ : DEnv} {I : Iv X.K} {pos : Pos} {ds : List D}
theorem take_snoc {α : Type} {l : List α} {i : Nat} {x : α} (h : l[i]? = some x) : l.take (i + 1) = l.take i ++ [x] := by
  have hl := (List.getElem?_eq_some_iff.mp h).1
  rw [List.take_succ, h]
  rfl
theorem m_more (f : D → D) {i : Nat} {d : D} {ys : List D} (hd : ds[i]? = some d) (e : ys = (ds.take i).map f) : ys ++ [f d] = (ds.take (i + 1)).map f := by
  rw [take_snoc hd, List.map_append, ← e]
  rfl
theorem m_end (f : D → D) {ys : List D} (e : ys = (ds.take ds.length).map f) : ys = ds.map f := by
  rw [List.take_length] at e
  exact e
theorem pv_lcMap (f : D → D) (own : List (Str × Nat)) (δ' : D → DEnv) (hi : PVI X I tg iter δ ds) (hz : ds.length ≤ 1000000)
    (hb : ∀ (d : D) (s : Shared) (H : Hp) (C : Addr) (cl : List (Str × Addr)) (fp : List Addr), BindD (X.blk s H scope (compEnvC scope cl C X.env) fp) tg d (wipeD δ (own.map (·.2))) (δ' d) (own.map (·.2)))
    (he : ∀ d, d ∈ ds → ∀ (J : Iv X.K) (s : Shared) (H : Hp) (C : Addr) (cl : List (Str × Addr)) (fp : List Addr), PV (X.blk s H scope (compEnvC scope cl C X.env) fp) (I.and J) elt (δ' d) (f d))
    (hN : X.N.Nodup := by assumption) (ok : blkC X.N X.env.scope scope own = true := by rfl)
    (hc : X.calm = true := by rfl) (hs : ∀ x, foldedSetIterable iter X.env x = pure x := by intro _; rfl) : PV X I (.ListComp elt [⟨tg, iter, [], 0⟩] scope pos) δ (.lst (ds.map f)) := fun W R P p =>
  ev_lc own hN (blkOk_by ok) (hi W R _ ⟨hz, fun i ys => ys = (ds.take i).map f, δ', rfl, fun i d ys hd e => ⟨fun b => b = true, fun J s H C cl fp => ⟨hb d s H C cl fp, ets_nil ⟨rfl, rfl⟩⟩, fun _ J s H C cl fp => he d (List.mem_of_getElem? hd) J s H C cl fp _ _ _ ⟨rfl, m_more f hd e⟩, fun e2 => nomatch (show false = true from e2)⟩, fun ys e => m_end f e ▸ p⟩) hc hs
end
theorem pn_isiT {K : PySem.W.Frag} {I : Iv K} {d : D} {t u : String} (h : tyD d = some t) (hb : kitB t u = some true := by decide +kernel) : PN K I (rIsi K) [d, .ty u] (.bl true) := pn_isi h hb
theorem pn_isiF {K : PySem.W.Frag} {I : Iv K} {d : D} {t u : String} (h : tyD d = some t) (hb : kitB t u = some false) : PN K I (rIsi K) [d, .ty u] (.bl false) := pn_isi h hb
end DL
namespace DL
open PySem PySem.Spec PyProof.Rows L2
section
variable {X : Cx} {W : WX} {a b c : Expr} {rest : List Expr} {sts els : List Stmt} {δ : DEnv} {I : Iv X.K} {pos : Pos} {κ : Ko X.K}
theorem ww_orT (h : PVT X I a δ true) : PVW X I (.BoolOp .Or (a :: b :: rest) pos) δ true := fun W R P p => ew_or (h W R _ p)
theorem ww_orF {k : Bool} (h : PVT X I a δ false) (h2 : PVW X I (.BoolOp .Or (b :: rest) pos) δ k) : PVW X I (.BoolOp .Or (a :: b :: rest) pos) δ k := fun W R P p => ew_or (h W R _ (h2 W R P p))
theorem ww_andF (h : PVT X I a δ false) : PVW X I (.BoolOp .And (a :: b :: rest) pos) δ false := fun W R P p => ew_and (h W R _ p)
theorem ww_andT {k : Bool} (h : PVT X I a δ true) (h2 : PVW X I (.BoolOp .And (b :: rest) pos) δ k) : PVW X I (.BoolOp .And (a :: b :: rest) pos) δ k := fun W R P p => ew_and (h W R _ (h2 W R P p))
theorem pv_andF (h : PV X I a δ (.bl false)) : PV X I (.BoolOp .And (a :: b :: rest) pos) δ (.bl false) := pv_and h (fun z => nomatch z) fun _ => rfl
theorem pv_andT {z : D} (h : PV X I a δ (.bl true)) (h2 : PV X I (.BoolOp .And (b :: rest) pos) δ z) : PV X I (.BoolOp .And (a :: b :: rest) pos) δ z := pv_and h (fun _ => h2) fun z => nomatch z
theorem s_ifT (h : PVT X I c δ true) (h1 : SX X W sts δ I κ) : S1 X W (.If c sts els pos) δ I κ := s_ifP h (fun _ => h1) fun z => nomatch z
theorem s_ifF (h : PVT X I c δ false) (h1 : SX X W els δ I κ) : S1 X W (.If c sts els pos) δ I κ := s_ifP h (fun z => nomatch z) fun _ => h1
end
end DL
set_option Elab.async false
set_option linter.all false
set_option maxRecDepth 100000
set_option maxHeartbeats 4000000
namespace DL
open PySem PySem.Spec PyProof.Rows L2

theorem oeB_ok {K : PySem.W.Frag} {C : Addr} (h : oeB K C = true) : OexC K C := by
  unfold oeB at h
  obtain ⟨h, h5⟩ := Bool.and_eq_true_iff.mp h
  obtain ⟨h, h4⟩ := Bool.and_eq_true_iff.mp h
  obtain ⟨h, h3⟩ := Bool.and_eq_true_iff.mp h
  obtain ⟨h1, h2⟩ := Bool.and_eq_true_iff.mp h
  refine ⟨?_, He.eqO_ok h2, of_decide_eq_true h3, of_decide_eq_true h4, h5⟩
  split at h1
  · rename_i dd cd sl e
    split at h1
    · rename_i C' bm k0 k1 k2 k3 n k5 em es
      simp only [Bool.and_eq_true, beq_iff_eq, Bool.not_eq_true'] at h1
      obtain ⟨⟨⟨⟨e1, e2⟩, e3⟩, e4⟩, e5⟩ := h1
      obtain ⟨nm, bs, mro, ns, qn, hd, sn, sb, ab, col, del⟩ := cd
      dsimp only at em e3 e4
      subst e1 e2 e3 e4 em
      have esl : sl = #[k0, k1, k2, k3, some (.builtin "ValueError.__new__"), k5] := by
        apply Array.ext'
        rw [es]
      subst esl
      exact ⟨_, _, _, _, bm, _, _, _, _, _, _, _, _, _, _, e, e5⟩
    · cases h1
  · cases h1
theorem scB_ok {K : PySem.W.Frag} {C : Addr} (h : scB K C = true) : SlX.SCls K C := by
  obtain ⟨h, h4⟩ := Bool.and_eq_true_iff.mp h
  obtain ⟨h, h3⟩ := Bool.and_eq_true_iff.mp h
  obtain ⟨h1, h2⟩ := Bool.and_eq_true_iff.mp h
  exact ⟨h1, h2, h3, He.eqO_ok h4⟩
theorem slB_ok {K : PySem.W.Frag} {C : Addr} {f : Str} {i : Nat} (h : slB K C f i = true) : SlX.Slot1 K C f (He.ma K C f) i := by
  obtain ⟨h, h6⟩ := Bool.and_eq_true_iff.mp h
  obtain ⟨h, h5⟩ := Bool.and_eq_true_iff.mp h
  obtain ⟨h, h4⟩ := Bool.and_eq_true_iff.mp h
  obtain ⟨h, h3⟩ := Bool.and_eq_true_iff.mp h
  obtain ⟨h1, h2⟩ := Bool.and_eq_true_iff.mp h
  exact ⟨He.eqO_ok h1, He.eqO_ok h2, of_decide_eq_true h3, of_decide_eq_true h4, of_decide_eq_true h5, of_decide_eq_true h6⟩
structure TExc (K : PySem.W.Frag) (mg : Str → Option Value) (x : Str) : Prop where
  g : mg x = some (.ref (He.ga K x))
  oe : OexC K (He.ga K x)
  iC : PySem.W.findIn K (.ref (He.ga K x)) "__init__" = some (some (.ref (He.ma K (He.ga K x) "__init__")))
  tI : PySem.W.typeIn K (.ref (He.ma K (He.ga K x) "__init__")) = some (.type "function")
theorem exB_ok {K : PySem.W.Frag} {h : Heap} {mg : Str → Option Value} (X : K.In h) (G : h.Ns mainGlobals mg) {x : Str} (q : exB K x = true) : TExc K mg x := by
  obtain ⟨q, h4⟩ := Bool.and_eq_true_iff.mp q
  obtain ⟨q, h3⟩ := Bool.and_eq_true_iff.mp q
  obtain ⟨h1, h2⟩ := Bool.and_eq_true_iff.mp q
  exact ⟨PySem.W.mg_of X G (He.eqO_ok h1), oeB_ok h2, He.eqO_ok h3, of_decide_eq_true h4⟩
theorem gtup_of {K : PySem.W.Frag} {h : Heap} {mg : Str → Option Value} (X : K.In h) (G : h.Ns mainGlobals mg) {x : Str} {ds : List D} {vs : List He.Dv} (q : He.tupB K x vs = true) (g : He.eqO (PySem.W.nsIn K mainGlobals x) (some (some (.ref (He.ga K x)))) = true) (e : flatDs ds = some (vs.map (He.Dv.v K))) : GTup K mg x ds :=
  ⟨_, _, PySem.W.mg_of X G (He.eqO_ok g), e, fun H => He.tupB_ok q H⟩
theorem flatDs_str : ∀ ws : List Str, flatDs (ws.map D.str) = some (ws.map V.str)
  | [] => rfl
  | w :: ws => by
    have ih := flatDs_str ws
    show (match flatD (D.str w), flatDs (ws.map D.str) with | some v, some vs => some (v :: vs) | _, _ => none) = _
    rw [ih]
    rfl
theorem inV_str (s : Str) : ∀ ws : List Str, inV (.str s) (ws.map V.str) = decide (s ∈ ws)
  | [] => by simp [inV]
  | w :: ws => by
    have ih := inV_str s ws
    unfold inV at ih ⊢
    rw [List.map_cons, List.any_cons, ih]
    show (w == s || decide (s ∈ ws)) = decide (s ∈ w :: ws)
    by_cases h : w = s
    · subst h; simp
    · have h2 : ¬ s = w := fun e => h e.symm
      simp [h, h2]
theorem allflat_str (ws : List Str) : (ws.map V.str).all flatV = true := by
  rw [List.all_map]
  exact List.all_eq_true.mpr fun _ _ => rfl
theorem p2_inStr {K : PySem.W.Frag} {I : Iv K} {s : Str} {ws : List Str} : P2 K I (rIn K false) (.str s) (.tup (ws.map D.str)) (.bl (decide (s ∈ ws))) :=
  p2_in rfl (flatDs_str ws) rfl (allflat_str ws) (by rw [if_neg Bool.false_ne_true]; exact inV_str s ws) (.inr rfl)
theorem p2_ninStr {K : PySem.W.Frag} {I : Iv K} {s : Str} {ws : List Str} : P2 K I (rIn K true) (.str s) (.tup (ws.map D.str)) (.bl (!decide (s ∈ ws))) :=
  p2_in rfl (flatDs_str ws) rfl (allflat_str ws) (by rw [if_pos rfl, inV_str s ws]) (.inr rfl)
theorem p2_inStrL {K : PySem.W.Frag} {I : Iv K} {s : Str} {ws : List Str} : P2 K I (rIn K false) (.str s) (.lst (ws.map D.str)) (.bl (decide (s ∈ ws))) :=
  p2_in rfl (flatDs_str ws) rfl (allflat_str ws) (by rw [if_neg Bool.false_ne_true]; exact inV_str s ws) (.inl rfl)
theorem p2_ninStrL {K : PySem.W.Frag} {I : Iv K} {s : Str} {ws : List Str} : P2 K I (rIn K true) (.str s) (.lst (ws.map D.str)) (.bl (!decide (s ∈ ws))) :=
  p2_in rfl (flatDs_str ws) rfl (allflat_str ws) (by rw [if_pos rfl, inV_str s ws]) (.inl rfl)
end DL
namespace DL
open PySem PySem.Spec PyProof.Rows L2
structure Def (P : Program) (w : World) (K : PySem.W.Frag) (mg : Str → Option Value) (base : Heap) (x : Str) (k : Nat) (ps : List Str) (dds : List D) (S : Spec K) : Prop where
  ex : ∃ (f : Addr) (fd : FuncData) (dvs : List V) (us : List Value), mg x = some (.ref f) ∧ PySem.W.keepIn K (.ref f) = true ∧ FnOk P w K mg base (L2.CX P w) k f fd ps (spD K S) ∧ L2.Binds K fd ps us ∧ Vals dvs us ∧ ∀ G, Reps K G dds dvs
section
variable {P : Program} {w : World} {K : PySem.W.Frag} {mg : Str → Option Value} {base : Heap} {x qual : Str} {params : Arguments} {body : List Stmt} {scope : Scope} {f : Addr} {fd : FuncData} {ps : List Str} {k : Nat} {S : Spec K}
theorem Def.of (g : mg x = some (.ref f)) (F : FunD K x qual params body scope [] [] f fd) (ok : FnOk P w K mg base (L2.CX P w) k f fd ps (spD K S))
    (h : ∀ (kV doc pm : Value) (an : Option Addr) (cdv ct : Value) (us : List Value), us.length = ps.length → bindArgs (PySem.W.fnOf x qual params body scope .none kV doc pm an cdv ct) ⟨us, []⟩ = pure (ps.zip us)) : Def P w K mg base x k ps [] S :=
  ⟨f, fd, [], [], g, F.kp, ok, F.bindsN h, .nil, fun _ => rfl⟩
end
section
variable {X : Cx} {W : WX} {R : Rx X.K} {e : Expr} {es : List Expr} {δ : DEnv} {I : Iv X.K} {P : D → Iv X.K → Prop} {pos p : Pos} {x : Str} {ps : List Str} {k : Nat} {S : Spec X.K} {dds : List D} {ds : List D} {d : D}
theorem ev_def (tk : Takes X W) (F : Def X.prog X.w X.K X.mg X.base x k ps dds S) (hr : Room k X.A) (h : EvA X W R (e :: es) δ I fun ds I1 => S I1 (ds ++ dds) P R) (hg : Gl X x := by rfl) (hdb : (x == ("__debug__" : Str)) = false := by decide)
    (he : starEach (e :: es) X.env = (false, eval e X.env) :: starEach es X.env := by rfl) (hpl : (backTo pos (starEach es X.env)).any (·.1) = false := by rfl) : EvX X W R (.Call (.Name x p) (e :: es) [] pos) δ I P := by
  obtain ⟨f, fd, dvs, us, g, kp, ok, b, v, r⟩ := F.ex
  exact ev_callD tk ok hr g kp b v r h hg hdb he hpl
theorem pv_def (F : Def X.prog X.w X.K X.mg X.base x k ps dds S) (hr : Room k X.A) (ha : PVA X I (e :: es) δ ds) (hS : ∀ (P : D → Iv X.K → Prop), P d I → S I (ds ++ dds) P (fun _ _ _ => False)) (hg : Gl X x := by rfl) (hdb : (x == ("__debug__" : Str)) = false := by decide)
    (he : starEach (e :: es) X.env = (false, eval e X.env) :: starEach es X.env := by rfl) (hpl : (backTo pos (starEach es X.env)).any (·.1) = false := by rfl) : PV X I (.Call (.Name x p) (e :: es) [] pos) δ d := by
  obtain ⟨f, fd, dvs, us, g, kp, ok, b, v, r⟩ := F.ex
  exact pv_callD ok hr g kp b v r ha hS hg hdb he hpl
end
end DL
namespace DL
open PySem PySem.Spec PyProof.Rows L2
section
variable {X : Cx} {W : WX} {R : Rx X.K} {e : Expr} {es : List Expr} {δ : DEnv} {I : Iv X.K} {P : D → Iv X.K → Prop} {d : D} {ds : List D}
theorem PV.ev (h : PV X I e δ d) (p : P d I) : EvX X W R e δ I P := h W R P p
theorem PVA.ev {P : List D → Iv X.K → Prop} (h : PVA X I es δ ds) (p : P ds I) : EvA X W R es δ I P := h W R P p
theorem PVT.ev {P : Bool → Iv X.K → Prop} {b : Bool} (h : PVT X I e δ b) (p : P b I) : EvT X W R e δ I P := h W R P p
end
end DL
namespace DL
open PySem PySem.Spec PyProof.Rows L2
section
variable {X : Cx} {W : WX} {R : Rx X.K} {e : Expr} {es : List Expr} {δ : DEnv} {I : Iv X.K} {P : D → Iv X.K → Prop} {d : D} {ds : List D}
theorem ev_reg (h : EvX X W R e δ I fun d I' => ∃ I'', Sub I' I'' ∧ P d I'') : EvX X W R e δ I P := EvX.reg h fun _ _ z => z
theorem iDr_of2 {K : PySem.W.Frag} {J : Iv K} {a b : Addr} {s k m : Int} {ns : List Int} (hl : ns.length ≤ 63) : Sub ((J.and (iLst K b (ns.map D.int))).and (iLst K a [.int s, .adr b, .int k, .int m])) (J.and (iDr K a b)) :=
  Sub.assoc.trans (Sub.andR (Sub.comm.trans (iDr_of hl)))
end
end DL
set_option Elab.async false
set_option linter.all false
set_option maxRecDepth 100000
set_option maxHeartbeats 4000000
namespace DL
open PySem PySem.Spec PyProof.Rows L2

theorem str_ext {s t : Str} (h : s.cps.toList = t.cps.toList) : s = t := by
  obtain ⟨a⟩ := s
  obtain ⟨b⟩ := t
  exact congrArg Str.mk (Array.ext' h)
theorem str_app (s t : Str) : (s ++ t).cps.toList = s.cps.toList ++ t.cps.toList := by
  show (s.cps ++ t.cps).toList = _
  simp
theorem str_len (s : Str) : s.length = s.cps.toList.length := by
  show s.cps.size = _
  simp
def one (c : Nat) : Str := ⟨#[c]⟩
theorem join_ones (e : Str) (he : e.cps.toList = []) : ∀ cs : List Nat, Txt.join e (cs.map one) = ⟨cs.toArray⟩ := by
  intro cs
  rw [TL.join_eq]
  induction cs with
  | nil => rfl
  | cons c cs ih =>
    cases cs with
    | nil => rfl
    | cons d ds =>
      have e1 : Str.join e ((c :: d :: ds).map one) = one c ++ e ++ Str.join e ((d :: ds).map one) := by
        first
          | rfl
          | (simp only [List.map_cons, Str.join]; rfl)
      rw [e1, ih]
      apply str_ext
      rw [str_app, str_app, he]
      show [c] ++ [] ++ _ = _
      simp
section
variable {X : Cx} {W : WX} {R : Rx X.K} {e e0 e1 : Expr} {es : List Expr} {δ : DEnv} {I : Iv X.K} {P : D → Iv X.K → Prop} {d : D} {ds : List D} {pos p : Pos} {a b : Addr} {n k : Int} {K : PySem.W.Frag}
theorem o2_ixL {K : PySem.W.Frag} {I : Iv K} {P : D → Iv K → Prop} {ds : List D} {k : Int} (h0 : 0 ≤ k) (h1 : k < ds.length) (hp : ∀ d ∈ ds, P d I) : Op2 K (rIxL K) (.lst ds) (.int k) I P := by
  obtain ⟨j, rfl⟩ : ∃ j : Nat, k = j := ⟨k.toNat, by omega⟩
  have hj : j < ds.length := by omega
  exact p2_ixL (d := ds[j]) (by unfold atI ixN; rw [if_pos h0, if_pos h1]; simp [hj]) P (hp _ (List.getElem_mem hj))
theorem ev_next {x : Str} (tk : Takes X W) (F : Def X.prog X.w X.K X.mg X.base x 1 ["_law_h", "_law_bound"] [] sNext) (hr : Room 1 X.A) (c : Rc X.K) (h0 : PV X I e0 δ (.adr a)) (h1 : EvX X W R e1 δ I fun d I1 => ∃ n, d = .int n ∧ I1 = I ∧ 0 < n ∧ n < 1000000000 ∧ ∀ k : Int, 0 ≤ k → k < n → P (.int k) I) (eI : I = c.fill (iDr X.K a b))
    (hg : Gl X x := by rfl) (hdb : (x == ("__debug__" : Str)) = false := by decide)
    (he : starEach [e0, e1] X.env = (false, eval e0 X.env) :: starEach [e1] X.env := by rfl) (he2 : starEach [e1] X.env = (false, eval e1 X.env) :: starEach [] X.env := by rfl) (hpl : (backTo pos (starEach [e1] X.env)).any (·.1) = false := by rfl) : EvX X W R (.Call (.Name x p) [e0, e1] [] pos) δ I P :=
  ev_def tk F hr (ea_cons (h0.ev (ea_cons (h1.imp fun d I1 ⟨n, ed, ei, n0, n1, k⟩ => by
    subst ed
    rw [ei]
    exact ea_nil ⟨a, b, c, n, rfl, eI, n0, n1, k⟩) he2)) he) hg hdb he hpl
theorem ev_nextP {x : Str} (tk : Takes X W) (F : Def X.prog X.w X.K X.mg X.base x 1 ["_law_h", "_law_bound"] [] sNext) (hr : Room 1 X.A) (c : Rc X.K) (h0 : PV X I e0 δ (.adr a)) (h1 : PV X I e1 δ (.int n)) (eI : I = c.fill (iDr X.K a b)) (hn : 0 < n ∧ n < 1000000000) (k : ∀ k : Int, 0 ≤ k → k < n → P (.int k) I)
    (hg : Gl X x := by rfl) (hdb : (x == ("__debug__" : Str)) = false := by decide)
    (he : starEach [e0, e1] X.env = (false, eval e0 X.env) :: starEach [e1] X.env := by rfl) (he2 : starEach [e1] X.env = (false, eval e1 X.env) :: starEach [] X.env := by rfl) (hpl : (backTo pos (starEach [e1] X.env)).any (·.1) = false := by rfl) : EvX X W R (.Call (.Name x p) [e0, e1] [] pos) δ I P :=
  ev_next tk F hr c h0 (h1.ev ⟨n, rfl, rfl, hn.1, hn.2, k⟩) eI hg hdb he he2 hpl
end
end DL
set_option Elab.async false
set_option linter.all false
set_option maxRecDepth 100000
set_option maxHeartbeats 4000000
namespace DL
open PySem PySem.Spec PyProof.Rows L2
section
variable {X : Cx} {W : WX} {R : Rx X.K} {st : Stmt} {rest sts els : List Stmt} {δ : DEnv} {I : Iv X.K} {κ : Ko X.K} {c a b : Expr} {pos : Pos} {PB : Bool → Iv X.K → Prop}
theorem s_consI (Nv : DEnv → Iv X.K → Prop) (h : S1 X W st δ I { κ with nx := Nv }) (k : ∀ δ' I', Nv δ' I' → SX X W rest δ' I' κ) : SX X W (st :: rest) δ I κ :=
  s_cons (S1.imp h (fun δ' I' p => k δ' I' p) (fun _ _ z => z) (fun _ _ z => z) (fun _ _ z => z) (fun _ _ _ _ z => z))
end
structure TXf (K : PySem.W.Frag) (C : Addr) : Prop where
  xf : XfC K C
  xc : ExcC K C
end DL
set_option Elab.async false
set_option linter.all false
set_option maxRecDepth 100000
set_option maxHeartbeats 4000000
namespace DL
open PySem PySem.Spec PyProof.Rows L2
section
variable {X : Cx} {W : WX} {R : Rx X.K} {e e0 e1 l : Expr} {es : List Expr} {δ : DEnv} {I : Iv X.K} {P : D → Iv X.K → Prop} {PB : Bool → Iv X.K → Prop} {d : D} {ds : List D} {pos p ps : Pos} {a b : Addr} {n k m : Int} {x : Str} {c : Rc X.K} {κ : Ko X.K} {sts els : List Stmt}
theorem ev_pick (tk : Takes X W) (F : Def X.prog X.w X.K X.mg X.base x 1 ["_law_h", "_law_bound"] [] sNext) (hr : Room 1 X.A) (c : Rc X.K) (hl : PV X I l δ (.lst ds)) (h0 : PV X I e0 δ (.adr a)) (h1 : EvX X W R e1 δ I fun d I1 => ∃ n : Int, d = .int n ∧ I1 = I ∧ 0 < n ∧ n < 1000000000 ∧ n ≤ ds.length) (eI : I = c.fill (iDr X.K a b)) (k : ∀ d ∈ ds, P d I)
    (hg : Gl X x := by rfl) (hdb : (x == ("__debug__" : Str)) = false := by decide)
    (he : starEach [e0, e1] X.env = (false, eval e0 X.env) :: starEach [e1] X.env := by rfl) (he2 : starEach [e1] X.env = (false, eval e1 X.env) :: starEach [] X.env := by rfl) (hpl : (backTo pos (starEach [e1] X.env)).any (·.1) = false := by rfl) (hs : PlainIx (.Call (.Name x p) [e0, e1] [] pos) := by exact fun _ _ => rfl) : EvX X W R (.Subscript l (.Call (.Name x p) [e0, e1] [] pos) ps) δ I P :=
  ev_ix ix_list (hl.ev (ev_next tk F hr c h0 (h1.imp fun d I1 ⟨n, ed, ei, n0, n1, n2⟩ => ⟨n, ed, ei, n0, n1, fun k' k0 k1 => o2_ixL k0 (by omega) k⟩) eI hg hdb he he2 hpl)) hs
end
end DL
set_option Elab.async false
set_option linter.all false
set_option maxRecDepth 100000
set_option maxHeartbeats 4000000
namespace DL
open PySem PySem.Spec PyProof.Rows L2
def sLaw {K : PySem.W.Frag} : Spec K := fun I ds P R => ∃ ns : List Int, ds = [.lsf (ns.map D.int)] ∧ ns.length ≤ 63 ∧ ∀ I', P (.bl true) I'
theorem repsInt {K : PySem.W.Frag} {G : Hp} : ∀ ns : List Int, Reps K G (ns.map D.int) (ns.map V.int)
  | [] => rfl
  | n :: ns => ⟨.int n, ns.map V.int, rfl, rfl, repsInt ns⟩
theorem sp_law {K : PySem.W.Frag} {H : Hp} {a : Addr} {ns : List Int} (hl : ns.length ≤ 63) (hS : SqL K H a (ns.map V.int)) : spD K sLaw [.ref a] H (fun v _ => v = .bl true) (fun _ _ _ => False) :=
  ⟨iEmp K, H, [.lsf (ns.map D.int)], fun d _ => d = .bl true, fun _ _ _ => False, Same.refl H, Hd.emp, ⟨.ref a, [], rfl, ⟨a, _, rfl, hS, repsInt ns⟩, rfl⟩, ⟨ns, rfl, hl, fun _ => rfl⟩, fun v d _ _ _ _ _ _ r e => by subst e; exact r, fun _ _ _ _ _ _ _ _ _ _ _ _ z => z⟩
theorem cx0 {P : Program} {w : World} {H : Hp} {s s' : Shared} {e : Value} (z : L2.CX P w [] H s (fun _ _ _ => False) e s') : False := by
  obtain ⟨_, _, _, _, _, _, _, _, _, _, _, _, h⟩ := z
  exact h
section
variable {X : Cx} {W : WX} {st : Stmt} {rest : List Stmt} {κ : Ko X.K}
end
end DL
set_option Elab.async false
set_option linter.all false
set_option maxRecDepth 100000
set_option maxHeartbeats 1000000
namespace DL
open PySem PySem.Spec PyProof.Rows L2

mutual
def pyD : D → PyData
  | .bl b => .bool b
  | .int i => .int i
  | .str s => .str s
  | .tup ds => .tuple (pyDs ds)
  | .lst ds => .list (pyDs ds)
  | .lsf ds => .list (pyDs ds)
  | _ => .none
def pyDs : List D → List PyData
  | [] => []
  | d :: ds => pyD d :: pyDs ds
end
mutual
def okPy : D → Bool
  | .non => true
  | .bl _ => true
  | .int _ => true
  | .str _ => true
  | .tup ds => okPys ds
  | .lst ds => okPys ds
  | .lsf ds => okPys ds
  | _ => false
def okPys : List D → Bool
  | [] => true
  | d :: ds => okPy d && okPys ds
end
mutual
theorem dp_of {K : PySem.W.Frag} {G H : Hp} (s : Same G H) : ∀ {d : D} {v : V}, okPy d = true → Rep K G d v → Dp K H v (pyD d)
  | .non, _, _, r => by rw [show _ = V.non from r]; exact .non
  | .bl b, _, _, r => by rw [show _ = V.bl b from r]; exact .bl b
  | .int i, _, _, r => by rw [show _ = V.int i from r]; exact .int i
  | .str x, _, _, r => by rw [show _ = V.str x from r]; exact .str x
  | .tup ds, _, h, ⟨a, vs, e1, e2, e3⟩ => by rw [e1]; exact .tup (sqT_mono s e2) (dps_of s h e3)
  | .lst ds, _, h, ⟨a, vs, e1, e2, e3⟩ => by rw [e1]; exact .lst (SqL.of (s _ _ e2)) (dps_of s h e3)
  | .lsf ds, _, h, ⟨a, vs, e1, e2, e3⟩ => by rw [e1]; exact .lst (sqL_mono s e2) (dps_of s h e3)
  | .ty _, _, h, _ => by cases h
  | .adr _, _, h, _ => by cases h
  | .slo _ _, _, h, _ => by cases h
  | .exc _ _ _ _ _, _, h, _ => by cases h
  | .dic _ _, _, h, _ => by cases h
  | .tub _, _, h, _ => by cases h
theorem dps_of {K : PySem.W.Frag} {G H : Hp} (s : Same G H) : ∀ {ds : List D} {vs : List V}, okPys ds = true → Reps K G ds vs → DpAll K H vs (pyDs ds)
  | [], _, _, r => by rw [show _ = [] from r]; exact .nil
  | d :: ds, _, h, ⟨v, r, e1, e2, e3⟩ => by
    have h2 : (okPy d && okPys ds) = true := h
    obtain ⟨ha, hb⟩ := Bool.and_eq_true_iff.mp h2
    rw [e1]
    exact .cons (dp_of s ha e2) (dps_of s hb e3)
end
def okEq (d : D) : Bool := okPy d && SeqAt.shaped (pyD d)
section
variable {K : PySem.W.Frag} {I : Iv K} {x y z d : D}
theorem p2_eqD (hx : okEq x = true) (hy : okEq y = true) : P2 K I (rEqD K) x y (.bl (PyData.eqv (pyD x) (pyD y))) := fun P p G H v w Q s hI r1 r2 q => by
  obtain ⟨a1, a2⟩ := Bool.and_eq_true_iff.mp hx
  obtain ⟨b1, b2⟩ := Bool.and_eq_true_iff.mp hy
  exact ⟨_, _, dp_of s a1 r1, dp_of s b1 r2, a2, b2, q _ (.bl _) G H I (Same.refl G) s hI rfl p⟩
theorem p2_neD (hx : okEq x = true) (hy : okEq y = true) : P2 K I (rNeD K) x y (.bl (!PyData.eqv (pyD x) (pyD y))) := fun P p G H v w Q s hI r1 r2 q => by
  obtain ⟨a1, a2⟩ := Bool.and_eq_true_iff.mp hx
  obtain ⟨b1, b2⟩ := Bool.and_eq_true_iff.mp hy
  exact ⟨_, _, dp_of s a1 r1, dp_of s b1 r2, a2, b2, q _ (.bl _) G H I (Same.refl G) s hI rfl p⟩
end
structure PropC (K : PySem.W.Frag) (C : Addr) (f : Str) (p g : Addr) : Prop where
  at_ : PySem.W.findIn K (.ref C) f = some (some (.ref p))
  get : PySem.W.specialIn K (.ref p) "__get__" = some (some (.builtin "property.__get__"))
  tk : PySem.W.takesIn K (.ref p) = some true
  rc : ∃ rest, PySem.W.recIn K p "property" = some (.ref g :: rest)
theorem prB_ok {K : PySem.W.Frag} {C : Addr} {f : Str} (h : prB K C f = true) : PropC K C f (He.ma K C f) (gtr K C f) := by
  obtain ⟨h, h4⟩ := Bool.and_eq_true_iff.mp h
  obtain ⟨h, h3⟩ := Bool.and_eq_true_iff.mp h
  obtain ⟨h1, h2⟩ := Bool.and_eq_true_iff.mp h
  refine ⟨He.eqO_ok h1, He.eqO_ok h2, of_decide_eq_true h3, ?_⟩
  unfold gtr
  split at h4
  · rename_i g r e
    rw [e]
    exact ⟨r, rfl⟩
  · cases h4
theorem siB_ok {K : PySem.W.Frag} {C : Addr} (h : siB K C = true) : SlX.SIsi K C := by
  obtain ⟨h, h4⟩ := Bool.and_eq_true_iff.mp h
  obtain ⟨h, h3⟩ := Bool.and_eq_true_iff.mp h
  obtain ⟨h1, h2⟩ := Bool.and_eq_true_iff.mp h
  exact ⟨He.eqO_ok h1, He.eqO_ok h2, of_decide_eq_true h3, of_decide_eq_true h4⟩
abbrev F0 {K : PySem.W.Frag} : Rx K := fun _ _ _ => False
theorem cxF {P : Program} {w : World} {outer : List Env} {H : Hp} {s s' : Shared} {e : Value} (z : L2.CX P w outer H s (fun _ _ _ => False) e s') : False := by
  obtain ⟨_, _, _, _, _, _, _, _, _, _, _, _, h⟩ := z
  exact h
theorem spD_of {K : PySem.W.Frag} {S : Spec K} {I : Iv K} {G H : Hp} {ds : List D} {vs : List V} {Q : VK} {P : D → Iv K → Prop} (s : Same G H) (h : Hd I G H) (r : Reps K G ds vs) (k : S I ds P F0) (q : Kv K Q G P) : spD K S vs H Q (fun _ _ _ => False) :=
  ⟨I, G, ds, P, F0, s, h, r, k, q, fun _ _ _ _ _ _ _ _ _ _ _ _ z => z⟩
section
variable {X : Cx} {W : WX} {R : Rx X.K} {I : Iv X.K} {e a b : Expr} {δ : DEnv} {pos : Pos} {C p g : Addr} {f : Str} {n : Nat} {S : Spec X.K} {fs : List D} {d d2 : D} {P : D → Iv X.K → Prop}
theorem pv_prop (c : SlX.SCls X.K C) (pr : PropC X.K C f p g) (F : FnR X.prog X.w X.K X.mg X.base (L2.CX X.prog X.w) n g (spD X.K S)) (hr : Room (n + 1) X.A) (he : PV X I e δ (.slo C fs)) (hS : ∀ P : D → Iv X.K → Prop, P d I → S I [.slo C fs] P F0)
    (hb : attributeBase e f X.env (eval e X.env) = eval e X.env := by rfl) : PV X I (.Attribute e f pos) δ d := fun W R P pp σ G H Q hE s hI qx q =>
  PE.wp (SlX.pe_propSl (E := fun _ _ _ => False) peC c pr.at_ pr.get pr.tk pr.rc F hr (fun _ _ _ _ z => cxF z) hb) (he W R (fun z I1 => z = .slo C fs ∧ I1 = I) ⟨rfl, rfl⟩ σ G H _ hE s hI qx fun v d1 G1 H1 I1 s1 t1 h1 r1 ⟨ed, ei⟩ => by
    subst ed ei
    obtain ⟨a, dx, vs, e1, e2, e3⟩ := r1
    exact ⟨a, dx, vs.map some, e1, slt_mono t1 e2, spD_of (ds := [.slo C fs]) t1 h1 ⟨.ref a, [], rfl, ⟨a, dx, vs, rfl, e2, e3⟩, rfl⟩ (hS P pp) (q.mono s1)⟩)
theorem p2_own {C' : Addr} {gs : List D} {z : D} (hn : PySem.W.notFirst X.K C (.ref C') = true) (hS : ∀ P : D → Iv X.K → Prop, P z I → S I [.slo C fs, .slo C' gs] P F0) : P2 X.K I (SlX.rOwn X.K C (spD X.K S) (fun _ _ _ => False)) (.slo C fs) (.slo C' gs) z := fun P pp G H v w Q s hI ⟨a, dx, ws, e2, e3, e4⟩ ⟨b, dy, us, k2, k3, k4⟩ q =>
  ⟨a, dx, ws.map some, b, C', dy, us.map some, e2, k2, slt_mono s e3, slt_mono s k3, hn, spD_of (ds := [.slo C fs, .slo C' gs]) s hI ⟨v, [w], rfl, ⟨a, dx, ws, e2, e3, e4⟩, w, [], rfl, ⟨b, dy, us, k2, k3, k4⟩, rfl⟩ (hS P pp) q⟩
theorem takesPF : Passes (L2.CX X.prog X.w) X (fun _ _ _ => False) := fun _ _ _ _ _ _ _ z => (cxF z).elim
end
section
variable {K : PySem.W.Frag} {I : Iv K} {C T : Addr} {fs : List D} {d : D} {b : Bool}
theorem pn_isiSl (c : SlX.SCls K C) (si : SlX.SIsi K C) (hk : PySem.W.kitOne K (.ref C) (.ref T) = some b) : PN K I (SlX.rIsiSl K (.ref T)) [.slo C fs, .adr T] (.bl b) := fun P p G H vs Q s hI ⟨v, r, e1, ⟨a, dx, ws, e2, e3, e4⟩, v2, r2, e5, e6, e7⟩ q =>
  ⟨a, C, dx, ws.map some, .ref T, b, by rw [e1, e2, e5, show v2 = .ref T from e6, show r2 = [] from e7], rfl, fun _ z => z, slt_mono s e3, c, si, hk, q _ (.bl b) G H I (Same.refl G) s hI rfl p⟩
theorem pn_isiO {t : String} (h : tyD d = some t) (hk : PySem.W.kitOne K (.type t) (.ref T) = some b) : PN K I (rIsi K) [d, .adr T] (.bl b) := fun P p G H vs Q s hI ⟨v, r, e1, e2, v2, r2, e3, e4, e5⟩ q =>
  ⟨v, .ref T, .type t, .ref T, b, by rw [e1, e3, show v2 = .ref T from e4, show r2 = [] from e5], .own T, tyX_of s e2 h, hk, q _ (.bl b) G H I (Same.refl G) s hI rfl p⟩
end
end DL
set_option Elab.async false
set_option linter.all false
set_option maxRecDepth 100000
set_option maxHeartbeats 4000000
namespace DL
open PySem PySem.Spec PyProof.Rows L2
theorem funP {K : PySem.W.Frag} {d : He.DefD} (e : fnP K d.at_ = d.val) (c : okP K d = true) : ∃ fd, FunD K d.name d.qual d.params d.body d.scope (d.dvs K) (d.kws K) (pAd K d.at_) fd := by
  obtain ⟨kp, c2⟩ := He.ba c
  unfold fnP at e
  cases q : K.lookup (pAd K d.at_) with
  | none =>
    rw [q] at c2
    cases c2
  | some o =>
    obtain ⟨oc, od, dt, osl⟩ := o
    rw [q] at c2 e
    cases dt with
    | func fd =>
      obtain ⟨n1, n2, n3, n4, n5, n6, n7, n8, n9, n10, n11, n12, n13, n14, n15⟩ := fd
      have e2 : (some (n1, n2, n3, n4, n5, n6, n7, n15) : He.FnW) = some (d.name, d.qual, d.params, .stmts d.body, d.scope, mainGlobals, [], builtinsNs) := e
      simp only [Option.some.injEq, Prod.mk.injEq] at e2
      obtain ⟨h1, h2, h3, h4, h5, h6, h7, h8⟩ := e2
      subst h1 h2 h3 h4 h5 h6 h7 h8
      have c3 : (PySem.W.codeIn K n13 d.qual && (He.dflB K n8 (d.dvs K) && He.kwdB K n9 (d.kws K))) = true := c2
      obtain ⟨k1, k2⟩ := He.ba c3
      obtain ⟨k3, k4⟩ := He.ba k2
      exact ⟨_, ⟨oc, od, n8, n9, n10, n11, n12, n13, n14, osl, rfl, q, k1, He.dflB_ok k3, He.kwdB_ok k4⟩, kp⟩
    | _ => cases c2
section
variable {fn gs : List He.DefD} {ex : PySem.W.Frag → Bool} {w : World} {h : Heap} {K : PySem.W.Frag}
theorem SaysP.more (c : SaysP fn gs ex w h K) : ex K = true := (He.ba c.x.more).1
theorem SaysP.def_ (c : SaysP fn gs ex w h K) (i : Nat) {d : He.DefD} (h : fn[i]? = some d := by rfl) : ∃ fd, FunD K d.name d.qual d.params d.body d.scope (d.dvs K) (d.kws K) (He.fAd K d.at_) fd := c.x.t.d.def_ i h
theorem SaysP.get_ (c : SaysP fn gs ex w h K) (i : Nat) {d : He.DefD} (hd : gs[i]? = some d := by rfl) : ∃ fd, FunD K d.name d.qual d.params d.body d.scope (d.dvs K) (d.kws K) (pAd K d.at_) fd := by
  have c2 := (He.ba c.x.more).2
  have e2 : (gs.map fun d => fnP K d.at_)[i]? = (gs.map He.DefD.val)[i]? := by rw [c.g]
  rw [List.getElem?_map, List.getElem?_map, hd] at e2
  exact funP (Option.some.inj e2) (List.all_eq_true.mp c2 d (List.mem_of_getElem? hd))
end
end DL
set_option Elab.async false
set_option linter.all false
set_option maxRecDepth 100000
set_option maxHeartbeats 1000000
namespace DL
open PySem PySem.Spec PyProof.Rows L2
def KR (K : PySem.W.Frag) (G : Hp) : List (Key × D) → List (Key × V) → Prop
  | [], l => l = []
  | p :: ps, l => ∃ v r, l = (p.1, v) :: r ∧ Rep K G p.2 v ∧ KR K G ps r
def putG {α : Type} (kvs : List (Key × α)) (k : Key) (v : α) : List (Key × α) := if (kvs.any fun kv => decide (kv.1 = k)) = true then kvs.map (fun kv => if kv.1 = k then (kv.1, v) else kv) else kvs ++ [(k, v)]
def getG {α : Type} (kvs : List (Key × α)) (k : Key) : Option α := (kvs.find? fun kv => decide (kv.1 = k)).map (·.2)
def dicD (kds : List (Key × D)) : D := .dic (kds.map (·.1)) (kds.map (·.2))
section
variable {K : PySem.W.Frag} {G G' H : Hp}
theorem KR.mono (s : Same G G') : ∀ {kds : List (Key × D)} {kvs : List (Key × V)}, KR K G kds kvs → KR K G' kds kvs
  | [], _, h => h
  | _ :: _, _, ⟨v, r, e, r1, r2⟩ => ⟨v, r, e, r1.mono s, KR.mono s r2⟩
theorem KR.length : ∀ {kds : List (Key × D)} {kvs : List (Key × V)}, KR K G kds kvs → kvs.length = kds.length
  | [], _, h => by rw [show _ = [] from h]; rfl
  | _ :: _, _, ⟨v, r, e, r1, r2⟩ => by rw [e, List.length_cons, List.length_cons, KR.length r2]
theorem KR.keys : ∀ {kds : List (Key × D)} {kvs : List (Key × V)}, KR K G kds kvs → kvs.map (·.1) = kds.map (·.1)
  | [], _, h => by rw [show _ = [] from h]; rfl
  | _ :: _, _, ⟨v, r, e, r1, r2⟩ => by rw [e, List.map_cons, List.map_cons, KR.keys r2]
theorem KR.vals : ∀ {kds : List (Key × D)} {kvs : List (Key × V)}, KR K G kds kvs → Reps K G (kds.map (·.2)) (kvs.map (·.2))
  | [], _, h => by rw [show _ = [] from h]; exact rfl
  | _ :: _, _, ⟨v, r, e, r1, r2⟩ => by rw [e]; exact ⟨v, _, rfl, r1, KR.vals r2⟩
theorem KR.any (k : Key) : ∀ {kds : List (Key × D)} {kvs : List (Key × V)}, KR K G kds kvs → (kvs.any fun kv => decide (kv.1 = k)) = (kds.any fun kv => decide (kv.1 = k))
  | [], _, h => by rw [show _ = [] from h]; rfl
  | _ :: _, _, ⟨v, r, e, r1, r2⟩ => by rw [e, List.any_cons, List.any_cons, KR.any k r2]
theorem KR.snoc {k : Key} {d : D} {v : V} (rv : Rep K G d v) : ∀ {kds : List (Key × D)} {kvs : List (Key × V)}, KR K G kds kvs → KR K G (kds ++ [(k, d)]) (kvs ++ [(k, v)])
  | [], _, h => by rw [show _ = [] from h]; exact ⟨v, [], rfl, rv, rfl⟩
  | _ :: _, _, ⟨v', r, e, r1, r2⟩ => by rw [e]; exact ⟨v', r ++ [(k, v)], rfl, r1, KR.snoc rv r2⟩
theorem KR.over {k : Key} {d : D} {v : V} (rv : Rep K G d v) : ∀ {kds : List (Key × D)} {kvs : List (Key × V)}, KR K G kds kvs → KR K G (kds.map fun kv => if kv.1 = k then (kv.1, d) else kv) (kvs.map fun kv => if kv.1 = k then (kv.1, v) else kv)
  | [], _, h => by rw [show _ = [] from h]; exact rfl
  | p :: _, _, ⟨v', r, e, r1, r2⟩ => by
    rw [e, List.map_cons, List.map_cons]
    by_cases h : p.1 = k
    · rw [if_pos h, if_pos h]
      exact ⟨v, _, rfl, rv, KR.over rv r2⟩
    · rw [if_neg h, if_neg h]
      exact ⟨v', _, rfl, r1, KR.over rv r2⟩
theorem KR.put {k : Key} {d : D} {v : V} {kds : List (Key × D)} {kvs : List (Key × V)} (h : KR K G kds kvs) (rv : Rep K G d v) : KR K G (putG kds k d) (L2.putK kvs k v) := by
  unfold putG L2.putK
  rw [h.any k]
  split
  · exact h.over rv
  · exact h.snoc rv
theorem KR.get {k : Key} : ∀ {kds : List (Key × D)} {kvs : List (Key × V)}, KR K G kds kvs → (∀ d, getG kds k = some d → ∃ v, L2.valV kvs k = some v ∧ Rep K G d v) ∧ (getG kds k = none → L2.valV kvs k = none)
  | [], _, h => by rw [show _ = [] from h]; exact ⟨(fun d z => nomatch z), (fun _ => rfl)⟩
  | p :: ps, _, ⟨v', r, e, r1, r2⟩ => by
    rw [e]
    by_cases h : p.1 = k
    · have h' : decide (p.1 = k) = true := decide_eq_true h
      refine ⟨fun d z => ?_, fun z => ?_⟩
      · have e2 : p.2 = d := by simpa [getG, List.find?, h'] using z
        exact ⟨v', by simp [L2.valV, List.find?, h'], e2 ▸ r1⟩
      · simp [getG, List.find?, h'] at z
    · have h' : decide (p.1 = k) = false := decide_eq_false h
      have q := KR.get (k := k) r2
      refine ⟨fun d z => ?_, fun z => ?_⟩
      · have z2 : getG ps k = some d := by simpa [getG, List.find?, h'] using z
        obtain ⟨v, e1, e2⟩ := q.1 d z2
        exact ⟨v, by simpa [L2.valV, List.find?, h'] using e1, e2⟩
      · have z2 : getG ps k = none := by simpa [getG, List.find?, h'] using z
        simpa [L2.valV, List.find?, h'] using q.2 z2
theorem zip_pairs {α : Type} : ∀ l : List (Key × α), (l.map (·.1)).zip (l.map (·.2)) = l
  | [] => rfl
  | p :: l => by simp [zip_pairs l]
theorem KR.of_zip : ∀ {ks : List Key} {ds : List D} {vs : List V}, ks.length = ds.length → Reps K G ds vs → KR K G (ks.zip ds) (ks.zip vs)
  | [], [], _, _, _ => rfl
  | k :: ks, d :: ds, _, h, ⟨v, r, e, r1, r2⟩ => by rw [e]; exact ⟨v, ks.zip r, rfl, r1, KR.of_zip (by simpa using h) r2⟩
theorem rep_dicD {kds : List (Key × D)} {v : V} : Rep K G (dicD kds) v ↔ ∃ a od kvs, v = .ref a ∧ G a = some (.frz od (.dK kvs)) ∧ KR K G kds kvs := by
  constructor
  · rintro ⟨a, od, vs, e1, e2, e3, e4⟩
    refine ⟨a, od, _, e1, e2, ?_⟩
    have q := KR.of_zip e3 e4
    rw [zip_pairs] at q
    exact q
  · rintro ⟨a, od, kvs, e1, e2, e3⟩
    refine ⟨a, od, kvs.map (·.2), e1, ?_, by simp, e3.vals⟩
    rw [e2, ← e3.keys, zip_pairs]
end
def iDic (K : PySem.W.Frag) (p : Addr) (kds : List (Key × D)) : Iv K := iObj K p (fun G o => ∃ kvs, o = .dK kvs ∧ KR K G kds kvs) fun _ _ _ s ⟨kvs, h1, h2⟩ => ⟨kvs, h1, h2.mono s⟩
def keyD : D → Option Key
  | .int i => some (.inl i)
  | .str s => some (.inr s)
  | _ => none
theorem rep_key {K : PySem.W.Frag} {G : Hp} {d : D} {k : Key} {v : V} (h : keyD d = some k) (r : Rep K G d v) : v = kV k := by
  cases d with
  | int i => cases h; exact r
  | str s => cases h; exact r
  | _ => cases h
section
variable {K : PySem.W.Frag} {G H : Hp} {p : Addr} {kds : List (Key × D)} {c : Rc K} {I : Iv K}
theorem Hd.dic (h : Hd (c.fill (iDic K p kds)) G H) : ∃ kvs, H p = some (.dK kvs) ∧ KR K G kds kvs ∧ G p = none := by
  have q := h.inner
  obtain ⟨o, ho, vs, ev, r⟩ := q.ph
  subst ev
  exact ⟨vs, ho, r, q.fr p rfl⟩
theorem Hd.dicSet {kds' : List (Key × D)} {kvs' : List (Key × V)} (h : Hd (c.fill (iDic K p kds)) G H) (r : KR K G kds' kvs') : Hd (c.fill (iDic K p kds')) G (upd H p (.dK kvs')) :=
  Hd.change (I := iDic K p kds) (I' := iDic K p kds') (fun _ => Iff.rfl) (fun a ha => upd_ne ha) ⟨⟨_, upd_same, kvs', rfl, r⟩, h.inner.fr⟩ h
theorem freeze_dic {od : Obj} {kvs : List (Key × V)} (s : Same G H) (h : Hd (I.and (iDic K p kds)) G H) (hp : H p = some (.dK kvs)) : ∃ G', Same G G' ∧ Same G' (upd H p (.frz od (.dK kvs))) ∧ Hd I G' (upd H p (.frz od (.dK kvs))) ∧ Rep K G' (dicD kds) (.ref p) := by
  obtain ⟨o, ho, vs, ev, rv⟩ := h.right.ph
  subst ev
  rw [hp] at ho
  cases ho
  have gp : G p = none := h.right.fr p rfl
  refine ⟨upd G p (.frz od (.dK kvs)), Evl.Ex.new gp, same_upd2 s, ⟨I.loc G _ H _ (Evl.Ex.new gp) (fun a ha => upd_ne fun e => h.apart a ⟨ha, e⟩) h.left.ph, fun a ha => ?_⟩, rep_dicD.mpr ⟨p, od, kvs, rfl, upd_same, rv.mono (Evl.Ex.new gp)⟩⟩
  rw [upd_ne fun e => h.apart a ⟨ha, e⟩]
  exact h.left.fr a ha
end
section
variable {X : Cx} {sts : List Stmt} {e : Expr} {σ : L2.St} {H : Hp} {E : Ends} {Q : VK} {d : Addr} {u : HO}
theorem wpB_lock (h : H d = some u) (mu : Mut (some u)) (k : ∀ od, wpB X sts E σ (upd H d (.frz od u))) : wpB X sts E σ H := ⟨fun pins s I => by
  obtain ⟨od, I1⟩ := I.lock h mu
  exact (k od).run pins s I1⟩
end
end DL
set_option Elab.async false
set_option linter.all false
set_option maxRecDepth 100000
set_option maxHeartbeats 1000000
namespace DL
open PySem PySem.Spec PyProof.Rows L2
section
variable {X : Cx} {W : WX} {R : Rx X.K} {a b e o i : Expr} {sts : List Stmt} {δ : DEnv} {I : Iv X.K} {P : D → Iv X.K → Prop} {pos ps p2 : Pos} {x : Str} {d y z : D} {p : Addr} {kds : List (Key × D)} {k : Key} {κ : Ko X.K} {n : Nat}
theorem wpE_lock {σ : L2.St} {H : Hp} {Q : VK} (h : wpE X e σ H fun v H' => ∃ d u, H' d = some u ∧ Mut (some u) ∧ ∀ od, Q v (upd H' d (.frz od u))) : wpE X e σ H Q := ⟨fun pins s I => by
  refine thn (h.run pins s I) fun u s' ⟨v, H', I1, r, d, u', hd, mu, q⟩ => ?_
  obtain ⟨od, I2⟩ := I1.lock hd mu
  exact ⟨v, _, I2, r, q od⟩⟩
theorem ev_freezeD (h : EvX X W R e δ I fun d I1 => ∃ p kds I2, d = .adr p ∧ I1 = I2.and (iDic X.K p kds) ∧ P (dicD kds) I2) : EvX X W R e δ I P := fun σ G H Q hE s hI qx q =>
  wpE_lock (h σ G H _ hE s hI qx fun v d G1 H1 I1 s1 t1 h1 r1 ⟨p, kds, I2, ed, ei, pp⟩ => by
    subst ed ei
    obtain ⟨kvs, hp, _, _⟩ := Hd.dic (c := .r I2 .here) h1
    refine ⟨p, .dK kvs, hp, trivial, fun od => ?_⟩
    obtain ⟨G', s2, t2, h2, r2⟩ := freeze_dic (od := od) t1 h1 hp
    have ev : v = .ref p := r1
    subst ev
    exact q _ _ G' _ I2 (s1.trans s2) t2 h2 r2 pp)
theorem sx_freezeD {j : Nat} (hd : δ[j]? = some (some (.adr p))) (h : SX X W sts (δ.set j (some (dicD kds))) I κ) : SX X W sts δ (I.and (iDic X.K p kds)) κ := fun σ G H E hE s hI kk => by
  obtain ⟨kvs, hp, _, _⟩ := Hd.dic (c := .r I .here) hI
  refine wpB_lock hp trivial fun od => ?_
  obtain ⟨G', s1, t1, h1, r⟩ := freeze_dic (od := od) s hI hp
  obtain ⟨v, hv, rv⟩ := hE.2 j _ hd
  have ev : v = .ref p := rv
  subst ev
  have e2 := (hE.mono s1).set (i := j) r
  have e3 : σ.set j (some (.ref p)) = σ := by
    apply List.ext_getElem?
    intro q
    by_cases hj : j = q
    · subst hj
      rw [List.getElem?_set_self (List.getElem?_eq_some_iff.mp hv).1, hv]
    · rw [List.getElem?_set_ne hj]
  rw [e3] at e2
  exact h σ G' _ E e2 t1 h1 (kk.mono s1)
theorem ev_dnew (h : ∀ p, (∀ a, ¬ (I.F a ∧ a = p)) → P (.adr p) (I.and (iDic X.K p []))) : EvX X W R (.Dict [] [] pos) δ I P := fun σ G H Q hE s hI qx q =>
  PE.wp pe_dnewK fun p hp => by
    have hg : G p = none := s.free hp
    have na : ∀ a, ¬ (I.F a ∧ a = p) := fun a ha => hI.dom ha.1 (by rw [ha.2]; exact hp)
    exact q (.ref p) (.adr p) G _ (I.and (iDic X.K p [])) (Same.refl G) (same_upd s hg) (Hd.mk2 (hI.newp hp) ⟨⟨_, upd_same, [], rfl, rfl⟩, fun a ha => by rw [show a = p from ha]; exact hg⟩ na) rfl (h p na)
def DicI (X : Cx) (I : Iv X.K) (d : D) (kds : List (Key × D)) : Prop := d = dicD kds ∨ ∃ p c, d = .adr p ∧ I = Rc.fill c (iDic X.K p kds)
theorem dic_rd (h : DicI X I d kds) {G H : Hp} {v : V} (s : Same G H) (hI : Hd I G H) (r : Rep X.K G d v) : ∃ a kvs, v = .ref a ∧ Rd H a (.dK kvs) ∧ KR X.K G kds kvs := by
  rcases h with e | ⟨p, c, e1, e2⟩
  · subst e
    obtain ⟨a, od, kvs, e1, e2, e3⟩ := rep_dicD.mp r
    exact ⟨a, kvs, e1, .inr ⟨od, s _ _ e2⟩, e3⟩
  · subst e1 e2
    obtain ⟨kvs, hp, r2, _⟩ := hI.dic
    exact ⟨p, kvs, r, .inl hp, r2⟩
theorem pv_dget (hu : X.A.units + 1 < cLine) (dI : DicI X I z kds) (ho : PV X I o δ z) (hi : PV X I i δ y) (hk : keyD y = some k) (hd : getG kds k = some d) (hs : NoSl i := by exact fun _ _ => rfl) : PV X I (.Subscript o i pos) δ d := fun W R P pp σ G H Q hE s hI qx q =>
  PE.wp (pe_dget hu peC peC hs) (ho W R (fun z1 I1 => z1 = z ∧ I1 = I) ⟨rfl, rfl⟩ σ G H _ hE s hI qx fun v d1 G1 H1 I1 s1 t1 h1 r1 ⟨ed, ei⟩ => by
    subst ed ei
    refine hi W R (fun z1 J => z1 = y ∧ J = I1) ⟨rfl, rfl⟩ σ G1 H1 _ (hE.mono s1) t1 h1 (qx.mono s1) fun v2 d2 G2 H2 I2 s2 t2 h2 r2 ⟨ed2, ei2⟩ => ?_
    subst ed2 ei2
    obtain ⟨a, kvs, e1, rd, kr⟩ := dic_rd dI t2 h2 (r1.mono s2)
    obtain ⟨u, e3, e4⟩ := (kr.get (k := k)).1 d hd
    exact ⟨a, u, e1, .inl ⟨kvs, k, rd, rep_key hk r2, e3.symm⟩, q u d G2 H2 _ (s1.trans s2) t2 h2 e4 pp⟩)
theorem s_dput (hu : X.A.units + 1 < cLine) (c : Rc X.K) (he : EvX X W (κ.r δ) e δ I fun d I1 => I1 = c.fill (iDic X.K p kds) ∧ PV X I1 o δ (.adr p) ∧ PV X I1 i δ y ∧ keyD y = some k ∧ kds.length < 100000 ∧ κ.nx δ (c.fill (iDic X.K p (putG kds k d))))
    (hs : swapsWith e (some (.Subscript o i ps)) pos.line X.env = pure false := by rfl) : S1 X W (.Assign [.Subscript o i ps] e pos) δ I κ := fun σ G H E hE s hI kk =>
  PS.wp (ps_dput hu peC peC peC hs) (he σ G H _ hE s hI (kk.kx hE) fun v d1 G1 H1 I1 s1 t1 h1 r1 ⟨ei, ho, hi, hk, hz, nx⟩ => by
    refine ho W (κ.r δ) (fun z1 J => z1 = .adr p ∧ J = I1) ⟨rfl, rfl⟩ σ G1 H1 _ (hE.mono s1) t1 h1 ((kk.kx hE).mono s1) fun v2 d2 G2 H2 I2 s2 t2 h2 r2 ⟨ed2, ei2⟩ => ?_
    subst ed2 ei2
    refine hi W (κ.r δ) (fun z1 J => z1 = y ∧ J = I2) ⟨rfl, rfl⟩ σ G2 H2 _ (hE.mono (s1.trans s2)) t2 h2 ((kk.kx hE).mono (s1.trans s2)) fun v3 d3 G3 H3 I3 s3 t3 h3 r3 ⟨ed3, ei3⟩ => ?_
    subst ed3 ei3
    have h4 : Hd (c.fill (iDic X.K p kds)) G3 H3 := ei ▸ h3
    obtain ⟨kvs, hp, kr, gp⟩ := h4.dic
    have e2 : v2 = .ref p := r2
    subst e2
    refine ⟨p, _, rfl, .inl ⟨kvs, k, hp, rep_key hk r3, by rw [kr.length, sizeLine_eq]; omega, rfl⟩, ?_⟩
    exact kk.nx δ σ G3 _ _ ((s1.trans s2).trans s3) (same_upd t3 gp) (h4.dicSet (kr.put ((r1.mono s2).mono s3))) (hE.mono ((s1.trans s2).trans s3)) nx)
def keyV : Key → D
  | .inl i => .int i
  | .inr s => .str s
theorem rep_keyV {K : PySem.W.Frag} {G : Hp} (k : Key) : Rep K G (keyV k) (kV k) := by
  cases k <;> exact rfl
theorem walk_dK {K : PySem.W.Frag} {a : Addr} {od : Obj} {kvs : List (Key × V)} {kds : List (Key × D)} {G : Hp} (h : G a = some (.frz od (.dK kvs))) (r : KR K G kds kvs) : WalkD K (Itk a od kvs) (kds.map fun p => keyV p.1) G := by
  have hl : kvs.length = (kds.map fun p => keyV p.1).length := by rw [List.length_map]; exact r.length
  refine ⟨fun i G' H' s1 s2 hi => walk_keys.goes i H' (by omega) ((s1.trans s2) _ _ h), fun G' H' s1 s2 => by rw [← hl]; exact walk_keys.stops H' ((s1.trans s2) _ _ h), fun i G' H' I x H'' s1 s2 hI hi y => ?_⟩
  obtain ⟨eH, k, v, e1, e2⟩ := (walk_keys (d := a) (o := od) (kvs := kvs)).yields i H' x H'' (by omega) ((s1.trans s2) _ _ h) y
  subst eH e2
  refine ⟨G', Same.refl _, s2, hI, fun _ _ z => z, keyV k, ?_, rep_keyV k⟩
  have e3 := r.keys
  have e4 : (kvs.map (·.1))[i]? = some k := by rw [List.getElem?_map, e1]; rfl
  rw [e3, List.getElem?_map] at e4
  rw [List.getElem?_map]
  cases q : kds[i]? with
  | none => rw [q] at e4; cases e4
  | some p0 =>
    rw [q] at e4
    have e5 : p0.1 = k := Option.some.inj e4
    show some (keyV p0.1) = _
    rw [e5]
theorem ei_keys {tg iter : Expr} {PP : List D → Iv X.K → Prop} (h : EvX X W R iter δ I fun d I1 => ∃ kds, d = dicD kds ∧ PP (kds.map fun p => keyV p.1) I1) : EvI X W R tg iter δ I PP := fun σ G H RR hE s hI qx q =>
  PI.wp (pi_keys peC) (h σ G H _ hE s hI qx fun v d G1 H1 I1 s1 t1 h1 r1 ⟨kds, ed, pp⟩ => by
    subst ed
    obtain ⟨a, od, kvs, e1, e2, e3⟩ := rep_dicD.mp r1
    exact ⟨a, od, e1, .inl ⟨kvs, t1 _ _ e2, q _ _ G1 H1 I1 s1 t1 h1 (walk_dK e2 e3) pp⟩⟩)
theorem vi_keys {tg iter : Expr} (h : PV X I iter δ (dicD kds)) : PVI X I tg iter δ (kds.map fun p => keyV p.1) := fun W R P p => ei_keys (h W R _ ⟨kds, rfl, p⟩)
end
end DL
set_option Elab.async false
set_option linter.all false
set_option maxRecDepth 100000
set_option maxHeartbeats 4000000
namespace PySem
open Sem (wp)
open AutoSeq1 (wpAny_loadPart')
end PySem
namespace DL
open PySem PySem.Spec PyProof.Rows L2
def enumD (ds : List D) : List D := (ds.zipIdx).map fun p => .tup [.int p.2, p.1]
theorem enumD_get {ds : List D} {i : Nat} {d : D} (h : ds[i]? = some d) : (enumD ds)[i]? = some (.tup [.int i, d]) := by
  unfold enumD
  rw [List.getElem?_map, List.getElem?_zipIdx, h]
  simp
theorem enumD_len {ds : List D} : (enumD ds).length = ds.length := by unfold enumD; simp
theorem walk_eL {K : PySem.W.Frag} {a : Addr} {ds : List D} {vs : List V} {G : Hp} (h : SqL K G a vs) (r : Reps K G ds vs) : WalkD K (Ite K a) (enumD ds) G := by
  have hl := r.length
  refine ⟨fun i G' H' s1 s2 hi => (walk_enum (K := K) (a := a) (xs := vs)).goes i H' (by rw [enumD_len] at hi; omega) (sqL_mono (s1.trans s2) h), fun G' H' s1 s2 => by rw [enumD_len, ← hl]; exact walk_enum.stops H' (sqL_mono (s1.trans s2) h), fun i G' H' I x H'' s1 s2 hI hi y => ?_⟩
  rw [enumD_len] at hi
  obtain ⟨T, x1, y1, ex, hT, eH, e1, e2⟩ := (walk_enum (K := K) (a := a) (xs := vs)).yields i H' x H'' (by omega) (sqL_mono (s1.trans s2) h) y
  subst ex eH
  cases e1
  obtain ⟨d, hd⟩ : ∃ d, ds[i]? = some d := ⟨ds[i], by simp [hi]⟩
  obtain ⟨v, h1, h2⟩ := r.get hd
  rw [show vs[i]? = some y1 from e2] at h1
  cases h1
  have gT : G' T = none := s2.free hT
  exact ⟨upd G' T (.tup [.int (i : Nat), y1]), Evl.Ex.new gT, same_upd2 s2, hI.keep hT s2, fun b o z => by rw [upd_ne (fun q => by rw [q, hT] at z; cases z)]; exact z, _, enumD_get hd, T, _, rfl, SqT.of upd_same, .cons rfl (.one ((h2.mono s1).mono (Evl.Ex.new gT)))⟩
section
variable {X : Cx} {W : WX} {R : Rx X.K} {a e : Expr} {δ : DEnv} {I : Iv X.K} {pos p tpos : Pos} {elts : List Expr} {kk : Nat} {ds : List D}
theorem vi_enumL (hm : X.mg "enumerate" = none) (h : PV X I e δ (.lst ds)) (hg : Gl X "enumerate" := by rfl) (hs : starEach [e] X.env = [(false, eval e X.env)] := by rfl) (hs2 : starEach [e] X.env = (false, eval e X.env) :: starEach [] X.env := by rfl) : PVI X I (.Tuple elts kk tpos) (.Call (.Name "enumerate" p) [e] [] pos) δ (enumD ds) := fun W R P pp σ G H RR hE s hI qx q =>
  PI.wp (pi_enum (ta := wpA X [e]) hg hm paC hs) ((va_cons h va_nil hs2) W R (fun es I1 => es = [.lst ds] ∧ I1 = I) ⟨rfl, rfl⟩ σ G H _ hE s hI qx fun vs es G1 H1 I1 s1 t1 h1 r1 ⟨ee, ei⟩ => by
    subst ee ei
    obtain ⟨v, r, rfl, ⟨a, xs, rfl, e2, e3⟩, er⟩ := r1
    rw [show r = [] from er]
    exact ⟨a, xs, rfl, SqL.of (t1 _ _ e2), q _ _ G1 H1 _ s1 t1 h1 (walk_eL (SqL.of e2) e3) pp⟩)
end
end DL
set_option Elab.async false
set_option linter.all false
set_option maxRecDepth 100000
set_option maxHeartbeats 4000000
namespace DL
open PySem PySem.Spec PyProof.Rows L2

def eqD (x y : D) : Bool := PyData.eqv (pyD x) (pyD y)
def eqDs : List D → List D → Bool
  | [], [] => true
  | x :: xs, y :: ys => eqD x y && eqDs xs ys
  | _, _ => false
theorem eqvAll_eq : ∀ xs ys : List D, PyData.eqvAll (pyDs xs) (pyDs ys) = eqDs xs ys
  | [], [] => rfl
  | [], _ :: _ => rfl
  | _ :: _, [] => rfl
  | x :: xs, y :: ys => by
    show (PyData.eqv (pyD x) (pyD y) && PyData.eqvAll (pyDs xs) (pyDs ys)) = _
    rw [eqvAll_eq xs ys]; rfl
section
variable {s t : Str} {i j : Int} {a b : Bool} {xs ys : List D}
@[simp] theorem eqD_str : eqD (.str s) (.str t) = decide (s = t) := by
  show (s == t) = _
  exact Bool.eq_iff_iff.mpr (by simp)
@[simp] theorem eqD_int : eqD (.int i) (.int j) = decide (i = j) := by
  show (i == j) = _
  exact Bool.eq_iff_iff.mpr (by simp)
@[simp] theorem eqD_bl : eqD (.bl a) (.bl b) = decide (a = b) := by
  show (a == b) = _
  exact Bool.eq_iff_iff.mpr (by simp)
@[simp] theorem eqD_non : eqD .non .non = true := rfl
@[simp] theorem eqD_tup : eqD (.tup xs) (.tup ys) = eqDs xs ys := eqvAll_eq xs ys
@[simp] theorem eqD_lst : eqD (.lst xs) (.lst ys) = eqDs xs ys := eqvAll_eq xs ys
@[simp] theorem eqD_lstf : eqD (.lst xs) (.lsf ys) = eqDs xs ys := eqvAll_eq xs ys
@[simp] theorem eqD_lsfl : eqD (.lsf xs) (.lst ys) = eqDs xs ys := eqvAll_eq xs ys
@[simp] theorem eqD_tl : eqD (.tup xs) (.lst ys) = false := rfl
@[simp] theorem eqD_lt : eqD (.lst xs) (.tup ys) = false := rfl
@[simp] theorem eqD_tn : eqD (.tup xs) .non = false := rfl
@[simp] theorem eqD_nt : eqD .non (.tup xs) = false := rfl
@[simp] theorem eqD_ln : eqD (.lst xs) .non = false := rfl
@[simp] theorem eqD_nl : eqD .non (.lst xs) = false := rfl
@[simp] theorem eqD_sn : eqD (.str s) .non = false := rfl
@[simp] theorem eqD_ns : eqD .non (.str s) = false := rfl
@[simp] theorem eqD_in : eqD (.int i) .non = false := rfl
@[simp] theorem eqD_ni : eqD .non (.int i) = false := rfl
@[simp] theorem eqD_is : eqD (.int i) (.str s) = false := rfl
@[simp] theorem eqD_si : eqD (.str s) (.int i) = false := rfl
@[simp] theorem eqD_st : eqD (.str s) (.tup xs) = false := rfl
@[simp] theorem eqD_ts : eqD (.tup xs) (.str s) = false := rfl
@[simp] theorem eqD_it : eqD (.int i) (.tup xs) = false := rfl
@[simp] theorem eqD_ti : eqD (.tup xs) (.int i) = false := rfl
@[simp] theorem eqD_sl : eqD (.str s) (.lst xs) = false := rfl
@[simp] theorem eqD_ls : eqD (.lst xs) (.str s) = false := rfl
@[simp] theorem eqD_il : eqD (.int i) (.lst xs) = false := rfl
@[simp] theorem eqD_li : eqD (.lst xs) (.int i) = false := rfl
@[simp] theorem eqDs_nil : eqDs [] [] = true := rfl
@[simp] theorem eqDs_cons {x y : D} : eqDs (x :: xs) (y :: ys) = (eqD x y && eqDs xs ys) := rfl
@[simp] theorem eqDs_nc {y : D} : eqDs [] (y :: ys) = false := rfl
@[simp] theorem eqDs_cn {x : D} : eqDs (x :: xs) [] = false := rfl
end
structure Inj {α : Type} (g : α → D) : Prop where
  eq : ∀ a b, eqD (g a) (g b) = true ↔ a = b
theorem Inj.str : Inj D.str := ⟨fun a b => by simp⟩
theorem Inj.int : Inj D.int := ⟨fun a b => by simp⟩
theorem Inj.eqs {α : Type} {g : α → D} (h : Inj g) : ∀ xs ys : List α, eqDs (xs.map g) (ys.map g) = true ↔ xs = ys
  | [], [] => by simp
  | [], y :: ys => by simp
  | x :: xs, [] => by simp
  | x :: xs, y :: ys => by simp [h.eq x y, h.eqs xs ys]
theorem Inj.lst {α : Type} {g : α → D} (h : Inj g) : Inj fun xs : List α => D.lst (xs.map g) := ⟨fun a b => by simp [h.eqs]⟩
theorem Inj.tup {α : Type} {g : α → D} (h : Inj g) : Inj fun xs : List α => D.tup (xs.map g) := ⟨fun a b => by simp [h.eqs]⟩
theorem Inj.any {α : Type} [DecidableEq α] {g : α → D} (h : Inj g) (x : α) (xs : List α) : (xs.map g).any (fun z => eqD z (g x)) = decide (x ∈ xs) := Bool.eq_iff_iff.mpr (by
  simp only [List.any_map, List.any_eq_true, Function.comp, decide_eq_true_eq]
  exact ⟨fun ⟨y, hy, e⟩ => ((h.eq y x).mp e) ▸ hy, fun hx => ⟨x, hx, (h.eq x x).mpr rfl⟩⟩)

structure OkD (n : Nat) (d : D) : Prop where
  py : okPy d = true
  cl : (pyD d).canLay0 = true
  dp : (pyD d).depth ≤ n
theorem OkD.okEq {n : Nat} {d : D} (h : OkD n d) (hn : n ≤ 64) : okEq d = true := by
  unfold DL.okEq SeqAt.shaped
  rw [h.py, h.cl, decide_eq_true (Nat.le_trans h.dp hn)]; rfl
theorem OkD.mono {n m : Nat} {d : D} (h : OkD n d) (hn : n ≤ m) : OkD m d := ⟨h.py, h.cl, Nat.le_trans h.dp hn⟩
theorem OkD.non {n : Nat} : OkD n .non := ⟨rfl, rfl, Nat.zero_le _⟩
theorem OkD.bl {n : Nat} {b : Bool} : OkD n (.bl b) := ⟨rfl, rfl, Nat.zero_le _⟩
theorem OkD.int {n : Nat} {i : Int} : OkD n (.int i) := ⟨rfl, rfl, Nat.zero_le _⟩
theorem OkD.str {n : Nat} {s : Str} (h : PyData.strOk s = true) : OkD n (.str s) := ⟨rfl, h, Nat.zero_le _⟩
theorem okds {n : Nat} : ∀ {ds : List D}, (∀ d ∈ ds, OkD n d) → okPys ds = true ∧ PyData.canLayAll0 (pyDs ds) = true ∧ PyData.depthAll (pyDs ds) ≤ n
  | [], _ => ⟨rfl, rfl, Nat.zero_le _⟩
  | d :: ds, h => by
    obtain ⟨a, b, c⟩ := okds fun e he => h e (List.mem_cons_of_mem _ he)
    have q := h d (List.mem_cons_self ..)
    exact ⟨by show (okPy d && okPys ds) = true; rw [q.py, a]; rfl, by show (PyData.canLay0 (pyD d) && PyData.canLayAll0 (pyDs ds)) = true; rw [q.cl, b]; rfl, Nat.max_le.mpr ⟨q.dp, c⟩⟩
theorem OkD.tup {n : Nat} {ds : List D} (h : ∀ d ∈ ds, OkD n d) : OkD (n + 1) (.tup ds) := ⟨(okds h).1, (okds h).2.1, Nat.succ_le_succ (okds h).2.2⟩
theorem OkD.lst {n : Nat} {ds : List D} (h : ∀ d ∈ ds, OkD n d) : OkD (n + 1) (.lst ds) := ⟨(okds h).1, (okds h).2.1, Nat.succ_le_succ (okds h).2.2⟩
theorem OkD.lsf {n : Nat} {ds : List D} (h : ∀ d ∈ ds, OkD n d) : OkD (n + 1) (.lsf ds) := ⟨(okds h).1, (okds h).2.1, Nat.succ_le_succ (okds h).2.2⟩
theorem OkD.map {α : Type} {n : Nat} {g : α → D} {xs : List α} (h : ∀ x ∈ xs, OkD n (g x)) : ∀ d ∈ xs.map g, OkD n d := fun d hd => by
  obtain ⟨x, hx, rfl⟩ := List.mem_map.mp hd
  exact h x hx
theorem OkD.t1 {n : Nat} {a : D} (h : OkD n a) : OkD (n + 1) (.tup [a]) := .tup (by simp [h])
theorem OkD.t2 {n : Nat} {a b : D} (h : OkD n a) (h2 : OkD n b) : OkD (n + 1) (.tup [a, b]) := .tup (by simp [h, h2])
theorem OkD.t3 {n : Nat} {a b c : D} (h : OkD n a) (h2 : OkD n b) (h3 : OkD n c) : OkD (n + 1) (.tup [a, b, c]) := .tup (by simp [h, h2, h3])
theorem OkD.t4 {n : Nat} {a b c d : D} (h : OkD n a) (h2 : OkD n b) (h3 : OkD n c) (h4 : OkD n d) : OkD (n + 1) (.tup [a, b, c, d]) := .tup (by simp [h, h2, h3, h4])

section
variable {X : Cx}
def rInDT (K : PySem.W.Frag) : R2 := fun x y H Q => ∃ d ds, Dp K H x d ∧ (Dp K H y (.list ds) ∨ Dp K H y (.tuple ds)) ∧ SeqAt.shaped d = true ∧ PyData.canLayAll0 ds = true ∧ Q (.bl (ds.any fun z => PyData.eqv z d)) H
def rNotInDT (K : PySem.W.Frag) : R2 := fun x y H Q => ∃ d ds, Dp K H x d ∧ (Dp K H y (.list ds) ∨ Dp K H y (.tuple ds)) ∧ SeqAt.shaped d = true ∧ PyData.canLayAll0 ds = true ∧ Q (.bl (!ds.any fun z => PyData.eqv z d)) H
theorem op_inDT (hu : X.A.units + 65 < cLine) : OpR X (compareOp .In) (rInDT X.K) := by
  intro pins s σ H x y v u Q I rx ry h
  obtain ⟨d, ds, hd, he, sd, se, q⟩ := h
  obtain ⟨as, r1⟩ := Dp.reads I d x v hd rx
  rcases he with he | he
  · obtain ⟨bs, r2⟩ := Dp.reads I (.list ds) y u he ry
    exact SeqAt.in_list_reads r2 r1 se (SeqAt.canLay_of_shaped sd) (room_in_shaped sd hu) ⟨.bl _, H, I, rfl, q⟩
  · obtain ⟨bs, r2⟩ := Dp.reads I (.tuple ds) y u he ry
    exact SeqAt.in_tuple_reads r2 r1 se (SeqAt.canLay_of_shaped sd) (room_in_shaped sd hu) ⟨.bl _, H, I, rfl, q⟩
theorem op_notInDT (hu : X.A.units + 65 < cLine) : OpR X (compareOp .NotIn) (rNotInDT X.K) := by
  intro pins s σ H x y v u Q I rx ry h
  obtain ⟨d, ds, hd, he, sd, se, q⟩ := h
  obtain ⟨as, r1⟩ := Dp.reads I d x v hd rx
  rcases he with he | he
  · obtain ⟨bs, r2⟩ := Dp.reads I (.list ds) y u he ry
    exact SeqAt.notIn_list_reads r2 r1 se (SeqAt.canLay_of_shaped sd) (room_in_shaped sd hu) ⟨.bl _, H, I, rfl, q⟩
  · obtain ⟨bs, r2⟩ := Dp.reads I (.tuple ds) y u he ry
    exact SeqAt.notIn_tuple_reads r2 r1 se (SeqAt.canLay_of_shaped sd) (room_in_shaped sd hu) ⟨.bl _, H, I, rfl, q⟩
theorem any_py (d : D) : ∀ ds : List D, (pyDs ds).any (fun z => PyData.eqv z (pyD d)) = ds.any fun z => eqD z d
  | [] => rfl
  | e :: ds => by
    show (PyData.eqv (pyD e) (pyD d) || (pyDs ds).any _) = _
    rw [any_py d ds]; rfl
def itemsD : D → Option (List D)
  | .tup ds => some ds
  | .lst ds => some ds
  | .lsf ds => some ds
  | _ => none
theorem items_dp {K : PySem.W.Frag} {G H : Hp} {z : D} {ds : List D} {v : V} (s : Same G H) (hz : itemsD z = some ds) (h : okPys ds = true) (r : Rep K G z v) : Dp K H v (.list (pyDs ds)) ∨ Dp K H v (.tuple (pyDs ds)) := by
  cases z <;> first | cases hz | skip
  · exact .inr (dp_of (d := .tup _) s h r)
  · exact .inl (dp_of (d := .lst _) s h r)
  · exact .inl (dp_of (d := .lsf _) s h r)
theorem p2_inD {K : PySem.W.Frag} {I : Iv K} {x z : D} {ds : List D} {n : Nat} (hz : itemsD z = some ds) (hx : OkD 64 x) (hd : ∀ d ∈ ds, OkD n d) : P2 K I (rInDT K) x z (.bl (ds.any fun y => eqD y x)) := fun P p G H v w Q s hI r1 r2 q =>
  ⟨_, _, dp_of s hx.py r1, items_dp s hz (okds hd).1 r2, (Bool.and_eq_true_iff.mp (hx.okEq (by decide))).2, (okds hd).2.1, by rw [any_py]; exact q _ (.bl _) G H I (Same.refl G) s hI rfl p⟩
theorem p2_ninD {K : PySem.W.Frag} {I : Iv K} {x z : D} {ds : List D} {n : Nat} (hz : itemsD z = some ds) (hx : OkD 64 x) (hd : ∀ d ∈ ds, OkD n d) : P2 K I (rNotInDT K) x z (.bl (!ds.any fun y => eqD y x)) := fun P p G H v w Q s hI r1 r2 q =>
  ⟨_, _, dp_of s hx.py r1, items_dp s hz (okds hd).1 r2, (Bool.and_eq_true_iff.mp (hx.okEq (by decide))).2, (okds hd).2.1, by rw [any_py]; exact q _ (.bl _) G H I (Same.refl G) s hI rfl p⟩
end

section
variable {X : Cx} {W : WX} {R : Rx X.K} {a b c e : Expr} {es : List Expr} {δ : DEnv} {I : Iv X.K} {P : D → Iv X.K → Prop} {pos p p2 : Pos} {x y z d : D} {x' : Str} {ds : List D} {i j : Int} {k : Bool} {C : Prop}
theorem pv_w (i : Nat) (hd : δ[i]? = some (some d)) (hN : X.N[i]? = some x' := by rfl) (hv : Vis X.env.scope x' := by first | exact Or.inl rfl | exact Or.inr (Or.inl rfl) | exact Or.inr (Or.inr rfl)) (hdb : (x' == ("__debug__" : Str)) = false := by decide)
    (hcd : (x' == ("__classdict__" : Str)) = false := by decide) : PV X I (.Name x' pos) δ d := pv_v i hd hN hv hdb hcd
end
class EqC (x y : D) (b : outParam Bool) (C : outParam Prop) : Prop where
  e : C → ∀ (X : Cx) (I : Iv X.K), X.A.units + 64 < cLine → ∃ r, OpR X (compareOp .Eq) r ∧ P2 X.K I r x y (.bl b)
  n : C → ∀ (X : Cx) (I : Iv X.K), X.A.units + 64 < cLine → ∃ r, OpR X (compareOp .NotEq) r ∧ P2 X.K I r x y (.bl (!b))
theorem EqC.flat {x y : D} {v u : V} {b : Bool} (hx : flatD x = some v) (hy : flatD y = some u) (hs : scal v u = true) (hb : decide (v = u) = b) : EqC x y b True :=
  ⟨fun _ X I _ => ⟨_, op_eq, p2_eq hx hy hs hb⟩, fun _ X I _ => ⟨_, op_ne, p2_ne hx hy hs (by rw [hb])⟩⟩
theorem EqC.data {x y : D} : EqC x y (eqD x y) (okEq x = true ∧ okEq y = true) :=
  ⟨fun c X I hu => ⟨_, op_eqD hu, p2_eqD c.1 c.2⟩, fun c X I hu => ⟨_, op_neD hu, p2_neD c.1 c.2⟩⟩
instance {s t : Str} : EqC (.str s) (.str t) (decide (s = t)) True := .flat rfl rfl rfl (by simp)
instance {s t : Int} : EqC (.int s) (.int t) (decide (s = t)) True := .flat rfl rfl rfl (by simp)
instance {s t : Bool} : EqC (.bl s) (.bl t) (decide (s = t)) True := .flat rfl rfl rfl (by simp)
instance : EqC .non .non true True := .flat rfl rfl rfl rfl
instance {s : Str} : EqC (.str s) .non false True := .flat rfl rfl rfl rfl
instance {s : Str} : EqC .non (.str s) false True := .flat rfl rfl rfl rfl
instance {s : Int} : EqC (.int s) .non false True := .flat rfl rfl rfl rfl
instance {s : Int} : EqC .non (.int s) false True := .flat rfl rfl rfl rfl
instance {s : Int} {t : Str} : EqC (.int s) (.str t) false True := .flat rfl rfl rfl rfl
instance {s : Int} {t : Str} : EqC (.str t) (.int s) false True := .flat rfl rfl rfl rfl
instance {s : Bool} : EqC .non (.bl s) false True := .flat rfl rfl rfl rfl
instance {s : Bool} : EqC (.bl s) .non false True := .flat rfl rfl rfl rfl
instance {xs ys : List D} : EqC (.tup xs) (.tup ys) (eqD (.tup xs) (.tup ys)) (okEq (.tup xs) = true ∧ okEq (.tup ys) = true) := .data
instance {xs ys : List D} : EqC (.lst xs) (.lst ys) (eqD (.lst xs) (.lst ys)) (okEq (.lst xs) = true ∧ okEq (.lst ys) = true) := .data
instance {xs ys : List D} : EqC (.lst xs) (.tup ys) (eqD (.lst xs) (.tup ys)) (okEq (.lst xs) = true ∧ okEq (.tup ys) = true) := .data
instance {xs ys : List D} : EqC (.tup xs) (.lst ys) (eqD (.tup xs) (.lst ys)) (okEq (.tup xs) = true ∧ okEq (.lst ys) = true) := .data
instance {xs : List D} : EqC (.tup xs) .non (eqD (.tup xs) .non) (okEq (.tup xs) = true ∧ okEq .non = true) := .data
instance {xs : List D} : EqC .non (.tup xs) (eqD .non (.tup xs)) (okEq .non = true ∧ okEq (.tup xs) = true) := .data
instance {xs : List D} : EqC (.lst xs) .non (eqD (.lst xs) .non) (okEq (.lst xs) = true ∧ okEq .non = true) := .data
section
variable {X : Cx} {W : WX} {R : Rx X.K} {a b c e : Expr} {es : List Expr} {δ : DEnv} {I : Iv X.K} {P : D → Iv X.K → Prop} {pos p p2 : Pos} {x y z d : D} {x' : Str} {ds : List D} {i j : Int} {k : Bool} {C : Prop}
theorem pv_eq (hu : X.A.units + 64 < cLine) (ha : PV X I a δ x) (hb : PV X I b δ y) [E : EqC x y k C] (c : C) (hm : behindInMarks .Eq b = false := by first | exact nomark _ | rfl) : PV X I (.Compare a [.Eq] [b] pos) δ (.bl k) := by
  obtain ⟨r, ho, h⟩ := E.e c X I hu
  exact pv_cmp ho ha hb h hm
theorem pv_ne (hu : X.A.units + 64 < cLine) (ha : PV X I a δ x) (hb : PV X I b δ y) [E : EqC x y k C] (c : C) (hm : behindInMarks .NotEq b = false := by first | exact nomark _ | rfl) : PV X I (.Compare a [.NotEq] [b] pos) δ (.bl (!k)) := by
  obtain ⟨r, ho, h⟩ := E.n c X I hu
  exact pv_cmp ho ha hb h hm
theorem pt_eq (hu : X.A.units + 64 < cLine) (ha : PV X I a δ x) (hb : PV X I b δ y) [E : EqC x y k C] (c : C) (hm : behindInMarks .Eq b = false := by first | exact nomark _ | rfl) : PVT X I (.Compare a [.Eq] [b] pos) δ k := by
  obtain ⟨r, ho, h⟩ := E.e c X I hu
  exact pt_cmp ho ha hb h hm
theorem pt_ne (hu : X.A.units + 64 < cLine) (ha : PV X I a δ x) (hb : PV X I b δ y) [E : EqC x y k C] (c : C) (hm : behindInMarks .NotEq b = false := by first | exact nomark _ | rfl) : PVT X I (.Compare a [.NotEq] [b] pos) δ (!k) := by
  obtain ⟨r, ho, h⟩ := E.n c X I hu
  exact pt_cmp ho ha hb h hm
theorem pt_chn {op op' : CmpOp} {r r' : R2} {k l : Bool} (ho : OpR X (compareOp op) r) (ho' : OpR X (compareOp op') r') (ha : PV X I a δ x) (hb : PV X I b δ y) (h1 : P2 X.K I r x y (.bl k)) (hc : PV X I c δ z) (h2 : P2 X.K I r' y z (.bl l))
    (hm : lastMarks [op, op'] [b, c] = false := by with_unfolding_all rfl) : PVT X I (.Compare a [op, op'] [b, c] pos) δ (k && l) := fun W R P pp σ G H Q hE s hI qx q =>
  PT.wp (pt_chain ho ho' peC peC peC hm) (ha W R (fun z1 J => z1 = x ∧ J = I) ⟨rfl, rfl⟩ σ G H _ hE s hI qx fun v d1 G1 H1 I1 s1 t1 g1 r1 ⟨ed, ei⟩ => by
    subst ed ei
    refine hb W R (fun z1 J => z1 = y ∧ J = I1) ⟨rfl, rfl⟩ σ G1 H1 _ (hE.mono s1) t1 g1 (qx.mono s1) fun v2 d2 G2 H2 I2 s2 t2 g2 r2 ⟨ed2, ei2⟩ => ?_
    subst ed2 ei2
    refine h1 (fun z1 J => z1 = .bl k ∧ J = I2) ⟨rfl, rfl⟩ G2 H2 v v2 _ t2 g2 (r1.mono s2) r2 fun v3 d3 G3 H3 I3 s3 t3 g3 r3 ⟨ed3, ei3⟩ => ?_
    subst ed3 ei3
    refine ⟨k, r3, ?_⟩
    cases k with
    | false =>
      exact ⟨false, rfl, q false G3 H3 _ ((s1.trans s2).trans s3) t3 g3 pp⟩
    | true =>
      simp only [if_true]
      refine hc W R (fun z1 J => z1 = z ∧ J = I3) ⟨rfl, rfl⟩ σ G3 H3 _ (hE.mono ((s1.trans s2).trans s3)) t3 g3 (qx.mono ((s1.trans s2).trans s3)) fun v4 d4 G4 H4 I4 s4 t4 g4 r4 ⟨ed4, ei4⟩ => ?_
      subst ed4 ei4
      refine h2 (fun z1 J => z1 = .bl l ∧ J = I4) ⟨rfl, rfl⟩ G4 H4 v2 v4 _ t4 g4 ((r2.mono s3).mono s4) r4 fun v5 d5 G5 H5 I5 s5 t5 g5 r5 ⟨ed5, ei5⟩ => ?_
      subst ed5 ei5
      exact ⟨l, r5, q l G5 H5 _ ((((s1.trans s2).trans s3).trans s4).trans s5) t5 g5 pp⟩)
end
end DL
set_option Elab.async false
set_option linter.all false
set_option maxRecDepth 100000
set_option maxHeartbeats 4000000
namespace DL
open PySem PySem.Spec PyProof.Rows L2

structure wpGs (X : Cx) (ts : List Expr) (vs : List V) (σ : L2.St) (H : Hp) (Q : L2.St → Hp → Prop) : Prop where
  run : ∀ (pins : List (Addr × Obj)) (s : Shared) (us : List Value), Inv X pins σ H s → Vals vs us → wpAny (model X.prog X.w) X.A (assignInOrder ((assignEach ts X.env).map (·.2)) us) (fun _ s' => ∃ σ' H', Inv X pins σ' H' s' ∧ Q σ' H') X.xe s
def BindsD (X : Cx) (ts : List Expr) (ds : List D) (δ δ' : DEnv) (ws : List Nat) : Prop := ∀ (vs : List V) (σ : L2.St) (G H : Hp) (Q : L2.St → Hp → Prop), EnvR X.K G δ σ → Same G H → Reps X.K G ds vs → (∀ σ', EnvR X.K G δ' σ' → wipe σ' ws = wipe σ ws → Q σ' H) → wpGs X ts vs σ H Q
section
variable {X : Cx} {t e : Expr} {ts : List Expr} {d : D} {ds : List D} {δ δ1 δ2 : DEnv} {ws : List Nat} {pos : Pos} {W : WX} {I : Iv X.K} {κ : Ko X.K} {kk : Nat}
theorem pgsC : PGs X ts (wpGs X ts) := ⟨fun pins s σ H vs us Q I r h => h.run pins s us I r⟩
theorem bs_nil : BindsD X [] [] δ δ ws := fun vs σ G H Q hE s r q => ⟨fun pins s us J rv => pgs_nil.run pins s σ H vs us Q J rv ⟨r, q σ hE rfl⟩⟩
theorem bs_cons (h : BindD X t d δ δ1 ws) (h2 : BindsD X ts ds δ1 δ2 ws) (hs : (assignEach (t :: ts) X.env).map (·.2) = assign t X.env :: (assignEach ts X.env).map (·.2) := by rfl) : BindsD X (t :: ts) (d :: ds) δ δ2 ws := fun vs σ G H Q hE s ⟨v, r, ev, r1, r2⟩ q => by
  subst ev
  exact ⟨fun pins st us J rv => (pgs_cons pgC pgsC hs).run pins st σ H _ us Q J rv ⟨v, r, rfl, h v σ G H _ hE s r1 fun σ1 e1 w1 => h2 r σ1 G H Q e1 s r2 fun σ2 e2 w2 => q σ2 e2 (w2.trans w1)⟩⟩
theorem bind_tup (h : BindsD X ts ds δ δ2 ws) (hc : X.calm = true := by rfl) (hn : (assignEach ts X.env).length = ds.length := by rfl) (hst : (assignEach ts X.env).findIdx? (·.1) = none := by rfl) : BindD X (.Tuple ts kk pos) (.tup ds) δ δ2 ws := fun v σ G H Q hE s ⟨a, vs, ev, e1, r⟩ q =>
  PG.wp (pg_tup hc pgsC hn hst) ⟨a, vs, ev, sqT_mono s e1, r.length, h vs σ G H Q hE s r q⟩
end

theorem lt_irr : ∀ a : List Nat, ltCps a a = false
  | [] => rfl
  | a :: r => by simp [ltCps, lt_irr r]
theorem lt_tr : ∀ a b c : List Nat, ltCps a b = true → ltCps b c = true → ltCps a c = true
  | [], [], _, h, _ => by simp [ltCps] at h
  | [], _ :: _, [], _, h => by simp [ltCps] at h
  | [], _ :: _, _ :: _, _, _ => rfl
  | _ :: _, [], _, h, _ => by simp [ltCps] at h
  | _ :: _, _ :: _, [], _, h => by simp [ltCps] at h
  | a :: r, b :: t, c :: u, h, k => by
    simp only [ltCps, Bool.or_eq_true, decide_eq_true_eq, Bool.and_eq_true, beq_iff_eq] at h k ⊢
    rcases h with h | ⟨h, h2⟩
    · rcases k with k | ⟨k, k2⟩
      · exact .inl (by omega)
      · exact .inl (by omega)
    · rcases k with k | ⟨k, k2⟩
      · exact .inl (by omega)
      · exact .inr ⟨by omega, lt_tr r t u h2 k2⟩
theorem lt_tri : ∀ a b : List Nat, ltCps a b = false → ltCps b a = false → a = b
  | [], [], _, _ => rfl
  | [], _ :: _, h, _ => by simp [ltCps] at h
  | _ :: _, [], _, h => by simp [ltCps] at h
  | a :: r, b :: t, h, k => by
    simp only [ltCps, Bool.or_eq_false_iff, decide_eq_false_iff_not, Bool.and_eq_false_iff, beq_eq_false_iff_ne] at h k
    have e : a = b := by omega
    subst e
    have h2 : ltCps r t = false := h.2.resolve_left (by simp)
    have k2 : ltCps t r = false := k.2.resolve_left (by simp)
    rw [lt_tri r t h2 k2]
def leS (a b : Str) : Bool := !ltCps b.cps.toList a.cps.toList
theorem leS_tr (a b c : Str) (h : leS a b = true) (k : leS b c = true) : leS a c = true := by
  unfold leS at h k ⊢
  simp only [Bool.not_eq_true'] at h k ⊢
  cases q : ltCps c.cps.toList a.cps.toList with
  | false => rfl
  | true =>
    cases q2 : ltCps a.cps.toList b.cps.toList with
    | true => rw [lt_tr _ _ _ q q2] at k; cases k
    | false =>
      have e := lt_tri _ _ h q2
      rw [e, q] at k
      cases k
theorem leS_total (a b : Str) : (leS a b || leS b a) = true := by
  unfold leS
  cases q : ltCps b.cps.toList a.cps.toList with
  | false => rfl
  | true =>
    cases q2 : ltCps a.cps.toList b.cps.toList with
    | false => rfl
    | true => have := lt_tr _ _ _ q q2; rw [lt_irr] at this; cases this
theorem leS_anti {a b : Str} (h : leS a b = true) (k : leS b a = true) : a = b := by
  unfold leS at h k
  simp only [Bool.not_eq_true'] at h k
  exact str_ext (lt_tri _ _ k h)
def sortS (xs : List Str) : List Str := xs.mergeSort leS
theorem sortS_perm (xs : List Str) : (sortS xs).Perm xs := List.mergeSort_perm xs _
theorem sortS_pw (xs : List Str) : (sortS xs).Pairwise (fun a b => leS a b = true) := List.pairwise_mergeSort leS_tr leS_total xs
theorem rising_pw : ∀ (ys : List Str) (p : Str), risingS p ys = true → (∀ y ∈ ys, leS p y = true) ∧ ys.Pairwise (fun a b => leS a b = true)
  | [], _, _ => ⟨(fun _ h => nomatch h), List.Pairwise.nil⟩
  | y :: ys, p, h => by
    obtain ⟨h1, h2⟩ := Bool.and_eq_true_iff.mp (show (!ltCps y.cps.toList p.cps.toList && risingS y ys) = true from h)
    obtain ⟨q1, q2⟩ := rising_pw ys y h2
    exact ⟨fun z hz => (List.mem_cons.mp hz).elim (fun e => e ▸ h1) fun hz => leS_tr _ _ _ h1 (q1 z hz), List.Pairwise.cons q1 q2⟩
theorem sorted_pw {ys : List Str} (h : sortedS ys = true) : ys.Pairwise (fun a b => leS a b = true) := by
  cases ys with
  | nil => exact .nil
  | cons y ys => exact .cons (rising_pw ys y h).1 (rising_pw ys y h).2
theorem sort_uniq {xs ys : List Str} (h1 : ys.Pairwise (fun a b => leS a b = true)) (h2 : ys.Perm xs) : ys = sortS xs :=
  List.Perm.eq_of_pairwise (fun a b _ _ => leS_anti) h1 (sortS_pw xs) (h2.trans (sortS_perm xs).symm)
theorem sortS_congr {xs ys : List Str} (h : xs.Perm ys) : sortS xs = sortS ys := sort_uniq (sortS_pw xs) ((sortS_perm xs).trans h)

section
variable {K : PySem.W.Frag} {I : Iv K} {d : D} {ds : List D} {kds : List (Key × D)} {ss : List Str}
theorem pn_sortedS (h : ss.length < 64) : PN K I (rSortedS K) [.lst (ss.map D.str)] (.lst ((sortS ss).map D.str)) := fun P p G H vs Q s hI r q => by
  obtain ⟨v, r1, rfl, ⟨a, xs, rfl, e2, e3⟩, er⟩ := r
  rw [show r1 = [] from er]
  rw [repsStr e3] at e2
  refine ⟨a, ss, rfl, SqL.of (s _ _ e2), h, fun ys p hp hs hq => ?_⟩
  rw [sort_uniq (sorted_pw hs) hp]
  have hg : G p = none := s.free hq
  exact q (.ref p) (.lst ((sortS ss).map D.str)) (upd G p (.lst ((sortS ss).map V.str))) _ I (Evl.Ex.new hg) (same_upd2 s) (hI.keep hq s) ⟨p, _, rfl, upd_same, (reps_flat (flatDs_str _))⟩ ‹_›
theorem pn_listD : PN K I (fun xs H Q => ∃ (a : Addr) (kvs : List (Key × V)), xs = [.ref a] ∧ Rd H a (.dK kvs) ∧ ∀ p, H p = none → Q (.ref p) (upd H p (.lst (kvs.map fun kv => kV kv.1)))) [dicD kds] (.lst (kds.map fun p => keyV p.1)) := fun P pp G H vs Q s hI r q => by
  obtain ⟨v, r1, rfl, rd, er⟩ := r
  rw [show r1 = [] from er]
  obtain ⟨a, od, kvs, rfl, e1, kr⟩ := rep_dicD.mp rd
  refine ⟨a, kvs, rfl, .inr ⟨od, s _ _ e1⟩, fun p hq => ?_⟩
  have hg : G p = none := s.free hq
  have rr : Reps K (upd G p (.lst (kvs.map fun kv => kV kv.1))) (kds.map fun p => keyV p.1) (kvs.map fun kv => kV kv.1) := by
    have e := kr.keys
    have e2 : (kvs.map fun kv => kV kv.1) = (kds.map (·.1)).map kV := by rw [← e, List.map_map]; rfl
    have e3 : (kds.map fun p => keyV p.1) = (kds.map (·.1)).map keyV := by rw [List.map_map]; rfl
    rw [e2, e3]
    generalize kds.map (·.1) = ks
    generalize upd G p _ = G'
    induction ks with
    | nil => exact .nil
    | cons k ks ih => exact .cons (rep_keyV k) ih
  exact q (.ref p) (.lst (kds.map fun p => keyV p.1)) (upd G p (.lst _)) _ I (Evl.Ex.new hg) (same_upd2 s) (hI.keep hq s) ⟨p, _, rfl, upd_same, rr⟩ pp
end

def cutD (ds : List D) (lo hi : Option Int) : List D := (ds.drop (HT.sIx ds.length 0 lo)).take (HT.sIx ds.length ds.length hi - HT.sIx ds.length 0 lo)
theorem Reps.drop {K : PySem.W.Frag} {G : Hp} : ∀ {ds : List D} {vs : List V} (n : Nat), Reps K G ds vs → Reps K G (ds.drop n) (vs.drop n)
  | _, _, 0, h => h
  | [], _, n + 1, h => by rw [show _ = [] from h]; exact rfl
  | _ :: _, _, n + 1, ⟨v, r, e, _, h3⟩ => by rw [e]; exact Reps.drop n h3
theorem Reps.take {K : PySem.W.Frag} {G : Hp} : ∀ {ds : List D} {vs : List V} (n : Nat), Reps K G ds vs → Reps K G (ds.take n) (vs.take n)
  | [], _, n, h => by rw [show _ = [] from h, List.take_nil, List.take_nil]; exact rfl
  | _ :: _, _, 0, _ => rfl
  | _ :: _, _, n + 1, ⟨v, r, e, h2, h3⟩ => by rw [e]; exact ⟨v, r.take n, rfl, h2, Reps.take n h3⟩
theorem Reps.cut {K : PySem.W.Frag} {G : Hp} {ds : List D} {vs : List V} (h : Reps K G ds vs) (lo hi : Option Int) : Reps K G (cutD ds lo hi) (cutV vs lo hi) := by
  unfold cutD cutV
  rw [h.length]
  exact (h.drop _).take _
theorem cut_take (ds : List D) (n : Nat) : cutD ds none (some (n : Int)) = ds.take n := by
  unfold cutD
  rw [HT.sIx_none, HT.sIx_nat, List.drop_zero, Nat.sub_zero]
  rw [Nat.min_def]
  split
  · rfl
  · rw [List.take_length, List.take_of_length_le (by omega)]
theorem cut_drop (ds : List D) (n : Nat) : cutD ds (some (n : Int)) none = ds.drop n := by
  unfold cutD
  rw [HT.sIx_none, HT.sIx_nat, Nat.min_def]
  split
  · rw [List.take_of_length_le (by simp)]
  · rw [List.drop_length, List.take_nil, List.drop_of_length_le (by omega)]
theorem cut_mid (ds : List D) (n m : Nat) : cutD ds (some (n : Int)) (some (m : Int)) = (ds.drop n).take (m - n) := by
  unfold cutD
  rw [HT.sIx_nat, HT.sIx_nat]
  by_cases h : n ≤ ds.length
  · rw [Nat.min_eq_left h]
    by_cases h2 : m ≤ ds.length
    · rw [Nat.min_eq_left h2]
    · rw [Nat.min_eq_right (show ds.length ≤ m by omega), List.take_of_length_le (show (ds.drop n).length ≤ ds.length - n by simp), List.take_of_length_le (show (ds.drop n).length ≤ m - n by simp; omega)]
  · rw [Nat.min_eq_right (show ds.length ≤ n by omega), List.drop_length, List.take_nil, List.drop_of_length_le (show ds.length ≤ n by omega), List.take_nil]
theorem cut_last (ds : List D) : cutD ds (some (-1)) none = ds.drop (ds.length - 1) := by
  unfold cutD
  have e : HT.sIx ds.length 0 (some (-1)) = ds.length - 1 := by
    show (if (-1 : Int) < 0 then ((-1 : Int) + (ds.length : Int)).toNat else min (-1 : Int).toNat ds.length) = _
    rw [if_pos (by decide)]
    omega
  rw [e, HT.sIx_none, List.take_of_length_le (by simp)]
structure wpO (X : Cx) (o : Option Expr) (σ : L2.St) (H : Hp) (Q : Option Int → Hp → Prop) : Prop where
  run : ∀ (pins : List (Addr × Obj)) (s : Shared), Inv X pins σ H s → wpAny (model X.prog X.w) X.A (evalPart o X.env) (fun u s' => ∃ o H', Inv X pins σ H' s' ∧ IsPart u o ∧ Q o H') X.xe s
section
variable {X : Cx} {a e : Expr} {lo hi : Option Expr} {δ : DEnv} {I : Iv X.K} {pos p2 : Pos} {ds : List D} {l h : Option Int} {i : Int} {z : Str}
theorem poC : PO X lo (wpO X lo) := ⟨fun pins s σ H Q I h => h.run pins s I⟩
def PVO (X : Cx) (I : Iv X.K) (lo : Option Expr) (δ : DEnv) (l : Option Int) : Prop := ∀ (W : WX) (R : Rx X.K) (σ : L2.St) (G H : Hp) (Q : Option Int → Hp → Prop), EnvR X.K G δ σ → Same G H → Hd I G H → Kx X.K W σ G R →
  (∀ G' H', Same G G' → Same G' H' → Hd I G' H' → Q l H') → wpO X lo σ H Q
theorem vo_none : PVO X I none δ none := fun W R σ G H Q _ s hI _ q => ⟨fun pins st J => po_none.run pins st σ H Q J (q G H (Same.refl G) s hI)⟩
theorem vo_some (he : PV X I e δ (.int i)) : PVO X I (some e) δ (some i) := fun W R σ G H Q hE s hI qx q => ⟨fun pins st J => (po_some peC).run pins st σ H Q J
  (he W R (fun z J => z = .int i ∧ J = I) ⟨rfl, rfl⟩ σ G H _ hE s hI qx fun v d G1 H1 I1 s1 t1 g1 r1 ⟨ed, ei⟩ => by
    subst ed ei
    exact ⟨i, r1, q G1 H1 s1 t1 g1⟩)⟩
theorem pv_slice {r : V → Option Int → Option Int → Hp → VK → Prop} {x z : D} (hr : SlR X r) (ha : PV X I a δ x) (hl : PVO X I lo δ l) (hh : PVO X I hi δ h)
    (k : ∀ (G H : Hp) (v : V) (Q : VK), Same G H → Hd I G H → Rep X.K G x v → (∀ (w : V) (G' H' : Hp), Same G G' → Same G' H' → Hd I G' H' → Rep X.K G' z w → Q w H') → r v l h H Q) : PV X I (.Subscript a (.Slice lo hi none p2) pos) δ z := fun W R P pp σ G H Q hE s hI qx q =>
  PE.wp (pe_slice hr peC poC poC) (ha W R (fun y J => y = x ∧ J = I) ⟨rfl, rfl⟩ σ G H _ hE s hI qx fun v d G1 H1 I1 s1 t1 g1 r1 ⟨ed, ei⟩ => by
    subst ed ei
    refine hl W R σ G1 H1 _ (hE.mono s1) t1 g1 (qx.mono s1) fun G2 H2 s2 t2 g2 => ?_
    refine hh W R σ G2 H2 _ (hE.mono (s1.trans s2)) t2 g2 (qx.mono (s1.trans s2)) fun G3 H3 s3 t3 g3 => ?_
    exact k G3 H3 v Q t3 g3 ((r1.mono s2).mono s3) fun w G4 H4 s4 t4 g4 r4 => q w z G4 H4 _ (((s1.trans s2).trans s3).trans s4) t4 g4 r4 pp)
theorem pv_slL (ha : PV X I a δ (.lst ds)) (hl : PVO X I lo δ l) (hh : PVO X I hi δ h) : PV X I (.Subscript a (.Slice lo hi none p2) pos) δ (.lst (cutD ds l h)) :=
  pv_slice sl_list ha hl hh fun G H v Q s hI ⟨b, vs, ev, e1, e2⟩ q => ⟨b, vs, ev, SqL.of (s _ _ e1), fun p hp => by
    have hg : G p = none := s.free hp
    exact q (.ref p) _ _ (Evl.Ex.new hg) (same_upd2 s) (hI.keep hp s) ⟨p, _, rfl, upd_same, (e2.cut l h).mono (Evl.Ex.new hg)⟩⟩
theorem pv_slS (ha : PV X I a δ (.str z)) (hl : PVO X I lo δ l) (hh : PVO X I hi δ h) (hz : z.length ≤ 100000) : PV X I (.Subscript a (.Slice lo hi none p2) pos) δ (.str (cutS z l h)) :=
  pv_slice sl_str ha hl hh fun G H v Q s hI r q => ⟨z, r, by rw [sizeLine_eq]; omega, q (.str _) G H (Same.refl G) s hI rfl⟩
end
end DL
set_option Elab.async false
set_option linter.all false
set_option maxRecDepth 100000
set_option maxHeartbeats 4000000
namespace DL
open PySem PySem.Spec PyProof.Rows L2

def msk : DEnv → DEnv → DEnv
  | a :: as, none :: bs => none :: msk as bs
  | a :: as, some _ :: bs => a :: msk as bs
  | _, _ => []
theorem DLe.refl {δ : DEnv} : DLe δ δ := ⟨rfl, fun _ _ h => h⟩
theorem DLe.trans {a b c : DEnv} (h : DLe a b) (k : DLe b c) : DLe a c := ⟨h.1.trans k.1, fun i d e => h.2 i d (k.2 i d e)⟩
theorem msk_of : ∀ {δ δ0 : DEnv}, msk δ δ0 = δ0 → DLe δ δ0 ∨ δ0.length < δ.length ∨ δ0 = []
  | [], [], _ => .inl .refl
  | [], b :: bs, h => by cases b <;> cases h
  | a :: as, [], _ => .inr (.inr rfl)
  | a :: as, none :: bs, h => by
    have h2 : msk as bs = bs := (List.cons.inj h).2
    rcases msk_of h2 with q | q | q
    · refine .inl ⟨by simp [q.1], fun i d e => ?_⟩
      cases i with
      | zero => cases e
      | succ i => exact q.2 i d e
    · exact .inr (.inl (by simpa using q))
    · subst q
      cases as with
      | nil => exact .inl ⟨rfl, fun i d e => by cases i with
        | zero => cases e
        | succ i => cases e⟩
      | cons _ _ => exact .inr (.inl (by simp))
  | a :: as, some b :: bs, h => by
    have h1 : a = some b := (List.cons.inj h).1
    have h2 : msk as bs = bs := (List.cons.inj h).2
    rcases msk_of h2 with q | q | q
    · refine .inl ⟨by simp [q.1], fun i d e => ?_⟩
      cases i with
      | zero => rw [h1]; exact e
      | succ i => exact q.2 i d e
    · exact .inr (.inl (by simpa using q))
    · subst q
      cases as with
      | nil => exact .inl ⟨rfl, fun i d e => by cases i with
        | zero => rw [h1]; exact e
        | succ i => cases e⟩
      | cons _ _ => exact .inr (.inl (by simp))
theorem DLe.of {δ δ0 : DEnv} (h : msk δ δ0 = δ0) (hl : δ.length = δ0.length) : DLe δ δ0 := by
  rcases msk_of h with q | q | q
  · exact q
  · omega
  · subst q
    exact ⟨hl, fun i d e => by simp at e⟩
theorem DLe.wipe (δ : DEnv) : ∀ vs, DLe δ (wipeD δ vs)
  | [] => .refl
  | v :: vs => (DLe.wipe δ vs).trans ⟨by show _ = ((wipeD δ vs).set v none).length; simp, fun i d e => by
    have e : ((wipeD δ vs).set v none)[i]? = some (some d) := e
    by_cases h : v = i
    · subst h
      rw [List.getElem?_set] at e
      simp at e
    · rwa [List.getElem?_set_ne h] at e⟩
theorem EnvR.le {K : PySem.W.Frag} {G : Hp} {δ δ0 : DEnv} {σ : L2.St} (h : EnvR K G δ σ) (k : DLe δ δ0) : EnvR K G δ0 σ := ⟨h.1.trans k.1, fun i d e => h.2 i d (k.2 i d e)⟩
section
variable {X : Cx} {W : WX} {R : Rx X.K} {tg iter e elt c : Expr} {ifs : List Expr} {scope : Scope} {sts body : List Stmt} {st : Stmt} {δ δ0 : DEnv} {I : Iv X.K} {κ : Ko X.K} {P : D → Iv X.K → Prop} {pos : Pos} {d : D} {vs : List Nat}
theorem SX.le (k : DLe δ δ0) (h : SX X W sts δ0 I κ) : SX X W sts δ I κ := fun σ G H E hE => h σ G H E (hE.le k)
theorem S1.le (k : DLe δ δ0) (h : S1 X W st δ0 I κ) : S1 X W st δ I κ := fun σ G H E hE => h σ G H E (hE.le k)
theorem BindD.le {δ1 : DEnv} (k : DLe δ δ0) (h : BindD X tg d δ0 δ1 vs) : BindD X tg d δ δ1 vs := fun v σ G H Q hE => h v σ G H Q (hE.le k)
theorem KoLe.w {K : PySem.W.Frag} {W : WX} {E : Ends} {G : Hp} {κ : Ko K} (h : KoLe K W E G κ) : KoLe K W E G κ.w where
  nx := fun δ σ G' H' I' s1 s2 hI hE ⟨δ0, k, q⟩ => h.nx δ0 σ G' H' I' s1 s2 hI (hE.le k) q
  bk := fun δ σ G' H' I' s1 s2 hI hE ⟨δ0, k, q⟩ => h.bk δ0 σ G' H' I' s1 s2 hI (hE.le k) q
  ct := fun δ σ G' H' I' s1 s2 hI hE ⟨δ0, k, q⟩ => h.ct δ0 σ G' H' I' s1 s2 hI (hE.le k) q
  rt := h.rt
  ex := h.ex
theorem SX.w (h : SX X W sts δ I κ.w) : SX X W sts δ I κ := fun σ G H E hE s hI k => h σ G H E hE s hI k.w
theorem S1.w (h : S1 X W st δ I κ.w) : S1 X W st δ I κ := fun σ G H E hE s hI k => h σ G H E hE s hI k.w

theorem get_map {α : Type} {g : α → D} {xs : List α} {i : Nat} {d : D} (h : (xs.map g)[i]? = some d) : ∃ x, xs[i]? = some x ∧ d = g x := by
  rw [List.getElem?_map] at h
  cases e : xs[i]? with
  | none => rw [e] at h; cases h
  | some x => rw [e] at h; exact ⟨x, rfl, (Option.some.inj h).symm⟩
theorem s_forT {α : Type} {xs : List α} {g : α → D} (po : PassesOwn (model X.prog X.w) X.A X.env X.xe) (hi : PVI X I tg iter δ (xs.map g)) (Nv : List α → DEnv → Iv X.K → Prop) (h0 : Nv [] δ I)
    (step : ∀ p x r δ' I', xs = p ++ x :: r → Nv p δ' I' → ∃ δ'' vs, BindD X tg (g x) δ' δ'' vs ∧ SX X W body δ'' I' { κ with nx := Nv (p ++ [x]), ct := Nv (p ++ [x]), bk := κ.nx }) (fin : ∀ δ' I', Nv xs δ' I' → κ.nx δ' I')
    (hc : X.calm = true := by rfl) (hs : ∀ x, foldedSetIterable iter X.env x = pure x := by intro _; rfl) : S1 X W (.For tg iter body [] pos) δ I κ :=
  s_for po (hi W (κ.r δ) _ ⟨fun i => Nv (xs.take i), h0, fun i d δ' I' hd nv => by
    obtain ⟨x, hx, rfl⟩ := get_map hd
    have hl := (List.getElem?_eq_some_iff.mp hx).1
    have e : xs = xs.take i ++ x :: xs.drop (i + 1) := by
      rw [← (List.getElem?_eq_some_iff.mp hx).2, List.getElem_cons_drop hl, List.take_append_drop]
    have e2 : xs.take (i + 1) = xs.take i ++ [x] := take_snoc hx
    obtain ⟨δ'', vs, b, q⟩ := step _ x _ δ' I' e nv
    rw [← e2] at q
    exact ⟨δ'', vs, b, q⟩, fun δ' I' nv => fin δ' I' (by rw [List.length_map, List.take_length] at nv; exact nv)⟩) hc hs
def LcH (X : Cx) (W : WX) (R : Rx X.K) (elt tg iter : Expr) (ifs : List Expr) (scope : Scope) (own : List (Str × Nat)) (δ : DEnv) (I : Iv X.K) (P : D → Iv X.K → Prop) : Prop := EvI X W R tg iter δ I fun ds I1 => ds.length ≤ 1000000 ∧ ∃ (Nv : Nat → List D → Prop), Nv 0 [] ∧ (∀ i d ys, ds[i]? = some d → Nv i ys → ∃ (T : Bool → Prop) (δ' : DEnv), (∀ (J : Iv X.K) (s : Shared) (H : Hp) (C : Addr) (cl : List (Str × Addr)) (fp : List Addr),
        BindD (X.blk s H scope (compEnvC scope cl C X.env) fp) tg d (wipeD δ (own.map (·.2))) δ' (own.map (·.2)) ∧
        EvTs (X.blk s H scope (compEnvC scope cl C X.env) fp) W0 R0 ifs δ' (I1.and J) fun b I2 => I2 = I1.and J ∧ T b) ∧
        (T true → ∀ (J : Iv X.K) (s : Shared) (H : Hp) (C : Addr) (cl : List (Str × Addr)) (fp : List Addr), EvX (X.blk s H scope (compEnvC scope cl C X.env) fp) W0 R0 elt δ' (I1.and J) fun y I3 => I3 = I1.and J ∧ Nv (i + 1) (ys ++ [y])) ∧ (T false → Nv (i + 1) ys)) ∧
      ∀ ys, Nv ds.length ys → P (.lst ys) I1
theorem lcH_t {own : List (Str × Nat)} (h : LcH X W R elt tg iter ifs scope own δ I P) {σ : L2.St} {G H : Hp} {Q : VK} (hE : EnvR X.K G δ σ) (s : Same G H) (hI : Hd I G H) (qx : Kx X.K W σ G R) (q : Kv X.K Q G P) :
    tLc (wpI X tg iter) (fun v σ H Q => ∀ s0 H0 C cl fp, wpG (X.blk s0 H0 scope (compEnvC scope cl C X.env) fp) tg v σ H Q) (fun σ H Q => ∀ s0 H0 C cl fp, wpTs (X.blk s0 H0 scope (compEnvC scope cl C X.env) fp) ifs σ H Q)
      (fun σ H Q => ∀ s0 H0 C cl fp, wpE (X.blk s0 H0 scope (compEnvC scope cl C X.env) fp) elt σ H Q) (own.map (·.2)) σ H Q := by
  refine h σ G H _ hE s hI qx fun J ds G1 H1 I1 s1 t1 h1 wk ⟨hz, Nv, n0, step, fin⟩ D hD => ?_
  have gD : G1 D = none := t1.free hD
  have apart : ∀ a, ¬ (I1.F a ∧ a = D) := fun a ha => h1.dom ha.1 (by rw [ha.2]; exact hD)
  refine ⟨fun i m H' => m = ds.length - i ∧ i ≤ ds.length ∧ ∃ ys G', Nv i ys ∧ ys.length ≤ i ∧ Same G1 G' ∧ Same G' H' ∧ Hd (I1.and (iLst X.K D ys)) G' H', ⟨_, rfl, Nat.zero_le _, [], G1, n0, Nat.le_refl _, Same.refl _, same_upd t1 gD, ?_⟩, ?_⟩
  · exact Hd.mk2 (h1.newp hD) ⟨⟨_, upd_same, [], rfl, rfl⟩, fun a ha => by rw [show a = D from ha]; exact gD⟩ apart
  · rintro i m H' ⟨rfl, hi, ys, G', nv, hy, s2, t2, hd2⟩
    by_cases hlt : i < ds.length
    · refine .inr ⟨wk.go i G' H' s2 t2 hlt, fun H3 => ∃ ys3 G3, Nv (i + 1) ys3 ∧ ys3.length ≤ i + 1 ∧ Same G1 G3 ∧ Same G3 H3 ∧ Hd (I1.and (iLst X.K D ys3)) G3 H3, fun H3 ⟨ys3, G3, q1, q2, q3, q4, q5⟩ => ⟨ds.length - (i + 1), by omega, rfl, hlt, ys3, G3, q1, q2, q3, q4, q5⟩, fun x H3 hyl => ?_⟩
      obtain ⟨G3, s3, t3, h3, _, d, hd, rd⟩ := wk.yld i G' H' _ x H3 s2 t2 hd2 hlt hyl
      obtain ⟨T, δ', stA, stB, stC⟩ := step i d ys hd nv
      intro s0 H0 C cl fp
      refine (stA (iLst X.K D ys) s0 H0 C cl fp).1 x _ G3 H3 _ (((hE.mono s1).mono (s2.trans s3)).wipe _) t3 rd fun σ4 e4 ew => ⟨by rw [ew, wipe_wipe], ?_⟩
      intro s0 H0 C cl fp
      refine (stA (iLst X.K D ys) s0 H0 C cl fp).2 σ4 G3 H3 _ e4 t3 h3 kx0 fun b G4 H4 I4 s4 t4 h4 ⟨eI, pb⟩ => ?_
      subst eI
      cases b with
      | false => exact ⟨ys, G4, stC pb, by omega, (s2.trans s3).trans s4, t4, h4⟩
      | true =>
        intro s0 H0 C cl fp
        refine stB pb (iLst X.K D ys) s0 H0 C cl fp σ4 G4 H4 _ (e4.mono s4) t4 h4 kx0 fun y dy G5 H5 I5 s5 t5 h5 r5 ⟨eI, nv5⟩ => ?_
        subst eI
        obtain ⟨o, ho, vs, ev, rv⟩ := h5.right.ph
        subst ev
        have g5 : G5 D = none := h5.right.fr D rfl
        refine ⟨vs, ho, ?_, ys ++ [dy], G5, nv5, by simp; omega, ((s2.trans s3).trans s4).trans s5, same_upd t5 g5, ?_⟩
        · rw [rv.length, sizeLine_eq]; omega
        · refine Hd.mk2 (h5.left.chg fun hf => apart D ⟨hf, rfl⟩) ⟨⟨_, upd_same, _, rfl, rv.append (Reps.one r5)⟩, h5.right.fr⟩ apart
    · have ei : i = ds.length := by omega
      subst ei
      obtain ⟨o, ho, vs, ev, rv⟩ := hd2.right.ph
      subst ev
      have g5 : G' D = none := hd2.right.fr D rfl
      refine .inl ⟨wk.stop G' H' s2 t2, q (.ref D) (.lst ys) (upd G' D (.lst vs)) H' I1 ((s1.trans s2).trans (Evl.Ex.new g5)) (same_freeze t2 ho) ?_ ⟨D, vs, rfl, upd_same, rv.mono (Evl.Ex.new g5)⟩ (fin ys nv)⟩
      exact ⟨I1.loc G' _ H' H' (Evl.Ex.new g5) (fun _ _ => rfl) hd2.left.ph, fun a ha => by rw [upd_ne fun e => apart a ⟨ha, e⟩]; exact hd2.left.fr a ha⟩
theorem ev_lcG (own : List (Str × Nat)) (hN : X.N.Nodup) (ok : BlkOk X.N X.env.scope scope own) (h : LcH X W R elt tg iter ifs scope own δ I P)
    (hc : X.calm = true := by rfl) (hs : ∀ x, foldedSetIterable iter X.env x = pure x := by intro _; rfl) : EvX X W R (.ListComp elt [⟨tg, iter, ifs, 0⟩] scope pos) δ I P := fun σ G H Q hE s hI qx q =>
  PE.wp (pe_lc hc hN piC ok (fun s0 H0 C cl fp => ⟨fun pins s σ H v u Q J r k => (k s0 H0 C cl fp).run pins s u J r⟩) (fun s0 H0 C cl fp => ⟨fun pins s σ H Q J k => (k s0 H0 C cl fp).run pins s J⟩) (fun s0 H0 C cl fp => ⟨fun pins s σ H Q J k => (k s0 H0 C cl fp).run pins s J⟩) hs) (lcH_t h hE s hI qx q)
theorem s_setLc (i : Nat) {y : Str} {py spos : Pos} (own : List (Str × Nat)) (h : LcH X W (κ.r δ) elt tg iter ifs scope own δ I fun d I1 => κ.nx (δ.set i (some d)) I1) (hN : X.N.Nodup := by assumption) (hi : X.N[i]? = some y := by rfl) (hyl : X.env.scope.names.lookup y = some .local := by rfl)
    (hsw : swapsWith (.ListComp elt [⟨tg, iter, ifs, 0⟩] scope pos) (some (.Name y py)) spos.line X.env = pure true := by exact sw_true rfl rfl rfl (by decide +kernel)) (ok : blkC X.N X.env.scope scope own = true := by rfl)
    (hc : X.calm = true := by rfl) (hs : ∀ x, foldedSetIterable iter X.env x = pure x := by intro _; rfl) : S1 X W (.Assign [.Name y py] (.ListComp elt [⟨tg, iter, ifs, 0⟩] scope pos) spos) δ I κ := fun σ G H E hE s hI k =>
  PS.wp (ps_setLc hc hN hi hyl hsw piC (blkOk_by ok) (fun s0 H0 C cl fp => ⟨fun pins s σ H v u Q J r k => (k s0 H0 C cl fp).run pins s u J r⟩) (fun s0 H0 C cl fp => ⟨fun pins s σ H Q J k => (k s0 H0 C cl fp).run pins s J⟩) (fun s0 H0 C cl fp => ⟨fun pins s σ H Q J k => (k s0 H0 C cl fp).run pins s J⟩) hs)
    (lcH_t h hE s hI (k.kx hE) fun v d G1 H1 I1 s1 t1 h1 r1 p => k.nx _ _ G1 H1 I1 s1 t1 h1 ((hE.mono s1).set r1) p)
theorem take_filter {α : Type} {xs : List α} {i : Nat} {x : α} (t : α → Bool) (h : xs[i]? = some x) : (xs.take (i + 1)).filter t = (xs.take i).filter t ++ if t x = true then [x] else [] := by
  rw [take_snoc h, List.filter_append]
  cases q : t x <;> simp [q]
theorem lcT {α : Type} {xs : List α} {g : α → D} (f : α → D) (t : α → Bool) (own : List (Str × Nat)) (δ' : α → DEnv) (hi : PVI X I tg iter δ (xs.map g)) (hz : xs.length ≤ 1000000)
    (hb : ∀ (x : α) (s : Shared) (H : Hp) (C : Addr) (cl : List (Str × Addr)) (fp : List Addr), BindD (X.blk s H scope (compEnvC scope cl C X.env) fp) tg (g x) (wipeD δ (own.map (·.2))) (δ' x) (own.map (·.2)))
    (ht : ∀ x, x ∈ xs → ∀ (J : Iv X.K) (s : Shared) (H : Hp) (C : Addr) (cl : List (Str × Addr)) (fp : List Addr), PVT (X.blk s H scope (compEnvC scope cl C X.env) fp) (I.and J) c (δ' x) (t x))
    (he : ∀ x, x ∈ xs → t x = true → ∀ (J : Iv X.K) (s : Shared) (H : Hp) (C : Addr) (cl : List (Str × Addr)) (fp : List Addr), PV (X.blk s H scope (compEnvC scope cl C X.env) fp) (I.and J) elt (δ' x) (f x)) (pp : P (.lst ((xs.filter t).map f)) I) : LcH X W R elt tg iter [c] scope own δ I P := by
  refine hi W R _ ⟨by simpa using hz, fun i ys => ys = ((xs.take i).filter t).map f, rfl, ?_, fun ys e => ?_⟩
  · rintro i d ys hd rfl
    obtain ⟨x, hx, rfl⟩ := get_map hd
    have hm : x ∈ xs := List.mem_of_getElem? hx
    refine ⟨fun b => b = t x, δ' x, fun J s H C cl fp => ⟨hb x s H C cl fp, ets_one ((ht x hm J s H C cl fp).ev ⟨rfl, rfl⟩)⟩, fun e J s H C cl fp => ((he x hm e.symm J s H C cl fp).ev ⟨rfl, ?_⟩), fun e => ?_⟩
    · show _ = ((xs.take (i + 1)).filter t).map f
      rw [take_filter t hx, ← e]; simp
    · show _ = ((xs.take (i + 1)).filter t).map f
      rw [take_filter t hx, ← e]; simp
  · have e : ys = ((xs.take (xs.map g).length).filter t).map f := e
    rw [List.length_map, List.take_length] at e
    rw [e]; exact pp
theorem lcM {α : Type} {xs : List α} {g : α → D} (f : α → D) (own : List (Str × Nat)) (δ' : α → DEnv) (hi : PVI X I tg iter δ (xs.map g)) (hz : xs.length ≤ 1000000)
    (hb : ∀ (x : α) (s : Shared) (H : Hp) (C : Addr) (cl : List (Str × Addr)) (fp : List Addr), BindD (X.blk s H scope (compEnvC scope cl C X.env) fp) tg (g x) (wipeD δ (own.map (·.2))) (δ' x) (own.map (·.2)))
    (he : ∀ x, x ∈ xs → ∀ (J : Iv X.K) (s : Shared) (H : Hp) (C : Addr) (cl : List (Str × Addr)) (fp : List Addr), PV (X.blk s H scope (compEnvC scope cl C X.env) fp) (I.and J) elt (δ' x) (f x)) (pp : P (.lst (xs.map f)) I) : LcH X W R elt tg iter [] scope own δ I P := by
  refine hi W R _ ⟨by simpa using hz, fun i ys => ys = (xs.take i).map f, rfl, ?_, fun ys e => ?_⟩
  · rintro i d ys hd rfl
    obtain ⟨x, hx, rfl⟩ := get_map hd
    have hm : x ∈ xs := List.mem_of_getElem? hx
    refine ⟨fun b => b = true, δ' x, fun J s H C cl fp => ⟨hb x s H C cl fp, ets_nil ⟨rfl, rfl⟩⟩, fun e J s H C cl fp => ((he x hm J s H C cl fp).ev ⟨rfl, ?_⟩), fun e => nomatch (show false = true from e)⟩
    show _ = (xs.take (i + 1)).map f
    rw [take_snoc hx, List.map_append]; rfl
  · have e : ys = (xs.take (xs.map g).length).map f := e
    rw [List.length_map, List.take_length] at e
    rw [e]; exact pp
theorem pv_lcT {α : Type} {xs : List α} {g : α → D} (f : α → D) (t : α → Bool) (own : List (Str × Nat)) (δ' : α → DEnv) (hi : PVI X I tg iter δ (xs.map g)) (hz : xs.length ≤ 1000000)
    (hb : ∀ (x : α) (s : Shared) (H : Hp) (C : Addr) (cl : List (Str × Addr)) (fp : List Addr), BindD (X.blk s H scope (compEnvC scope cl C X.env) fp) tg (g x) (wipeD δ (own.map (·.2))) (δ' x) (own.map (·.2)))
    (ht : ∀ x, x ∈ xs → ∀ (J : Iv X.K) (s : Shared) (H : Hp) (C : Addr) (cl : List (Str × Addr)) (fp : List Addr), PVT (X.blk s H scope (compEnvC scope cl C X.env) fp) (I.and J) c (δ' x) (t x))
    (he : ∀ x, x ∈ xs → t x = true → ∀ (J : Iv X.K) (s : Shared) (H : Hp) (C : Addr) (cl : List (Str × Addr)) (fp : List Addr), PV (X.blk s H scope (compEnvC scope cl C X.env) fp) (I.and J) elt (δ' x) (f x))
    (hN : X.N.Nodup := by assumption) (ok : blkC X.N X.env.scope scope own = true := by rfl)
    (hc : X.calm = true := by rfl) (hs : ∀ x, foldedSetIterable iter X.env x = pure x := by intro _; rfl) : PV X I (.ListComp elt [⟨tg, iter, [c], 0⟩] scope pos) δ (.lst ((xs.filter t).map f)) := fun W R P pp =>
  ev_lcG own hN (blkOk_by ok) (lcT f t own δ' hi hz hb ht he pp) hc hs
theorem pv_lcTM {α : Type} {xs : List α} {g : α → D} (f : α → D) (own : List (Str × Nat)) (δ' : α → DEnv) (hi : PVI X I tg iter δ (xs.map g)) (hz : xs.length ≤ 1000000)
    (hb : ∀ (x : α) (s : Shared) (H : Hp) (C : Addr) (cl : List (Str × Addr)) (fp : List Addr), BindD (X.blk s H scope (compEnvC scope cl C X.env) fp) tg (g x) (wipeD δ (own.map (·.2))) (δ' x) (own.map (·.2)))
    (he : ∀ x, x ∈ xs → ∀ (J : Iv X.K) (s : Shared) (H : Hp) (C : Addr) (cl : List (Str × Addr)) (fp : List Addr), PV (X.blk s H scope (compEnvC scope cl C X.env) fp) (I.and J) elt (δ' x) (f x))
    (hN : X.N.Nodup := by assumption) (ok : blkC X.N X.env.scope scope own = true := by rfl)
    (hc : X.calm = true := by rfl) (hs : ∀ x, foldedSetIterable iter X.env x = pure x := by intro _; rfl) : PV X I (.ListComp elt [⟨tg, iter, [], 0⟩] scope pos) δ (.lst (xs.map f)) := fun W R P pp =>
  ev_lcG own hN (blkOk_by ok) (lcM f own δ' hi hz hb he pp) hc hs
end

section
variable {X : Cx} {W : WX} {R : Rx X.K} {tg iter kx vx : Expr} {scope : Scope} {δ : DEnv} {I : Iv X.K} {P : D → Iv X.K → Prop} {pos : Pos}
theorem putG_new {α : Type} {acc : List (Key × α)} {k : Key} {v : α} (h : k ∉ acc.map (·.1)) : putG acc k v = acc ++ [(k, v)] := by
  unfold putG
  rw [if_neg]
  intro q
  obtain ⟨z, hz, e⟩ := List.any_eq_true.mp q
  exact h (List.mem_map.mpr ⟨z, hz, of_decide_eq_true e⟩)
theorem pv_dcT {α : Type} {xs : List α} {g : α → D} (fk : α → Key) (f : α → D) (own : List (Str × Nat)) (δ' : α → DEnv) (hi : PVI X I tg iter δ (xs.map g)) (hz : xs.length ≤ 1000000)
    (hb : ∀ (x : α) (s : Shared) (H : Hp) (C : Addr) (cl : List (Str × Addr)) (fp : List Addr), BindD (X.blk s H scope (compEnvC scope cl C X.env) fp) tg (g x) (wipeD δ (own.map (·.2))) (δ' x) (own.map (·.2)))
    (hk : ∀ x, x ∈ xs → ∀ (J : Iv X.K) (s : Shared) (H : Hp) (C : Addr) (cl : List (Str × Addr)) (fp : List Addr), PV (X.blk s H scope (compEnvC scope cl C X.env) fp) (I.and J) kx (δ' x) (keyV (fk x)))
    (he : ∀ x, x ∈ xs → ∀ (J : Iv X.K) (s : Shared) (H : Hp) (C : Addr) (cl : List (Str × Addr)) (fp : List Addr), PV (X.blk s H scope (compEnvC scope cl C X.env) fp) (I.and J) vx (δ' x) (f x))
    (nd : (xs.map fk).Nodup)
    (hN : X.N.Nodup := by assumption) (ok : blkC X.N X.env.scope scope own = true := by rfl)
    (hc : X.calm = true := by rfl) (hs : ∀ x, foldedSetIterable iter X.env x = pure x := by intro _; rfl) : PV X I (.DictComp kx vx [⟨tg, iter, [], 0⟩] scope pos) δ (dicD (xs.map fun x => (fk x, f x))) := fun W R P pp => by
  refine ev_freezeD fun σ G H Q hE s hI qx q => ?_
  refine PE.wp (pe_dc (wi := wpI X tg iter) (g := fun v σ H Q => ∀ s0 H0 C cl fp, wpG (X.blk s0 H0 scope (compEnvC scope cl C X.env) fp) tg v σ H Q) (tt := fun σ H Q => ∀ s0 H0 C cl fp, wpTs (X.blk s0 H0 scope (compEnvC scope cl C X.env) fp) [] σ H Q)
    (tk := fun σ H Q => ∀ s0 H0 C cl fp, wpE (X.blk s0 H0 scope (compEnvC scope cl C X.env) fp) kx σ H Q) (tv := fun σ H Q => ∀ s0 H0 C cl fp, wpE (X.blk s0 H0 scope (compEnvC scope cl C X.env) fp) vx σ H Q) hc hN piC (blkOk_by ok)
    (fun s0 H0 C cl fp => ⟨fun pins s σ H v u Q J r k => (k s0 H0 C cl fp).run pins s u J r⟩) (fun s0 H0 C cl fp => ⟨fun pins s σ H Q J k => (k s0 H0 C cl fp).run pins s J⟩) (fun s0 H0 C cl fp => ⟨fun pins s σ H Q J k => (k s0 H0 C cl fp).run pins s J⟩) (fun s0 H0 C cl fp => ⟨fun pins s σ H Q J k => (k s0 H0 C cl fp).run pins s J⟩) hs) ?_
  refine hi W R (fun ds J => ds = xs.map g ∧ J = I) ⟨rfl, rfl⟩ σ G H _ hE s hI qx fun J ds G1 H1 I1 s1 t1 h1 wk ⟨ed, ei⟩ D hD => ?_
  subst ed ei
  have gD : G1 D = none := t1.free hD
  have apart : ∀ a, ¬ (I1.F a ∧ a = D) := fun a ha => h1.dom ha.1 (by rw [ha.2]; exact hD)
  refine ⟨fun i m H' => m = xs.length - i ∧ i ≤ xs.length ∧ ∃ G', Same G1 G' ∧ Same G' H' ∧ Hd (I1.and (iDic X.K D ((xs.take i).map fun x => (fk x, f x)))) G' H', ⟨_, rfl, Nat.zero_le _, G1, Same.refl _, same_upd t1 gD, ?_⟩, ?_⟩
  · exact Hd.mk2 (h1.newp hD) ⟨⟨_, upd_same, [], rfl, rfl⟩, fun a ha => by rw [show a = D from ha]; exact gD⟩ apart
  · rintro i m H' ⟨rfl, hi, G', s2, t2, hd2⟩
    by_cases hlt : i < xs.length
    · refine .inr ⟨wk.go i G' H' s2 t2 (by simpa using hlt), fun H3 => ∃ G3, Same G1 G3 ∧ Same G3 H3 ∧ Hd (I1.and (iDic X.K D ((xs.take (i + 1)).map fun x => (fk x, f x)))) G3 H3, fun H3 ⟨G3, q3, q4, q5⟩ => ⟨xs.length - (i + 1), by omega, rfl, hlt, G3, q3, q4, q5⟩, fun x H3 hyl => ?_⟩
      obtain ⟨G3, s3, t3, h3, _, d, hd, rd⟩ := wk.yld i G' H' _ x H3 s2 t2 hd2 (by simpa using hlt) hyl
      obtain ⟨x0, hx, rfl⟩ := get_map hd
      have hm : x0 ∈ xs := List.mem_of_getElem? hx
      intro s0 H0 C cl fp
      refine hb x0 s0 H0 C cl fp x _ G3 H3 _ (((hE.mono s1).mono (s2.trans s3)).wipe _) t3 rd fun σ4 e4 ew => ⟨by rw [ew, wipe_wipe], ?_⟩
      intro s0 H0 C cl fp
      refine (ets_nil (X := X.blk s0 H0 scope (compEnvC scope cl C X.env) fp) (PB := fun b I2 => b = true ∧ I2 = I1.and (iDic X.K D ((xs.take i).map fun x => (fk x, f x)))) ⟨rfl, rfl⟩) σ4 G3 H3 _ e4 t3 h3 kx0 fun b G4 H4 I4 s4 t4 h4 ⟨eb, eI⟩ => ?_
      subst eb eI
      rw [if_pos rfl]
      intro s0 H0 C cl fp
      refine hk x0 hm (iDic X.K D _) s0 H0 C cl fp W0 R0 (fun z J => z = keyV (fk x0) ∧ J = I1.and (iDic X.K D ((xs.take i).map fun x => (fk x, f x)))) ⟨rfl, rfl⟩ σ4 G4 H4 _ (e4.mono s4) t4 h4 kx0 fun y dy G5 H5 I5 s5 t5 h5 r5 ⟨ey, eI⟩ => ?_
      subst ey eI
      intro s0 H0 C cl fp
      refine he x0 hm (iDic X.K D _) s0 H0 C cl fp W0 R0 (fun z J => z = f x0 ∧ J = I1.and (iDic X.K D ((xs.take i).map fun x => (fk x, f x)))) ⟨rfl, rfl⟩ σ4 G5 H5 _ ((e4.mono s4).mono s5) t5 h5 kx0 fun y2 dy2 G6 H6 I6 s6 t6 h6 r6 ⟨ey2, eI2⟩ => ?_
      subst ey2 eI2
      obtain ⟨o, ho, kvs, ev, kr⟩ := h6.right.ph
      subst ev
      have g6 : G6 D = none := h6.right.fr D rfl
      have hkey : y = kV (fk x0) := by
        have := rep_keyV (K := X.K) (G := G5) (fk x0)
        cases hh : fk x0 with
        | inl i => rw [hh] at r5; exact r5
        | inr t => rw [hh] at r5; exact r5
      have hnew : fk x0 ∉ (((xs.take i).map fun x => (fk x, f x)).map (·.1)) := by
        rw [List.map_map]
        intro q
        have e2 : xs.map fk = (xs.take i).map fk ++ fk x0 :: (xs.drop (i + 1)).map fk := by
          have e : xs = xs.take i ++ x0 :: xs.drop (i + 1) := by
            have hl := (List.getElem?_eq_some_iff.mp hx).1
            rw [← (List.getElem?_eq_some_iff.mp hx).2, List.getElem_cons_drop hl, List.take_append_drop]
          conv => lhs; rw [e]
          rw [List.map_append, List.map_cons]
        rw [e2] at nd
        exact (List.nodup_append.mp nd).2.2 _ q _ (List.mem_cons_self ..) rfl
      refine ⟨kvs, fk x0, hkey, ho, ?_, G6, (((s2.trans s3).trans s4).trans s5).trans s6, same_upd t6 g6, ?_⟩
      · rw [kr.length, List.length_map, List.length_take, sizeLine_eq]; omega
      · have e7 : (xs.take (i + 1)).map (fun x => (fk x, f x)) = putG ((xs.take i).map fun x => (fk x, f x)) (fk x0) (f x0) := by
          rw [putG_new hnew, take_snoc hx, List.map_append]; rfl
        rw [e7]
        exact Hd.mk2 (h6.left.chg fun hf => apart D ⟨hf, rfl⟩) ⟨⟨_, upd_same, _, rfl, kr.put r6⟩, h6.right.fr⟩ apart
    · have ei : i = xs.length := by omega
      subst ei
      rw [List.take_length] at hd2
      refine .inl ⟨by have := wk.stop G' H' s2 t2; rwa [List.length_map] at this, q (.ref D) (.adr D) G' H' (I1.and (iDic X.K D (xs.map fun x => (fk x, f x)))) (s1.trans s2) t2 hd2 rfl ⟨D, _, I1, rfl, rfl, pp⟩⟩
end
end DL
set_option Elab.async false
set_option linter.all false
set_option maxRecDepth 100000
set_option maxHeartbeats 4000000
namespace DL
open PySem PySem.Spec PyProof.Rows L2
def rIsiTT (K : PySem.W.Frag) : List V → Hp → VK → Prop := fun xs H Q => ∃ (x : V) (tp : Addr) (cs : List V) (t : Value) (us : List Value) (b : Bool), xs = [x, .ref tp] ∧ SqT K H tp cs ∧ Paired ClsV cs us ∧ TyX K H x t ∧ PySem.W.kitAny K t us = some b ∧ Q (.bl b) H
theorem call_isiTT {X : Cx} : CallR X (.builtin "isinstance") (rIsiTT X.K) := by
  intro pins s σ H xs us Q I r h
  obtain ⟨x, tp, cs, t, ws, b, rfl, hT, k, ty, e, q⟩ := h
  obtain ⟨u1, u2, rfl, r1, r2⟩ := vals2 r
  cases (show u2 = Value.ref tp from r2)
  obtain ⟨P, Z, p, hx⟩ := kit_of I r1 ty
  obtain ⟨its, rv, ⟨o, h1, h2, n, h3⟩, _⟩ := I.tuple hT
  have e3 := ClsV.all k rv
  subst e3
  obtain ⟨oc, od, dt, sl⟩ := o
  simp only at h2 h3
  subst h2 h3
  exact PySem.W.kia_tup Z I.kIn p h1 e hx fun tk => ⟨.bl b, H, I.tok tk, rfl, q⟩
theorem pn_isiT2 {K : PySem.W.Frag} {I : Iv K} {d : D} {t u1 u2 : String} {b : Bool} (h : tyD d = some t) (hb : PySem.W.kitAny K (.type t) [.type u1, .type u2] = some b) : PN K I (rIsiTT K) [d, .tup [.ty u1, .ty u2]] (.bl b) := fun P p G H vs Q s hI ⟨v, r, e1, e2, v2, r2, e3, ⟨tp, cs, ec, st, w1, r1, ew, q1, w2, r2', ew2, q2, er⟩, e5⟩ q => by
  subst e1 e3 ec ew ew2
  rw [show r2' = [] from er, show w1 = .ty u1 from q1, show w2 = .ty u2 from q2] at st
  rw [show r2 = [] from e5]
  exact ⟨v, tp, _, .type t, [.type u1, .type u2], b, rfl, sqT_mono s st, .cons (.ty u1) (.cons (.ty u2) .nil), tyX_of s e2 h, hb, q _ (.bl b) G H I (Same.refl G) s hI rfl p⟩
theorem kit2 {K : PySem.W.Frag} {t u1 u2 : String} {b1 b2 : Bool} (h1 : kitB t u1 = some b1) (h2 : kitB t u2 = some b2) : PySem.W.kitAny K (.type t) [.type u1, .type u2] = some (b1 || b2) :=
  kitAny_cons (kit_ty h1) (fun e => kitAny_cons (kit_ty h2) (fun e2 => by rw [e, e2]; rfl) (fun e2 => by rw [e2, e]; rfl)) (fun e => by rw [e]; rfl)

class LenC (x : D) (n : outParam Int) (C : outParam Prop) : Prop where
  h : C → ∀ (X : Cx) (I : Iv X.K), ∃ r, CallR X (.builtin "len") r ∧ PN X.K I r [x] (.int n)
instance {ds : List D} : LenC (.lst ds) (ds.length : Int) True := ⟨fun _ X I => ⟨_, call_len_seq, pn_lenL⟩⟩
instance {ds : List D} : LenC (.tup ds) (ds.length : Int) True := ⟨fun _ X I => ⟨_, call_len_seq, pn_lenT⟩⟩
instance {ds : List D} : LenC (.lsf ds) (ds.length : Int) True := ⟨fun _ X I => ⟨_, call_len_seq, fun P p G H vs Q s hI ⟨v, r, e1, ⟨a, xs, ea, e2, e3⟩, er⟩ q => by
  rw [e1, ea, show r = [] from er]
  exact ⟨a, xs, rfl, .inl (sqL_mono s e2), by rw [e3.length]; exact q _ (.int ds.length) G H _ (Same.refl G) s hI rfl p⟩⟩⟩
instance {s : Str} : LenC (.str s) (s.length : Int) (s.length ≤ 100000) := ⟨fun c X I => ⟨_, call_len_str, pn_lenS c⟩⟩
theorem call_lenDR {X : Cx} : CallR X (.builtin "len") (fun xs H Q => ∃ a kvs, xs = [V.ref a] ∧ Rd H a (.dK kvs) ∧ Q (.int kvs.length) H) := by
  intro pins s σ H xs us Q I r h
  obtain ⟨a, kvs, rfl, ha, q⟩ := h
  obtain ⟨u, rfl, ru⟩ := vals1 r
  cases ru
  exact d_len I ha fun t s' I' => ⟨.int kvs.length, H, I', ⟨t, rfl⟩, q⟩
theorem lenC_dic {kds : List (Key × D)} : LenC (dicD kds) (kds.length : Int) True := ⟨fun _ X I => ⟨_, call_lenDR, fun P p G H vs Q s hI ⟨v, r, e1, rd, er⟩ q => by
  obtain ⟨a, od, kvs, rfl, e2, kr⟩ := rep_dicD.mp rd
  rw [e1, show r = [] from er]
  exact ⟨a, kvs, rfl, .inr ⟨od, s _ _ e2⟩, by rw [kr.length]; exact q _ (.int kds.length) G H _ (Same.refl G) s hI rfl p⟩⟩⟩
instance {kds : List (Key × D)} : LenC (dicD kds) (kds.length : Int) True := lenC_dic
instance {ks : List Key} {ds : List D} : LenC (.dic ks ds) (ds.length : Int) (ks.length = ds.length) := ⟨fun c X I => by
  have e : dicD (ks.zip ds) = .dic ks ds := by
    show D.dic ((ks.zip ds).map (·.1)) ((ks.zip ds).map (·.2)) = _
    rw [show (ks.zip ds).map (·.1) = ks from List.map_fst_zip (by omega), show (ks.zip ds).map (·.2) = ds from List.map_snd_zip (by omega)]
  obtain ⟨r, h1, h2⟩ := (lenC_dic (kds := ks.zip ds)).h trivial X I
  rw [e] at h2
  have e2 : (ks.zip ds).length = ds.length := by rw [List.length_zip]; omega
  rw [e2] at h2
  exact ⟨r, h1, h2⟩⟩
section
variable {X : Cx} {I : Iv X.K} {a b c e o : Expr} {es : List Expr} {δ : DEnv} {pos p : Pos} {x y z : D} {n : Int} {C : Prop} {k : Bool} {W : WX} {κ : Ko X.K} {ds fs : List D} {q : Addr}
theorem pv_len (hm : X.mg "len" = none) (ha : PV X I a δ x) [L : LenC x n C] (c : C) (hg : Gl X "len" := by rfl) (h1 : starEach [a] X.env = (false, eval a X.env) :: starEach [] X.env := by rfl) (hpl : (backTo pos (starEach [] X.env)).any (·.1) = false := by rfl) : PV X I (.Call (.Name "len" p) [a] [] pos) δ (.int n) := by
  obtain ⟨r, h1', h2⟩ := L.h c X I
  exact pv_cb h1' hm (va_cons ha va_nil h1) h2 (by decide +kernel) hg (by decide) (by decide) h1 hpl
end
def allStr : List D → Bool
  | [] => true
  | .str _ :: ds => allStr ds
  | _ => false
def strIn (s : Str) : List D → Bool
  | [] => false
  | .str t :: ds => decide (s = t) || strIn s ds
  | _ :: ds => strIn s ds
@[simp] theorem strIn_map (s : Str) : ∀ ws : List Str, strIn s (ws.map D.str) = decide (s ∈ ws)
  | [] => by simp [strIn]
  | w :: ws => by
    show (decide (s = w) || strIn s (ws.map D.str)) = _
    rw [strIn_map s ws]
    exact Bool.eq_iff_iff.mpr (by simp)
@[simp] theorem allStr_map : ∀ ws : List Str, allStr (ws.map D.str) = true
  | [] => rfl
  | _ :: ws => allStr_map ws
theorem allStr_ex : ∀ {ds : List D}, allStr ds = true → ∃ ws : List Str, ds = ws.map D.str
  | [], _ => ⟨[], rfl⟩
  | d :: ds, h => by
    cases d <;> first | cases h | skip
    rename_i s
    obtain ⟨ws, e⟩ := allStr_ex (ds := ds) h
    exact ⟨s :: ws, by rw [e]; rfl⟩
class InC (x y : D) (b : outParam Bool) (C : outParam Prop) : Prop where
  e : C → ∀ (X : Cx) (I : Iv X.K), X.A.units + 65 < cLine → ∃ r, OpR X (compareOp .In) r ∧ P2 X.K I r x y (.bl b)
  n : C → ∀ (X : Cx) (I : Iv X.K), X.A.units + 65 < cLine → ∃ r, OpR X (compareOp .NotIn) r ∧ P2 X.K I r x y (.bl (!b))
instance {s : Str} {ds : List D} : InC (.str s) (.tup ds) (strIn s ds) (allStr ds = true) := ⟨fun c X I _ => by
  obtain ⟨ws, rfl⟩ := allStr_ex c
  rw [strIn_map]; exact ⟨_, op_in_seq, p2_inStr⟩, fun c X I _ => by
  obtain ⟨ws, rfl⟩ := allStr_ex c
  rw [strIn_map]; exact ⟨_, op_notIn_seq, p2_ninStr⟩⟩
instance {s : Str} {ds : List D} : InC (.str s) (.lst ds) (strIn s ds) (allStr ds = true) := ⟨fun c X I _ => by
  obtain ⟨ws, rfl⟩ := allStr_ex c
  rw [strIn_map]; exact ⟨_, op_in_seq, p2_inStrL⟩, fun c X I _ => by
  obtain ⟨ws, rfl⟩ := allStr_ex c
  rw [strIn_map]; exact ⟨_, op_notIn_seq, p2_ninStrL⟩⟩
theorem InC.data {x z : D} {ds : List D} (hz : itemsD z = some ds) : InC x z (ds.any fun y => eqD y x) (OkD 64 x ∧ ∀ d ∈ ds, OkD 64 d) :=
  ⟨fun c X I hu => ⟨_, op_inDT hu, p2_inD hz c.1 c.2⟩, fun c X I hu => ⟨_, op_notInDT hu, p2_ninD hz c.1 c.2⟩⟩
instance {xs ds : List D} : InC (.tup xs) (.tup ds) (ds.any fun y => eqD y (.tup xs)) (OkD 64 (.tup xs) ∧ ∀ d ∈ ds, OkD 64 d) := .data rfl
instance {xs ds : List D} : InC (.tup xs) (.lst ds) (ds.any fun y => eqD y (.tup xs)) (OkD 64 (.tup xs) ∧ ∀ d ∈ ds, OkD 64 d) := .data rfl
section
variable {X : Cx} {I : Iv X.K} {a b c e o : Expr} {es : List Expr} {δ : DEnv} {pos p : Pos} {x y z : D} {n : Int} {C : Prop} {k : Bool} {W : WX} {κ : Ko X.K} {ds fs : List D} {q : Addr}
theorem ev_lstM' {R : Rx X.K} {P : D → Iv X.K → Prop} (h : PVA X I es δ ds) (hl : ds.length ≤ 1000) (hp : ∀ p, P (.adr p) (I.and (iLst X.K p ds))) : EvX X W R (.List es pos) δ I P := ev_lstM h hl fun p _ => hp p
end
section
variable {K : PySem.W.Frag} {I : Iv K} {d : D} {ds : List D}
theorem pn_tupL (h : d = .lst ds ∨ d = .lsf ds ∨ d = .tup ds) : PN K I (fun xs H Q => ∃ p ys, xs = [.ref p] ∧ ((SqL K H p ys ∧ ∀ l, H l = none → Q (.ref l) (upd H l (.tup ys))) ∨ (SqT K H p ys ∧ Q (.ref p) H))) [d] (.tup ds) := fun P pp G H vs Q s hI ⟨v, r, e1, rd, er⟩ q => by
  rw [e1, show r = [] from er]
  have fin : ∀ ys l, Reps K G ds ys → H l = none → Q (.ref l) (upd H l (.tup ys)) := fun ys l rr hl => by
    have hg : G l = none := s.free hl
    exact q (.ref l) (.tup ds) (upd G l (.tup ys)) _ I (Evl.Ex.new hg) (same_upd2 s) (hI.keep hl s) ⟨l, ys, rfl, SqT.of upd_same, rr.mono (Evl.Ex.new hg)⟩ pp
  rcases h with e | e | e
  · subst e
    obtain ⟨a, ys, ea, e2, e3⟩ := rd
    exact ⟨a, ys, by rw [ea], .inl ⟨SqL.of (s _ _ e2), fun l hl => fin ys l e3 hl⟩⟩
  · subst e
    obtain ⟨a, ys, ea, e2, e3⟩ := rd
    exact ⟨a, ys, by rw [ea], .inl ⟨sqL_mono s e2, fun l hl => fin ys l e3 hl⟩⟩
  · subst e
    obtain ⟨a, ys, ea, e2, e3⟩ := rd
    exact ⟨a, ys, by rw [ea], .inr ⟨sqT_mono s e2, q (.ref a) (.tup ds) G H I (Same.refl G) s hI ⟨a, ys, rfl, e2, e3⟩ pp⟩⟩
theorem pn_min2 {i j : Int} : PN K I (fun xs H Q => ∃ i j, xs = [.int i, .int j] ∧ Q (.int (if j < i then j else i)) H) [.int i, .int j] (.int (if j < i then j else i)) := fun P pp G H vs Q s hI ⟨v, r, e1, e2, v2, r2, e3, e4, e5⟩ q =>
  ⟨i, j, by rw [e1, e3, show v = .int i from e2, show v2 = .int j from e4, show r2 = [] from e5], q _ (.int _) G H I (Same.refl G) s hI rfl pp⟩
end
abbrev dicT {α : Type} (xs : List α) (k : α → Str) (v : α → D) : D := dicD (xs.map fun x => ((.inr (k x) : Key), v x))
theorem keys_dicT {α : Type} (xs : List α) (k : α → Str) (v : α → D) : ((xs.map fun x => ((.inr (k x) : Key), v x)).map fun p => keyV p.1) = xs.map fun x => D.str (k x) := by
  rw [List.map_map]; rfl
theorem get_dicT {α : Type} {xs : List α} {k : α → Str} {v : α → D} {x : α} (nd : (xs.map k).Nodup) (h : x ∈ xs) : getG (xs.map fun x => ((.inr (k x) : Key), v x)) (.inr (k x)) = some (v x) := by
  unfold getG
  induction xs with
  | nil => cases h
  | cons y ys ih =>
    rw [List.map_cons, List.find?_cons]
    by_cases e : k y = k x
    · have : decide (((.inr (k y) : Key)) = .inr (k x)) = true := decide_eq_true (by rw [e])
      rw [this]
      rcases List.mem_cons.mp h with rfl | hx
      · rfl
      · rw [List.map_cons] at nd
        exact absurd (e ▸ List.mem_map.mpr ⟨x, hx, rfl⟩) (List.nodup_cons.mp nd).1
    · have : decide (((.inr (k y) : Key)) = .inr (k x)) = false := decide_eq_false (by simp [e])
      rw [this]
      rcases List.mem_cons.mp h with rfl | hx
      · exact absurd rfl e
      · rw [List.map_cons] at nd
        exact ih (List.nodup_cons.mp nd).2 hx
theorem getN_dicT {α : Type} {xs : List α} {k : α → Str} {v : α → D} {s : Str} (h : s ∉ xs.map k) : getG (xs.map fun x => ((.inr (k x) : Key), v x)) (.inr s) = none := by
  unfold getG
  rw [Option.map_eq_none_iff, List.find?_eq_none]
  intro z hz q
  obtain ⟨x, hx, rfl⟩ := List.mem_map.mp hz
  have e := of_decide_eq_true q
  exact h (List.mem_map.mpr ⟨x, hx, Sum.inr.inj e⟩)
section
variable {X : Cx} {I : Iv X.K} {tg iter e : Expr} {δ : DEnv} {pos p : Pos} {α : Type} {xs : List α} {k : α → Str} {v : α → D}
theorem vi_dicT (h : PV X I iter δ (dicT xs k v)) : PVI X I tg iter δ (xs.map fun x => .str (k x)) := by
  have := vi_keys (tg := tg) h
  rwa [keys_dicT] at this
theorem pv_listD (hm : X.mg "list" = none) (h : PV X I e δ (dicT xs k v)) (hc : X.calm = true := by rfl) (hg : Gl X "list" := by rfl)
    (he : starEach [e] X.env = (false, eval e X.env) :: starEach [] X.env := by rfl) (hpl : (backTo pos (starEach [] X.env)).any (·.1) = false := by rfl) : PV X I (.Call (.Name "list" p) [e] [] pos) δ (.lst ((xs.map k).map D.str)) := by
  have e2 : (xs.map k).map D.str = (xs.map fun x => ((.inr (k x) : Key), v x)).map fun p => keyV p.1 := by rw [keys_dicT, List.map_map]; rfl
  rw [e2]
  exact pv_ct (call_listD hc) hm (va_cons h va_nil he) pn_listD (by decide +kernel) hg (by decide) (by decide) he hpl
theorem pv_sortedS {ss : List Str} (hm : X.mg "sorted" = none) (h : PV X I e δ (.lst (ss.map D.str))) (hz : ss.length < 64) (hg : Gl X "sorted" := by rfl)
    (he : starEach [e] X.env = (false, eval e X.env) :: starEach [] X.env := by rfl) (hpl : (backTo pos (starEach [] X.env)).any (·.1) = false := by rfl) : PV X I (.Call (.Name "sorted" p) [e] [] pos) δ (.lst ((sortS ss).map D.str)) :=
  pv_cb cr_sortedS hm (va_cons h va_nil he) (pn_sortedS hz) (by decide +kernel) hg (by decide) (by decide) he hpl
theorem pv_tuple {d : D} {ds : List D} (hm : X.mg "tuple" = none) (h : PV X I e δ d) (hd : d = .lst ds ∨ d = .lsf ds ∨ d = .tup ds) (hg : Gl X "tuple" := by rfl)
    (he : starEach [e] X.env = (false, eval e X.env) :: starEach [] X.env := by rfl) (hpl : (backTo pos (starEach [] X.env)).any (·.1) = false := by rfl) : PV X I (.Call (.Name "tuple" p) [e] [] pos) δ (.tup ds) :=
  pv_ct call_tuple_of hm (va_cons h va_nil he) (pn_tupL hd) (by decide +kernel) hg (by decide) (by decide) he hpl
end
end DL
set_option Elab.async false
set_option linter.all false
set_option maxRecDepth 100000
set_option maxHeartbeats 4000000
namespace DL
open PySem PySem.Spec PyProof.Rows L2
section
variable {X : Cx} {W : WX} {R : Rx X.K} {e a b o tg iter : Expr} {δ : DEnv} {I : Iv X.K} {P : D → Iv X.K → Prop} {pos p apos : Pos} {d z x : D} {ds : List D} {κ : Ko X.K} {es : List Expr} {n m : Int}
theorem ev_freezeL (h : EvX X W R e δ I fun d I1 => ∃ p ds I2, d = .adr p ∧ I1 = I2.and (iLst X.K p ds) ∧ P (.lst ds) I2) : EvX X W R e δ I P := fun σ G H Q hE s hI qx q =>
  h σ G H Q hE s hI qx fun v d G1 H1 I1 s1 t1 h1 r1 ⟨p, ds, I2, ed, ei, pp⟩ => by
    subst ed ei
    obtain ⟨G2, s2, t2, h2, r2⟩ := freeze_lst t1 h1
    have ev : v = .ref p := r1
    rw [ev]
    exact q (.ref p) (.lst ds) G2 H1 I2 (s1.trans s2) t2 h2 r2 pp
theorem pv_neg (h : PV X I a δ (.int n)) : PV X I (.UnaryOp .USub a pos) δ (.int (-n)) := pv_un un_neg h fun P pp G H v Q s hI r q => ⟨n, r, q (.int (-n)) (.int (-n)) G H I (Same.refl G) s hI rfl pp⟩
theorem enumD_map {α : Type} (f : α → D) (xs : List α) : enumD (xs.map f) = xs.zipIdx.map fun p => .tup [.int p.2, f p.1] := by
  unfold enumD
  rw [List.zipIdx_map, List.map_map]; rfl
theorem mem_zipIdx {α : Type} {xs : List α} {x : α} {i : Nat} (h : (x, i) ∈ xs.zipIdx) : xs[i]? = some x := List.mem_zipIdx_iff_getElem?.mp h
theorem atI_n {α : Type} {xs : List α} {j : Nat} {x : α} (h : xs[j]? = some x) : atI xs (j : Int) = some x := by
  have hl := (List.getElem?_eq_some_iff.mp h).1
  unfold atI ixN
  rw [if_pos (by omega), if_pos (by omega)]
  simpa using h
theorem findSome_hit {α β : Type} {f : α → Option β} {p r : List α} {x : α} {b : β} (h : ∀ y ∈ p, f y = none) (hx : f x = some b) : (p ++ x :: r).findSome? f = some b := by
  rw [List.findSome?_append, List.findSome?_eq_none_iff.mpr h, List.findSome?_cons, hx]; rfl
end
theorem _root_.L2.Room.u1 {k : Nat} {A : Around} (r : Room k A) : A.units + 1 < cLine := by have := r.un; omega
theorem nodup_key {α : Type} {k : α → Str} {xs : List α} (h : (xs.map k).Nodup) : (xs.map fun x => (Sum.inr (k x) : Key)).Nodup :=
  List.pairwise_map.mpr ((List.pairwise_map.mp h).imp fun hne e => hne (Sum.inr.inj e))
def sortW {α : Type} (ws : List (Str × α)) : List (Str × α) := ws.mergeSort fun a b => leS a.1 b.1
theorem sortW_perm {α : Type} (ws : List (Str × α)) : (sortW ws).Perm ws := List.mergeSort_perm ws _
theorem sortW_pw {α : Type} (ws : List (Str × α)) : (sortW ws).Pairwise (fun a b => leS a.1 b.1 = true) := List.pairwise_mergeSort (fun a b c => leS_tr a.1 b.1 c.1) (fun a b => leS_total a.1 b.1) ws
theorem sortW_names {α : Type} (ws : List (Str × α)) : (sortW ws).map (·.1) = sortS (ws.map (·.1)) :=
  sort_uniq (List.pairwise_map.mpr (sortW_pw ws)) ((sortW_perm ws).map _)
theorem sortW_nd {α : Type} {ws : List (Str × α)} (h : (ws.map (·.1)).Nodup) : ((sortW ws).map (·.1)).Nodup := ((sortW_perm ws).map (·.1)).nodup_iff.mpr h
theorem nd_inj {α : Type} : ∀ {ws : List (Str × α)}, (ws.map (·.1)).Nodup → ∀ {a b : Str × α}, a ∈ ws → b ∈ ws → a.1 = b.1 → a = b
  | [], _, _, _, h, _, _ => nomatch h
  | w :: ws, nd, a, b, ha, hb, e => by
    rw [List.map_cons] at nd
    obtain ⟨n1, n2⟩ := List.nodup_cons.mp nd
    rcases List.mem_cons.mp ha with e1 | ha1
    · rcases List.mem_cons.mp hb with e2 | hb1
      · rw [e1, e2]
      · exact absurd (List.mem_map.mpr ⟨b, hb1, by rw [← e, e1]⟩) n1
    · rcases List.mem_cons.mp hb with e2 | hb1
      · exact absurd (List.mem_map.mpr ⟨a, ha1, by rw [e, e2]⟩) n1
      · exact nd_inj n2 ha1 hb1 e
theorem sortW_uniq {α : Type} {ws vs : List (Str × α)} (nd : (ws.map (·.1)).Nodup) (h1 : vs.Pairwise (fun a b => leS a.1 b.1 = true)) (h2 : vs.Perm ws) : vs = sortW ws :=
  List.Perm.eq_of_pairwise (fun a b ha hb k l => nd_inj nd (h2.mem_iff.mp ha) ((sortW_perm ws).mem_iff.mp hb) (leS_anti k l)) h1 (sortW_pw ws) (h2.trans (sortW_perm ws).symm)
end DL
set_option Elab.async false
set_option linter.all false
set_option maxRecDepth 100000
set_option maxHeartbeats 4000000
namespace L2
open PySem PySem.Spec PyProof.Rows
section
variable {prog : Program} {w : World} {A : Around} {E : Value → Shared → Prop} {s : Shared} {T : String} {r d : Addr} {n : Nat} {P : Nat → Value → Prop} {OK : Heap → Prop}
theorem collect_src {Q : List Value → Shared → Prop} (K : PySem.W.KdlSrc prog w T r d n P OK) (hh : A.handled = none) (hok : OK s.heap) (hn : n ≤ sizeLine)
    (hQ : ∀ (h' : Heap) (tk : Nat) (acc : Array Value), (∀ b o, s.heap.get? b = some o → h'.get? b = some o) → ItemsOf P acc n → Q acc.toList { s with heap := h', toks := tk }) :
    wpAny (model prog w) A (collect (.ref r)) Q E s := by
  have hlt := K.there _ hok
  unfold collect
  refine wpAny_bind (wpAny_runValue (codeAny_builtin F.entry_proto_collect ?_))
  rw [Around.under_plainId F.plain_proto_collect _]
  show wpAny _ A.in1 (newList [] >>= fun l => again (.builtin "list.__iadd__" ⟨[l, .ref r], []⟩)) _ _ s
  refine wpAny_bind (wpAny_newObj_type ?_)
  refine wpAny_pure ⟨plainId_quiet F.plain_list_iadd _, codeAny_builtin F.entry_list_iadd ?_⟩
  rw [Around.under_plainId F.plain_list_iadd _]
  show wpAny _ A.in1 (Builtin.List.listExtendWith (.ref s.heap.objs.size) (.ref r) (.ref s.heap.objs.size)) _ _ _
  have hS : (s.heap.push { cls := .type "list", data := .seq ([] : List Value).toArray }).get? s.heap.objs.size = some { cls := .type "list", data := .seq #[] 0 } := Heap.get?_push_size _ rfl
  refine wpAny_mono (PySem.W.kdl_extend (A := A) (R := fun rr s' => rr = .ok (.ret (.ref s.heap.objs.size)) ∧ ∃ (h' : Heap) (tk : Nat) (acc : Array Value) (c' : Nat), s' = { s with heap := h', toks := tk } ∧
      (∀ b o, s.heap.get? b = some o → h'.get? b = some o) ∧ h'.get? s.heap.objs.size = some { cls := .type "list", dict := none, data := .seq acc c', slots := #[] } ∧ ItemsOf P acc n)
    (s := { s with heap := s.heap.push { cls := .type "list", data := .seq ([] : List Value).toArray } }) K hh (K.keep _ _ hok fun b _ o e => Heap.get?_push_of_some _ e) s.heap.objs.size (Nat.ne_of_gt hlt.1) (Nat.ne_of_gt hlt.2) (.ref s.heap.objs.size) 0 hS
    (fun h' tk acc c' hk e hi => ⟨rfl, h', tk, acc, c', rfl, fun b o q => hk b o (Nat.ne_of_lt (Heap.lt_size q)) (Heap.get?_push_of_some _ q), e, hi⟩) hn) (fun fin s' h => ?_) (fun e s' h => ?_)
  · cases fin with
    | done f =>
      obtain ⟨e, h', tk, acc, c', rfl, hk, hS', hi⟩ := h
      cases e
      show wpAny _ A (load s.heap.objs.size >>= _) _ _ _
      exact wpAny_bind (wpAny_load hS' (wpAny_pure (hQ h' tk acc hk hi)))
    | again c' =>
      refine ⟨h.1, codeAny_mono h.2 fun rr s'' hr' => ?_⟩
      obtain ⟨rfl, h', tk, acc, c', rfl, hk, hS', hi⟩ := hr'
      show wpAny _ A (load s.heap.objs.size >>= _) _ _ _
      exact wpAny_bind (wpAny_load hS' (wpAny_pure (hQ h' tk acc hk hi)))
  · exact absurd h.1 (by simp)
theorem code_tuple_new_src {Q₁ : Value → Shared → Prop} (K : PySem.W.KdlSrc prog w T r d n P OK) (hT : (T == "tuple") = false) (hh : A.handled = none) (hok : OK s.heap) (hn : n ≤ sizeLine)
    (h : ∀ (h' : Heap) (tk : Nat) (acc : Array Value), (∀ b o, s.heap.get? b = some o → h'.get? b = some o) → ItemsOf P acc n →
      Q₁ (.ref h'.objs.size) { s with heap := h'.push { cls := .type "tuple", data := .seq acc }, toks := tk }) :
    codeAny (model prog w) A (.call (.builtin "tuple.__new__") ⟨[.type "tuple", .ref r], []⟩) (wants Q₁ E) s := by
  refine codeAny_of_tree ?_
  show wpAny _ A.in1 (do checkBuiltinCall "tuple.__new__" ⟨[.type "tuple", .ref r], []⟩; again (.builtin "tuple.__new__" ⟨[.type "tuple", .ref r], []⟩)) _ _ s
  refine wpAny_bind (wpAny_of_eq (F.newCall_tuple_1 _) (wpAny_pure ⟨plainId_quiet F.plain_tuple_new _, codeAny_builtin F.entry_tuple_new ?_⟩))
  rw [Around.under_plainId F.plain_tuple_new _]
  have hsub := sub_tuple_self
  have hinit := init_tuple_lookup
  have hmh := madeHere_tuple
  have hTI : s.TypeIs (.ref r) T := K.type s hok
  have hh1 : A.in1.handled = none := hh
  have hne : (Value.type T == Value.type "tuple") = false := K.notTuple
  wp_walk using wpAny_typeOf hTI, collect_src (A := A.in1) K hh1 hok hn
  intro h' tk acc hk hacc
  show wpAny _ _ (Builtin.Tuple.tupleExact acc.toList.toArray >>= fun v => ret v) _ _ _
  unfold Builtin.Tuple.tupleExact
  refine wpAny_bind (wpAny_newObj_type ?_ (by show acc.toList.toArray.size ≤ sizeLine; simp only [Array.toArray_toList]; rw [hacc.1]; exact hn))
  refine wpAny_pure ?_
  have e : acc.toList.toArray = acc := by simp
  rw [e]
  exact h h' tk acc hk hacc
theorem call_tuple_src {Q : Value → Shared → Prop} (K : PySem.W.KdlSrc prog w T r d n P OK) (hT : (T == "tuple") = false) (hh : A.handled = none) (hok : OK s.heap) (hn : n ≤ sizeLine)
    (hQ : ∀ (h' : Heap) (tk : Nat) (acc : Array Value), (∀ b o, s.heap.get? b = some o → h'.get? b = some o) → ItemsOf P acc n →
      Q (.ref h'.objs.size) { s with heap := h'.push { cls := .type "tuple", data := .seq acc }, toks := tk }) :
    wpAny (model prog w) A (call (.type "tuple") [.ref r]) Q E s := by
  refine callType_codes (Q₁ := fun obj s₁ => s₁.TypeIs obj "tuple" ∧ Q obj s₁) F.called_tuple (F.typeCall_tuple_1 _) F.entry_object_init
    (code_tuple_new_src (A := A.in1) K hT hh hok hn fun h' tk acc hk hacc => ⟨⟨_, Heap.get?_push_size _ rfl, rfl⟩, hQ h' tk acc hk hacc⟩) fun obj s₁ h₁ => ?_
  exact ⟨h₁.1, F.args_object_init_2 obj _, object_init_meets F.called_tuple.init.lookup F.called_tuple.made (by decide) prog w A.in1 _ s₁ ⟨h₁.1, rfl, h₁.2⟩⟩
end
theorem call_tupleD {X : Cx} (hcalm : X.calm = true) : CallR X (.type "tuple") (fun xs H Q => ∃ (a : Addr) (kvs : List (Key × V)), xs = [.ref a] ∧ Rd H a (.dK kvs) ∧ ∀ p ob, H p = none → ob.dict = none → Q (.ref p) (upd H p (.frz ob (.tup (kvs.map fun kv => kV kv.1))))) := by
  intro pins s σ H xs us Q I r q
  obtain ⟨a, kvs, ex, hd, q⟩ := q
  subst ex
  obtain ⟨u, eu, rx⟩ := vals1 r
  subst eu
  cases rx
  obtain ⟨z, lo, vs, rel, dd⟩ := dk_rd I.hok hd
  obtain ⟨ep, hat⟩ := dd.dictAt
  have ek : (kvs.map fun kv => kV kv.1) = vs.map fun p => kV p.1 := by
    have e := congrArg (List.map kV) rel.keys
    rw [List.map_map, List.map_map] at e
    exact e
  refine call_tuple_src (PySem.W.kdl_dict (knd := mixKind X.prog X.w) (kvs := vs) (ep := ep) lo) (by decide) (I.ok.hd hcalm) hat (by rw [← rel.length]; exact z) fun h' tk acc hk hacc => ?_
  have hv : Vals (vs.map fun p => kV p.1) acc.toList := keys_at (by rw [Array.length_toList]; exact hacc.1) fun j v e => hacc.2 j v (by rw [← Array.getElem?_toList]; exact e)
  have I1 : Inv X pins σ H { s with heap := h', toks := tk } := I.kept (t' := tk) hk
  refine ⟨.ref h'.objs.size, upd H h'.objs.size (.frz { cls := .type "tuple", data := .seq acc } (.tup (kvs.map fun kv => kV kv.1))), I1.laid (t' := tk) (fun b o e => Heap.get?_push_of_some _ e) (Nat.le_refl _)
    (show ObjOk X.prog X.w _ _ _ (.frz { cls := .type "tuple", data := .seq acc } (.tup (kvs.map fun kv => kV kv.1))) from ⟨Heap.get?_push_size _ rfl, by rw [List.length_map]; exact z, acc.toList, by rw [ek]; exact hv, ⟨_, by rw [Array.toArray_toList]; exact Heap.get?_push_size _ rfl, rfl, _, by rw [Array.toArray_toList]⟩⟩), rfl, q _ _ (I1.hok.fresh (Nat.le_refl _)) rfl⟩
end L2
namespace DL
open PySem PySem.Spec PyProof.Rows L2
theorem pn_tupD {K : PySem.W.Frag} {I : Iv K} {kds : List (Key × D)} : PN K I (fun xs H Q => ∃ (a : Addr) (kvs : List (Key × V)), xs = [.ref a] ∧ Rd H a (.dK kvs) ∧ ∀ p ob, H p = none → ob.dict = none → Q (.ref p) (upd H p (.frz ob (.tup (kvs.map fun kv => kV kv.1))))) [dicD kds] (.tub (kds.map fun p => keyV p.1)) := fun P pp G H vs Q s hI r q => by
  obtain ⟨v, r1, rfl, rd, er⟩ := r
  rw [show r1 = [] from er]
  obtain ⟨a, od, kvs, rfl, e1, kr⟩ := rep_dicD.mp rd
  refine ⟨a, kvs, rfl, .inr ⟨od, s _ _ e1⟩, fun p ob hq hob => ?_⟩
  have hg : G p = none := s.free hq
  have rr : Reps K (upd G p (.frz ob (.tup (kvs.map fun kv => kV kv.1)))) (kds.map fun p => keyV p.1) (kvs.map fun kv => kV kv.1) := by
    have e := kr.keys
    have e2 : (kvs.map fun kv => kV kv.1) = (kds.map (·.1)).map kV := by rw [← e, List.map_map]; rfl
    have e3 : (kds.map fun p => keyV p.1) = (kds.map (·.1)).map keyV := by rw [List.map_map]; rfl
    rw [e2, e3]
    generalize kds.map (·.1) = ks
    generalize upd G p _ = G'
    induction ks with
    | nil => exact .nil
    | cons k ks ih => exact .cons (rep_keyV k) ih
  exact q (.ref p) (.tub (kds.map fun p => keyV p.1)) (upd G p (.frz ob (.tup _))) _ I (Evl.Ex.new hg) (same_upd2 s) (hI.keep hq s) ⟨p, ob, _, rfl, upd_same, hob, rr⟩ pp
theorem pv_tupleD {X : Cx} {I : Iv X.K} {e : Expr} {δ : DEnv} {pos p : Pos} {α : Type} {xs : List α} {k : α → Str} {v : α → D} (hm : X.mg "tuple" = none) (h : PV X I e δ (dicT xs k v)) (hc : X.calm = true := by rfl) (hg : Gl X "tuple" := by rfl)
    (he : starEach [e] X.env = (false, eval e X.env) :: starEach [] X.env := by rfl) (hpl : (backTo pos (starEach [] X.env)).any (·.1) = false := by rfl) : PV X I (.Call (.Name "tuple" p) [e] [] pos) δ (.tub (xs.map fun x => D.str (k x))) := by
  rw [← keys_dicT xs k v]
  exact pv_ct (call_tupleD hc) hm (va_cons h va_nil he) pn_tupD (by decide +kernel) hg (by decide) (by decide) he hpl
theorem rep_tub {K : PySem.W.Frag} {G : Hp} {ds : List D} {v : V} (r : Rep K G (.tub ds) v) : Rep K G (.tup ds) v := by
  obtain ⟨a, ob, vs, h1, h2, h3, h4⟩ := r
  exact ⟨a, vs, h1, .inl (.inr ⟨ob, h2⟩), h4⟩
theorem pv_tub {X : Cx} {I : Iv X.K} {e : Expr} {δ : DEnv} {ds : List D} (h : PV X I e δ (.tub ds)) : PV X I e δ (.tup ds) := fun W R P p σ G H Q hE s hI qx q =>
  h W R (fun d J => d = .tub ds ∧ J = I) ⟨rfl, rfl⟩ σ G H Q hE s hI qx fun v d G1 H1 I1 s1 t1 h1 r1 ⟨ed, ei⟩ => by
    subst ed ei
    exact q v (.tup ds) G1 H1 _ s1 t1 h1 (rep_tub r1) p
end DL
set_option Elab.async false
set_option linter.all false
set_option maxRecDepth 100000
set_option maxHeartbeats 4000000
namespace GQ
open PySem PySem.SeqAt
open AutoSeq1 (wpAny_loadPart')
open MeetsSeq MeetsSeq2 MeetsSeq3 SeqRoads2
section
variable {prog : Program} {w : World} {A : Around} {R : Result → Shared → Prop}
theorem tuple_eqB (l b : Addr) (items items2 : Array Value) (n n2 : Nat) (dd dd2 : Option Addr) (sl sl2 : Array (Option Value)) (J : Shared → Prop) (e : Nat → Bool)
    (turn : ∀ i (h1 : i < items.size) (h2 : i < items2.size) s, J s → wpAny (model prog w) A.in1 (eqBool items[i] items2[i]) (fun r s' => r = e i ∧ J s') (fun e s' => R (.error e) s') s)
    (fin : ∀ s, J s → R (.ok (.ret (.bool ((items.size == items2.size) && (List.range (min items.size items2.size)).all e)))) s) {s : Shared} (hl1 : s.heap.get? l = some { cls := .type "tuple", dict := dd, data := .seq items n, slots := sl }) (hb1 : s.heap.get? b = some { cls := .type "tuple", dict := dd2, data := .seq items2 n2, slots := sl2 }) (h : J s) :
    wpAny (model prog w) A.in1 (Builtin.«tuple.__eq__» ⟨[.ref l, .ref b], []⟩) (FinOf prog w A R) (fun e s' => R (.error e) s') s := by
  have f2 := AutoSeq1.sub_tuple_tuple
  have hZ : (items.toList.zip items2.toList).length = min items.size items2.size := by simp
  have h0 := h
  obtain ⟨hp, g, d, tk, os⟩ := s
  wp_walk using wpAny_loadPart' hl1, wpAny_loadPart' hb1, wpAny_forIn_list _ (fun rest b s' => b.1 = none ∧ ∃ i, rest = (items.toList.zip items2.toList).drop i ∧ i ≤ min items.size items2.size ∧ (∀ j, j < i → e j = true) ∧ J s') _
  case turn =>
    rintro ⟨y, x⟩ rest b s' ⟨hb', i, hz, hi, he, hI⟩
    have hlt : i < (items.toList.zip items2.toList).length := by
      rcases Nat.lt_or_ge i (items.toList.zip items2.toList).length with h' | h'
      · exact h'
      · rw [List.drop_of_length_le h'] at hz; cases hz
    have h1 : i < items.size := by omega
    have h2 : i < items2.size := by omega
    rw [List.drop_eq_getElem_cons hlt] at hz
    injection hz with hyx hrest
    have hy : y = items[i] := by have := congrArg Prod.fst hyx; simpa using this
    have hx : x = items2[i] := by have := congrArg Prod.snd hyx; simpa using this
    subst hy hx
    refine wpAny_bind (wpAny_mono (turn i h1 h2 s' hI) (fun r s2 q2 => ?_) fun _ _ x => x)
    obtain ⟨hr, q2⟩ := q2
    subst hr
    cases q : e i with
    | true =>
      wp_walk
      refine ⟨rfl, i + 1, hrest, by omega, fun j hj => ?_, q2⟩
      rcases Nat.lt_or_ge j i with h' | h'
      · exact he j h'
      · have : j = i := by omega
        subst this; exact q
    | false =>
      wp_walk
      have ef : (List.range (min items.size items2.size)).all e = false := by
        rw [List.all_eq_false]
        exact ⟨i, List.mem_range.mpr (by omega), by rw [q]; simp⟩
      have hR := fin s2 q2
      rw [ef, Bool.and_false] at hR
      exact hR
  case fin =>
    rintro ⟨b1, b2⟩ s' ⟨hb', i, hz, hi, he, hI⟩
    simp only at hb'
    subst hb'
    have hge : min items.size items2.size ≤ i := by
      rcases Nat.lt_or_ge i (items.toList.zip items2.toList).length with h' | h'
      · rw [List.drop_eq_getElem_cons h'] at hz; cases hz
      · omega
    have hi' : i = min items.size items2.size := by omega
    have hR := fin s' hI
    have et : (List.range (min items.size items2.size)).all e = true := by
      rw [List.all_eq_true]
      exact fun j hj => he j (by rw [hi']; exact List.mem_range.mp hj)
    rw [et, Bool.and_true] at hR
    wp_walk
    simpa [Builtin.Tuple.tupleCompareSizes] using hR
  case h =>
    exact ⟨rfl, 0, rfl, Nat.zero_le _, fun j hj => absurd hj (by omega), h0⟩
end
end GQ
set_option Elab.async false
set_option linter.all false
set_option maxRecDepth 100000
set_option maxHeartbeats 4000000
namespace DL
open PySem PySem.Spec PyProof.Rows L2
structure EqB (X : Cx) (n : Nat) (E : D → D → Bool → Prop) : Prop where
  run : ∀ (A : Around) (pins : List (Addr × Obj)) (s : Shared) (σ : L2.St) (G H : Hp) (x y : V) (u v : Value) (dx dy : D) (b : Bool), L2.Sub X n A → Inv X pins σ H s → RelV x u → RelV y v → Same G H → Rep X.K G dx x → Rep X.K G dy y → E dx dy b →
    wpAny (model X.prog X.w) A (eqBool u v) (fun r s' => r = b ∧ ∃ H', Inv X pins σ H' s' ∧ Ext H H') X.xe s
  same : ∀ (pins : List (Addr × Obj)) (s : Shared) (σ : L2.St) (G H : Hp) (x : V) (dx dy : D) (b : Bool), Inv X pins σ H s → Same G H → Rep X.K G dx x → Rep X.K G dy x → E dx dy b → b = true
theorem EqB.mono {X : Cx} {n m : Nat} {E : D → D → Bool → Prop} (h : EqB X n E) (hn : n ≤ m) : EqB X m E := ⟨fun A pins s σ G H x y u v dx dy b sb => h.run A pins s σ G H x y u v dx dy b (sb.mono hn), h.same⟩
theorem relV_inj {a b : V} {u : Value} (ha : flatV a = true) (hb : flatV b = true) (h1 : RelV a u) (h2 : RelV b u) : a = b := by
  cases a <;> (first | (cases ha; done) | skip) <;> cases b <;> (first | (cases hb; done) | skip)
  all_goals first
    | rfl
    | (have e1 : u = _ := h1; have e2 : u = _ := h2; rw [e1] at e2; cases e2; first | rfl | done)
    | (have e1 : u = _ := h1; obtain ⟨t, e2⟩ := h2; rw [e1] at e2; cases e2; done)
    | (obtain ⟨t, e1⟩ := h1; have e2 : u = _ := h2; rw [e1] at e2; cases e2; done)
    | (obtain ⟨t, e1⟩ := h1; obtain ⟨t', e2⟩ := h2; rw [e1] at e2; cases e2; first | rfl | done)
def allPl : List D → Bool
  | [] => true
  | .str _ :: ds => allPl ds
  | .int _ :: ds => allPl ds
  | .bl _ :: ds => allPl ds
  | .non :: ds => allPl ds
  | _ => false
theorem allPl_vs : ∀ {ds : List D}, allPl ds = true → ∃ vs, flatDs ds = some vs ∧ ∀ v ∈ vs, flatV v = true
  | [], _ => ⟨[], rfl, fun _ h => nomatch h⟩
  | d :: ds, h => by
    have key : ∀ v, flatD d = some v → flatV v = true → allPl ds = true → ∃ vs, flatDs (d :: ds) = some vs ∧ ∀ v ∈ vs, flatV v = true := fun v e f q => by
      obtain ⟨vs, e2, k⟩ := allPl_vs q
      refine ⟨v :: vs, by unfold flatDs; rw [e, e2], fun w hw => ?_⟩
      rcases List.mem_cons.mp hw with rfl | hw
      · exact f
      · exact k w hw
    cases d <;> first | cases h | exact key _ rfl rfl h
theorem allPl_inj {K : PySem.W.Frag} {G : Hp} : ∀ {ds es : List D} {vs : List V}, allPl ds = true → allPl es = true → Reps K G ds vs → Reps K G es vs → ds = es
  | [], [], _, _, _, _, _ => rfl
  | [], e :: es, _, _, _, h, ⟨v, r, e2, _, _⟩ => by rw [show _ = [] from h] at e2; cases e2
  | d :: ds, [], _, _, _, ⟨v, r, e2, _, _⟩, h => by rw [show _ = [] from h] at e2; cases e2
  | d :: ds, e :: es, _, h1, h2, ⟨v, r, e1, r1, rr1⟩, ⟨v', r', e2, r2, rr2⟩ => by
    rw [e1] at e2
    cases e2
    have hd : d = e ∧ allPl ds = true ∧ allPl es = true := by
      cases d <;> cases e <;> first | cases h1 | cases h2 | skip
      all_goals (refine ⟨?_, h1, h2⟩; first | rfl | (have q := (show v = _ from r1).symm.trans (show v = _ from r2); cases q; first | rfl | done))
    rw [hd.1, allPl_inj hd.2.1 hd.2.2 rr1 rr2]
theorem EqB.own {X : Cx} {n : Nat} {C g : Addr} {S : Spec X.K} (hs : PySem.W.findIn X.K (.ref C) "__eq__" = some (some (.ref g))) (hf : PySem.W.isFn X.K (.ref g) = true) (hn : PySem.W.notFirst X.K C (.ref C) = true)
    (F : FnR X.prog X.w X.K X.mg X.base (L2.CX X.prog X.w) n g (spD X.K S)) :
    EqB X n (fun dx dy b => ∃ fs gs, dx = .slo C fs ∧ dy = .slo C gs ∧ allPl fs = true ∧ allPl gs = true ∧ fs.length = gs.length ∧ (fs = gs → b = true) ∧ ∀ P : D → Iv X.K → Prop, P (.bl b) (iEmp X.K) → S (iEmp X.K) [dx, dy] P F0) := by
  have hsame : ∀ (pins : List (Addr × Obj)) (s : Shared) (σ : L2.St) (G H : Hp) (x : V) (fs gs : List D), Inv X pins σ H s → Same G H → Rep X.K G (.slo C fs) x → Rep X.K G (.slo C gs) x → allPl fs = true → allPl gs = true → fs.length = gs.length → fs = gs := by
    intro pins s σ G H x fs gs J sm ⟨a, d1, vs, e1, t1, r1⟩ ⟨a', d2, us, e2, t2, r2⟩ pf pg hl
    rw [e1] at e2
    cases e2
    obtain ⟨sl, od, q1, i1, _⟩ := SlX.slt_inst J (slt_mono sm t1)
    obtain ⟨sl', od', q2, i2, _⟩ := SlX.slt_inst J (slt_mono sm t2)
    obtain ⟨h1, _, _, _⟩ := i1
    obtain ⟨h2, _, _, _⟩ := i2
    rw [h1] at h2
    have esl : sl = sl' := by
      have := Option.some.inj h2
      exact congrArg (fun o : Obj => o.slots) this
    subst esl
    obtain ⟨ws1, f1, p1⟩ := allPl_vs pf
    obtain ⟨ws2, f2, p2⟩ := allPl_vs pg
    have ev1 := r1.flat f1
    have ev2 := r2.flat f2
    have hg : ∀ {ws : List V}, SlX.SlR (ws.map some) sl → ∀ i v, ws[i]? = some v → ∃ u, sl[i]? = some (some u) ∧ RelV v u := fun q i v hv => q i v (by rw [List.getElem?_map, hv]; rfl)
    have hl1 := r1.length
    have hl2 := r2.length
    rw [ev1] at q1 hl1 r1
    rw [ev2] at q2 hl2 r2
    have hws : ws1 = ws2 := List.ext_getElem? fun i => by
      cases a1 : ws1[i]? with
      | none =>
        have := List.getElem?_eq_none_iff.mp a1
        rw [List.getElem?_eq_none_iff.mpr (by omega)]
      | some v =>
        have hlt := (List.getElem?_eq_some_iff.mp a1).1
        have a2 : ws2[i]? = some (ws2[i]'(by omega)) := List.getElem?_eq_getElem (by omega)
        rw [a2]
        obtain ⟨u, e1, k1⟩ := hg q1 i v a1
        obtain ⟨u', e2, k2⟩ := hg q2 i _ a2
        rw [e1] at e2
        cases e2
        rw [relV_inj (p1 v (List.mem_of_getElem? a1)) (p2 _ (List.mem_of_getElem? a2)) k1 k2]
    subst hws
    exact allPl_inj pf pg r1 r2
  refine ⟨?_, ?_⟩
  · intro A pins s σ G H x y u v dx dy b sb J rx ry sm r1 r2 ⟨fs, gs, e1, e2, pf, pg, hl, hb, hS⟩
    subst e1 e2
    obtain ⟨a, d1, vs, ea, t1, q1⟩ := id r1
    obtain ⟨c, d2, us, ec, t2, q2⟩ := id r2
    subst ea ec
    cases (show u = Value.ref a from rx)
    cases (show v = Value.ref c from ry)
    by_cases hac : a = c
    · subst hac
      have hbt := hb (hsame pins s σ G H _ fs gs J sm r1 r2 pf pg hl)
      subst hbt
      exact SeqAt.EqAt.same (A := A) (s := s) (.ref a) X.prog X.w X.xe _ ⟨rfl, H, J, Ext.rfl'⟩
    · refine GQ.eqBool_refG hac ?_
      obtain ⟨sl, od, _, O1, _⟩ := SlX.slt_inst J (slt_mono sm t1)
      obtain ⟨sl', od', _, O2, _⟩ := SlX.slt_inst J (slt_mono sm t2)
      obtain ⟨m, hF⟩ := J.fr
      refine PySem.W.cmp_K (op := .Eq) (tb := .ref C) sb.room.units0 hF J.ok.mod.kin O1 O2.type hn hs hf ?_
      have e0 : Env0 X.prog X.w X.K X.mg X.base A X.stack s H := by
        have e := J.env0
        exact ⟨by rw [sb.fr]; exact e.frames, e.mod, e.bs, e.bsz, e.funs, e.frf, e.hok, e.bare⟩
      have hsp : spD X.K S [.ref a, .ref c] H (fun v H' => v = .bl b ∧ Ext H H') (fun _ _ _ => False) :=
        spD_of (I := iEmp X.K) (G := H) (ds := [.slo C fs, .slo C gs]) (P := fun d _ => d = .bl b) (Same.refl H) Hd.emp (.cons (r1.mono sm) (.cons (r2.mono sm) .nil)) (hS (fun d _ => d = .bl b) rfl) fun v d G' H' I' s1 s2 h1 r e => by
          subst e
          exact ⟨r, fun p o hp => (s1.trans s2) p o hp⟩
      refine wpAny_call (codeAny_mono (F A X.stack s H [.ref a, .ref c] [.ref a, .ref c] _ _ sb.room e0 (.cons rfl (.cons rfl .nil)) hsp) fun r s' hq => ?_)
      cases r with
      | error e => exact (cxF hq).elim
      | ok fl =>
        cases fl with
        | ret w =>
          obtain ⟨z, H', J', rz, ez, ex⟩ := J.after hq
          subst ez
          cases rz
          exact ⟨b, rfl, rfl, H', J', ex⟩
        | next => exact False.elim hq
        | brk => exact False.elim hq
        | cont => exact False.elim hq
  · intro pins s σ G H x dx dy b J sm r1 r2 ⟨fs, gs, e1, e2, pf, pg, hl, hb, _⟩
    subst e1 e2
    exact hb (hsame pins s σ G H x fs gs J sm r1 r2 pf pg hl)
def ETup (E : D → D → Bool → Prop) (dx dy : D) (b : Bool) : Prop := ∃ (xs ys : List D) (e : Nat → Bool), dx = .tup xs ∧ dy = .tup ys ∧ (∀ i x y, xs[i]? = some x → ys[i]? = some y → E x y (e i)) ∧ b = ((xs.length == ys.length) && (List.range (min xs.length ys.length)).all e)
theorem EqB.tup {X : Cx} {n : Nat} {E : D → D → Bool → Prop} (h : EqB X n E) : EqB X (n + 1) (ETup E) := by
  have hsame : ∀ (pins : List (Addr × Obj)) (s : Shared) (σ : L2.St) (G H : Hp) (x : V) (dx dy : D) (b : Bool), Inv X pins σ H s → Same G H → Rep X.K G dx x → Rep X.K G dy x → ETup E dx dy b → b = true := by
    intro pins s σ G H x dx dy b J sm r1 r2 ⟨xs, ys, e, e1, e2, he, hb⟩
    subst e1 e2 hb
    obtain ⟨a, vs, ea, t1, q1⟩ := r1
    obtain ⟨a', us, ea', t2, q2⟩ := r2
    rw [ea] at ea'
    cases ea'
    have evs := J.tuple_inj (sqT_mono sm t1) (sqT_mono sm t2)
    subst evs
    have hl : xs.length = ys.length := by rw [← q1.length, ← q2.length]
    rw [Bool.and_eq_true, beq_iff_eq]
    refine ⟨hl, ?_⟩
    rw [List.all_eq_true]
    intro i hi
    have hi := List.mem_range.mp hi
    have h1 : xs[i]? = some (xs[i]'(by omega)) := List.getElem?_eq_getElem (by omega)
    have h2 : ys[i]? = some (ys[i]'(by omega)) := List.getElem?_eq_getElem (by omega)
    obtain ⟨v, k1, k2⟩ := q1.get h1
    obtain ⟨v', k3, k4⟩ := q2.get h2
    rw [k1] at k3
    cases k3
    exact h.same pins s σ G H v _ _ _ J sm k2 k4 (he i _ _ h1 h2)
  refine ⟨?_, hsame⟩
  intro A pins s σ G H x y u v dx dy b sb J rx ry sm r1 r2 hE
  obtain ⟨xs, ys, e, e1, e2, he, hb⟩ := id hE
  subst e1 e2
  obtain ⟨a, vs, ea, t1, q1⟩ := id r1
  obtain ⟨c, us, ec, t2, q2⟩ := id r2
  subst ea ec
  cases (show u = Value.ref a from rx)
  cases (show v = Value.ref c from ry)
  by_cases hac : a = c
  · subst hac
    have hbt := hsame pins s σ G H _ _ _ _ J sm r1 r2 hE
    rw [hbt]
    exact SeqAt.EqAt.same (A := A) (s := s) (.ref a) X.prog X.w X.xe _ ⟨rfl, H, J, Ext.rfl'⟩
  · refine GQ.eqBool_refG hac ?_
    obtain ⟨its, rv, ⟨⟨cls, dd, data, sl⟩, ho, hc, nn, hd⟩, _⟩ := J.tuple (sqT_mono sm t1)
    obtain ⟨its2, rv2, ⟨⟨cls2, dd2, data2, sl2⟩, ho2, hc2, nn2, hd2⟩, _⟩ := J.tuple (sqT_mono sm t2)
    simp only at hc hd hc2 hd2
    subst hc hd hc2 hd2
    have hn1 : its.toArray.size = xs.length := by rw [List.size_toArray, ← rv.length, q1.length]
    have hn2 : its2.toArray.size = ys.length := by rw [List.size_toArray, ← rv2.length, q2.length]
    refine wpAny_richCompare_same_room (op := .Eq) ⟨_, ho, rfl⟩ ⟨_, ho2, rfl⟩ F.slot_tuple_eq (GQ.call_here F.slot_tuple_eq ⟨_, ho, rfl⟩ F.entry_tuple_eq (F.args_tuple_eq_2 _ _) ?_) sb.room.units0
    refine GQ.tuple_eqB (R := wants (fun v s' => v ≠ .notImplemented ∧ ∃ r, v = .bool r ∧ r = b ∧ ∃ H', Inv X pins σ H' s' ∧ Ext H H') X.xe) a c its.toArray its2.toArray nn nn2 dd dd2 sl sl2 (fun s' => ∃ H', Inv X pins σ H' s' ∧ Ext H H') e ?_ ?_ ho ho2 ⟨H, J, Ext.rfl'⟩
    · rintro i h1 h2 s' ⟨H1, J1, ex1⟩
      have k1 : i < xs.length := by omega
      have k2 : i < ys.length := by omega
      obtain ⟨w1, g1, rw1⟩ := q1.get (List.getElem?_eq_getElem k1)
      obtain ⟨w2, g2, rw2⟩ := q2.get (List.getElem?_eq_getElem k2)
      obtain ⟨u1, gu1, ru1⟩ := rv.get g1
      obtain ⟨u2, gu2, ru2⟩ := rv2.get g2
      have m1 : its.toArray[i] = u1 := by
        have := (List.getElem?_eq_some_iff.mp gu1).2
        simpa using this
      have m2 : its2.toArray[i] = u2 := by
        have := (List.getElem?_eq_some_iff.mp gu2).2
        simpa using this
      rw [m1, m2]
      refine wpAny_mono (h.run A.in1 pins s' σ G H1 w1 w2 u1 u2 _ _ (e i) sb.in1 J1 ru1 ru2 (fun p o hp => ex1 p o (sm p o hp)) rw1 rw2 (he i _ _ (List.getElem?_eq_getElem k1) (List.getElem?_eq_getElem k2))) (fun r s2 q => ?_) fun _ _ x => x
      obtain ⟨hr, H2, J2, ex2⟩ := q
      exact ⟨hr, H2, J2, ex1.trans ex2⟩
    · rintro s' ⟨H', J', ex⟩
      exact ⟨(fun z => nomatch z), _, rfl, by rw [hb, hn1, hn2], H', J', ex⟩
end DL
set_option Elab.async false
set_option linter.all false
set_option maxRecDepth 100000
set_option maxHeartbeats 4000000
namespace DL
open PySem PySem.Calls PyProof.Rows PyProof.V PySem.Spec PySem.W
section
variable {prog : Program} {w : World} {K : Type} [DecidableEq K] {knd : KeyKind prog w K} {A : Around} {E : Value → Shared → Prop} {s : Shared}
inductive KHits {K : Type} [DecidableEq K] (prog : Program) (w : World) (A : Around) (E : Value → Shared → Prop) (J : Shared → Prop) (kb : List (K × Value)) : List (K × Value) → Bool → Prop
  | nil : KHits prog w A E J kb [] true
  | miss {k : K} {v : Value} {r : List (K × Value)} : valueAt kb k = none → KHits prog w A E J kb ((k, v) :: r) false
  | hit {k : K} {v y : Value} {r : List (K × Value)} {e b : Bool} : valueAt kb k = some y → (∀ s, J s → wpAny (model prog w) A (eqBool v y) (fun z s' => z = e ∧ J s') E s) → KHits prog w A E J kb r b → KHits prog w A E J kb ((k, v) :: r) (e && b)
theorem KHits.inv {J : Shared → Prop} {kb : List (K × Value)} {k : K} {v : Value} {r : List (K × Value)} {b : Bool} (h : KHits prog w A E J kb ((k, v) :: r) b) :
    (valueAt kb k = none ∧ b = false) ∨ ∃ y e b', valueAt kb k = some y ∧ (∀ s, J s → wpAny (model prog w) A (eqBool v y) (fun z s' => z = e ∧ J s') E s) ∧ KHits prog w A E J kb r b' ∧ b = (e && b') := by
  cases h with
  | miss hn => exact .inl ⟨hn, rfl⟩
  | hit hy he hr => exact .inr ⟨_, _, _, hy, he, hr, rfl⟩
theorem samePairsJ {nm : String} {a b : Addr} {ka kb : List (K × Value)} {r : Bool} {Q : Bool → Shared → Prop} (ha : (a == sysModules) = false) (hb : (b == sysModules) = false)
    (J : Shared → Prop) (j0 : J s) (st : ∀ s', J s' → s'.heap.get? a = s.heap.get? a ∧ s'.heap.get? b = s.heap.get? b)
    (da : s.heap.DictOf knd a ka) (db : s.heap.DictOf knd b kb) (hits : ka.length = kb.length → KHits prog w A E J kb ka r) (h : ∀ s', J s' → Q (ka.length == kb.length && r) s') :
    wpAny (model prog w) A (Builtin.Dict.samePairs nm a b) Q E s := by
  obtain ⟨oa, es, ep, hoa0, _, hda, hka, hpa, _⟩ := da
  obtain ⟨ob, es', ep', hob0, _, hdb, hkb, hpb, _⟩ := db
  have hoaJ : ∀ s', J s' → s'.heap.get? a = some oa := fun s' q => (st s' q).1.trans hoa0
  have hobJ : ∀ s', J s' → s'.heap.get? b = some ob := fun s' q => (st s' q).2.trans hob0
  have hoa := hoaJ s j0
  have hob := hobJ s j0
  have hla : ka.length = es.size := by rw [← hpa.length]; exact Array.length_toList
  have hlb : kb.length = es'.size := by rw [← hpb.length]; exact Array.length_toList
  have hfind : ∀ k, findBy knd.is es' k = valueAt kb k := fun k => by
    rw [← hpb.find k]
    clear hlb hpb hkb hdb hob hobJ hob0
    obtain ⟨l⟩ := es'
    simp [findBy]
  rw [hla, hlb] at h
  unfold Builtin.Dict.samePairs Builtin.Dict.showsAll
  rw [if_neg (show ¬ (a == sysModules) = true by rw [ha]; exact Bool.false_ne_true), if_neg (show ¬ (b == sysModules) = true by rw [hb]; exact Bool.false_ne_true)]
  refine wpAny_bind (wpAny_pure (wpAny_bind (wpAny_pure ?_)))
  refine wpAny_bind (wpAny_dictEntries hoa hda ?_)
  dsimp only
  refine wpAny_bind (wpAny_dictEntries hob hdb ?_)
  by_cases hsz : es.size = es'.size
  case neg =>
    rw [if_pos (by simpa using hsz)]
    have hbf : (es.size == es'.size) = false := by simpa using hsz
    rw [hbf, Bool.false_and] at h
    exact wpAny_bind (wpAny_rule (wpAny_pure (h s j0)))
  case pos =>
    have h' : ∀ s', J s' → Q r s' := fun s' q => by simpa [hsz] using h s' q
    have hits' := hits (by rw [hla, hlb]; exact hsz)
    rw [if_neg (by rw [hsz]; simp)]
    refine wpAny_bind (wpAny_dictEpoch hoa hda ?_)
    refine wpAny_bind ?_
    rw [Std.Legacy.Range.forIn_eq_forIn_range']
    simp only [Std.Legacy.Range.size, Nat.sub_zero, Nat.add_sub_cancel, Nat.div_one]
    refine wpAny_forIn_list _
      (fun rest q s' => J s' ∧ q = (none, ()) ∧ ∃ i, rest = List.range' i (es.size - i) ∧ i ≤ es.size ∧ KHits prog w A E J kb (ka.drop i) r)
      _ ?_ ?_ _ _ ⟨j0, rfl, 0, by simp, Nat.zero_le _, hits'⟩
    · rintro x rest q s' ⟨js, rfl, i, hr, hi, hpre⟩
      have hoa := hoaJ s' js
      have hob := hobJ s' js
      have hlt : i < es.size := by
        rcases Nat.lt_or_ge i es.size with h | h
        · exact h
        · rw [Nat.sub_eq_zero_of_le h] at hr; simp at hr
      obtain ⟨rfl, hrest⟩ : x = i ∧ rest = List.range' (i + 1) (es.size - (i + 1)) := by
        have e : es.size - i = (es.size - (i + 1)) + 1 := by omega
        rw [e, List.range'_succ] at hr
        injection hr with h1 h2
        exact ⟨h1, h2⟩
      refine wpAny_bind (wpAny_dictEntries hoa hda ?_)
      rw [Array.getElem?_eq_getElem hlt]
      have hlt' : x < ka.length := by rw [hla]; exact hlt
      obtain ⟨k, v, hkv⟩ : ∃ k v, ka[x] = (k, v) := ⟨_, _, rfl⟩
      have hdrop : ka.drop x = (k, v) :: ka.drop (x + 1) := by rw [← hkv]; exact List.drop_eq_getElem_cons hlt'
      obtain ⟨hkey, hval⟩ := hpa.get? (i := x) (e := es[x]) (k := k) (v := v) (by rw [Array.getElem?_toList]; exact Array.getElem?_eq_getElem hlt) (by rw [List.getElem?_eq_getElem hlt', hkv])
      obtain ⟨k', hk', hh⟩ := hka es[x] (Array.getElem_mem hlt)
      have ekk : k' = k := knd.inj _ _ _ hk' hkey
      rw [ekk] at hh
      rw [hdrop] at hpre
      show wpAny _ _ (holding [es[x].key, es[x].val] _ >>= _) _ _ _
      rw [hh]
      refine wpAny_bind (wpAny_holding (wpAny_bind (wpAny_dictFind_of hkey hob hdb hkb ?_)))
      cases hj : es'.findIdx? fun e => knd.is k e.key with
      | none =>
        have hn : valueAt kb k = none := by rw [← hfind k, findBy_of_findIdx?, hj]
        rcases hpre.inv with ⟨_, er⟩ | ⟨y, _, _, hy, _⟩
        · rw [er] at h'
          refine wpAny_pure ?_
          show wpAny _ _ (if (!false) = true then _ else _) _ _ _
          rw [if_pos (by decide)]
          exact wpAny_pure (wpAny_pure (h' s' js))
        · rw [hn] at hy; exact nomatch hy
      | some j =>
        obtain ⟨hjlt, _, _⟩ := Array.findIdx?_eq_some_iff_getElem.mp hj
        have hv' : valueAt kb k = some es'[j].val := by
          rw [← hfind k, findBy_of_findIdx?, hj]
          simp [Array.getElem?_eq_getElem hjlt]
        refine wpAny_bind (wpAny_dictEntries hob hdb ?_)
        rw [Array.getElem?_eq_getElem hjlt]
        rcases hpre.inv with ⟨hn, _⟩ | ⟨y, e, b', hy, he, hrr, er⟩
        · rw [hv'] at hn; exact nomatch hn
        · have ey : es'[j].val = y := Option.some.inj (hv'.symm.trans hy)
          rw [← ey, ← hval] at he
          refine wpAny_holding (wpAny_mono (he s' js) (fun r2 s2 hq => ?_) fun _ _ x => x)
          obtain ⟨her, js2⟩ := hq
          rw [her]; clear her
          have hoa2 := hoaJ s2 js2
          cases e with
          | false =>
            rw [er, Bool.false_and] at h'
            show wpAny _ _ (if (!false) = true then _ else _) _ _ _
            rw [if_pos (by decide)]
            exact wpAny_pure (wpAny_pure (h' s2 js2))
          | true =>
            rw [Bool.true_and] at er
            rw [← er] at hrr
            show wpAny _ _ (if (!true) = true then _ else _) _ _ _
            rw [if_neg (by decide)]
            refine wpAny_bind (wpAny_dictEpoch hoa2 hda ?_)
            rw [if_neg (by simp)]
            exact wpAny_pure ⟨js2, rfl, x + 1, hrest, hlt, hrr⟩
    · rintro q s' ⟨js, rfl, i, hr, hi, hpre⟩
      have hin : i = es.size := by
        rcases Nat.lt_or_ge i es.size with h | h
        · have e : es.size - i = (es.size - (i + 1)) + 1 := by omega
          rw [e, List.range'_succ] at hr; exact nomatch hr
        · exact Nat.le_antisymm hi h
      refine wpAny_pure ?_
      rw [hin, ← hla, List.drop_length] at hpre
      cases hpre
      exact h' s' js
theorem eqJ {a b : Addr} {ka kb : List (K × Value)} {r : Bool} {Q : Value → Shared → Prop} (ha : (a == sysModules) = false) (hb : (b == sysModules) = false)
    (J : Shared → Prop) (j0 : J s) (st : ∀ s', J s' → s'.heap.get? a = s.heap.get? a ∧ s'.heap.get? b = s.heap.get? b)
    (da : s.heap.DictOf knd a ka) (db : s.heap.DictOf knd b kb) (hu : A.units < cLine) (hits : ka.length = kb.length → KHits prog w A.in1 E J kb ka r) (h : ∀ s', J s' → Q (.bool (ka.length == kb.length && r)) s') :
    wpAny (model prog w) A (compareOp .Eq (.ref a) (.ref b)) Q E s := by
  refine wpAny_richCompare_same_room (op := .Eq) da.typeIs db.typeIs PySem.F.slot_dict_eq (wpAny_call_entry PySem.F.slot_dict_eq da.typeIs PySem.F.entry_dict_eq ?_ (PySem.F.args_dict_eq_2 _ _)) hu
  show wpAny _ _ (Builtin.Dict.dictSlotArgs "__eq__" ⟨[.ref a, .ref b], []⟩ >>= _) _ _ s
  refine wpAny_bind ?_
  unfold Builtin.Dict.dictSlotArgs
  refine wpAny_bind (wpAny_notOrdered_dict da.typeIs ?_)
  show wpAny _ _ (pure (Value.ref a, Value.ref b)) _ _ s
  refine wpAny_pure ?_
  refine wpAny_bind (wpAny_isInstance (T := "dict") db.typeIs PySem.F.sub_dict_dict ?_)
  simp only [Bool.not_true, Bool.false_eq_true, if_false]
  refine wpAny_bind (wpAny_pure (wpAny_bind (wpAny_pure ?_)))
  refine wpAny_bind (samePairsJ ha hb J j0 st da db hits fun s' js => ?_)
  refine wpAny_pure ⟨_, rfl, ?_, ?_⟩
  · exact fun x => nomatch x
  · simpa using h s' js
end
end DL
namespace DL
open PySem PySem.Spec PyProof.Rows L2
inductive EHits (E : D → D → Bool → Prop) (kb : List (Key × D)) : List (Key × D) → Bool → Prop
  | nil : EHits E kb [] true
  | miss {k : Key} {d : D} {r : List (Key × D)} : getG kb k = none → EHits E kb ((k, d) :: r) false
  | hit {k : Key} {d e : D} {r : List (Key × D)} {b b' : Bool} : getG kb k = some e → E d e b → EHits E kb r b' → EHits E kb ((k, d) :: r) (b && b')
def rEqDic (K : PySem.W.Frag) (E : D → D → Bool → Prop) : R2 := fun x y H Q => ∃ (G : Hp) (ka kb : List (Key × D)) (r : Bool), Same G H ∧ Rep K G (dicD ka) x ∧ Rep K G (dicD kb) y ∧ (ka.length = kb.length → EHits E kb ka r) ∧ ∀ H', Ext H H' → Q (.bl (ka.length == kb.length && r)) H'
theorem kv_get {kvs : List (Key × V)} {vs : List (Key × Value)} {k : Key} (h : KV kvs vs) : (∀ v, valV kvs k = some v → ∃ u, valueAt vs k = some u ∧ RelV v u) ∧ (valV kvs k = none → valueAt vs k = none) := by
  induction h with
  | nil => exact ⟨(fun v e => nomatch (show none = some v from e)), fun _ => rfl⟩
  | cons hd tl ih =>
    rename_i p q ps qs
    obtain ⟨pk, pv⟩ := p
    obtain ⟨qk, qv⟩ := q
    obtain ⟨e1, e2⟩ : pk = qk ∧ RelV pv qv := hd
    subst e1
    unfold valV valueAt at *
    simp only [List.find?_cons]
    by_cases e : pk = k
    · rw [decide_eq_true e]
      exact ⟨fun v h => by cases h; exact ⟨qv, rfl, e2⟩, fun h => by cases h⟩
    · rw [decide_eq_false e]
      exact ih
theorem hits_of {X : Cx} {n : Nat} {E : D → D → Bool → Prop} (h : EqB X n E) {A : Around} (sb : L2.Sub X n A) {pins : List (Addr × Obj)} {σ : L2.St} {G H : Hp} (sm : Same G H) {kb : List (Key × D)} {kvb : List (Key × V)} {vb : List (Key × Value)} (rb : KR X.K G kb kvb) (cb : KV kvb vb) :
    ∀ {ka : List (Key × D)} {r : Bool}, EHits E kb ka r → ∀ {kva : List (Key × V)} {va : List (Key × Value)}, KR X.K G ka kva → KV kva va → KHits X.prog X.w A X.xe (fun s' => ∃ H', Inv X pins σ H' s' ∧ Ext H H') vb va r := by
  intro ka r hh
  induction hh with
  | nil =>
    intro kva va ra ca
    rw [show kva = [] from ra] at ca
    cases ca
    exact .nil
  | miss hm =>
    intro kva va ⟨v, rr, e1, _, _⟩ ca
    rw [e1] at ca
    cases ca with
    | cons hd tl =>
      rename_i q qs
      obtain ⟨qk, qv⟩ := q
      obtain ⟨e2, _⟩ := (show _ = qk ∧ RelV v qv from hd)
      subst e2
      exact .miss ((kv_get cb).2 (rb.get.2 hm))
  | hit hg he _ ih =>
    intro kva va ⟨v, rr, e1, r1, r2⟩ ca
    rw [e1] at ca
    cases ca with
    | cons hd tl =>
      rename_i q qs
      obtain ⟨qk, qv⟩ := q
      obtain ⟨e2, rv⟩ := (show _ = qk ∧ RelV v qv from hd)
      subst e2
      obtain ⟨w, hw, rw_⟩ := rb.get.1 _ hg
      obtain ⟨u, hu, ru⟩ := (kv_get cb).1 _ hw
      refine .hit hu (fun s' ⟨H1, J1, ex1⟩ => ?_) (ih r2 tl)
      refine wpAny_mono (h.run A pins s' σ G H1 v w qv u _ _ _ sb J1 rv ru (fun p o hp => ex1 p o (sm p o hp)) r1 rw_ he) (fun r s2 q => ?_) fun _ _ x => x
      obtain ⟨hr, H2, J2, ex2⟩ := q
      exact ⟨hr, H2, J2, ex1.trans ex2⟩
theorem op_eqDic {X : Cx} {n : Nat} {E : D → D → Bool → Prop} (h : EqB X n E) (hr : Room (n + 1) X.A) : OpR X (compareOp .Eq) (rEqDic X.K E) := by
  intro pins s σ H x y v u Q I rx ry ⟨G, ka, kb, r, sm, r1, r2, hits, q⟩
  obtain ⟨a, oa, kva, ea, ga, ra⟩ := rep_dicD.mp r1
  obtain ⟨b, ob, kvb, eb, gb, rb⟩ := rep_dicD.mp r2
  subst ea eb
  cases (show v = Value.ref a from rx)
  cases (show u = Value.ref b from ry)
  obtain ⟨z1, lo1, va, rela, dda⟩ := dk_rd I.hok (.inr ⟨oa, sm _ _ ga⟩)
  obtain ⟨z2, lo2, vb, relb, ddb⟩ := dk_rd I.hok (.inr ⟨ob, sm _ _ gb⟩)
  have oka : s.heap.get? a = some oa := (show ObjOk X.prog X.w H s.heap a (.frz oa (.dK kva)) from I.hok a _ (sm _ _ ga)).1
  have okb : s.heap.get? b = some ob := (show ObjOk X.prog X.w H s.heap b (.frz ob (.dK kvb)) from I.hok b _ (sm _ _ gb)).1
  have hla : va.length = ka.length := by rw [← rela.length, ra.length]
  have hlb : vb.length = kb.length := by rw [← relb.length, rb.length]
  refine eqJ lo1 lo2 (fun s' => ∃ H', Inv X pins σ H' s' ∧ Ext H H') ⟨H, I, Ext.rfl'⟩ (fun s' ⟨H', J', ex⟩ => ?_) dda ddb hr.units0 (fun e => hits_of h (L2.Sub.in1 ⟨hr, rfl⟩) sm rb relb (hits (by omega)) ra rela) fun s' ⟨H', J', ex⟩ => ?_
  · rw [oka, okb]
    exact ⟨(show ObjOk X.prog X.w H' s'.heap a (.frz oa (.dK kva)) from J'.hok a _ (ex _ _ (sm _ _ ga))).1, (show ObjOk X.prog X.w H' s'.heap b (.frz ob (.dK kvb)) from J'.hok b _ (ex _ _ (sm _ _ gb))).1⟩
  · rw [hla, hlb]
    exact ⟨.bl _, H', J', rfl, q H' ex⟩
theorem Hd.ext {K : PySem.W.Frag} {I : Iv K} {G H H' : Hp} (h : Hd I G H) (e : Ext H H') : Hd I G H' :=
  ⟨I.loc G G H H' (Same.refl G) (fun a ha => by
    cases q : H a with
    | none => exact absurd q (h.dom ha)
    | some o => exact e a o q) h.ph, h.fr⟩
theorem p2_eqDic {K : PySem.W.Frag} {I : Iv K} {E : D → D → Bool → Prop} {ka kb : List (Key × D)} {r : Bool} (h : ka.length = kb.length → EHits E kb ka r) : P2 K I (rEqDic K E) (dicD ka) (dicD kb) (.bl (ka.length == kb.length && r)) := fun P pp G H v w Q s hI r1 r2 q =>
  ⟨G, ka, kb, r, s, r1, r2, h, fun H' ex => q (.bl _) (.bl _) G H' I (Same.refl G) (fun p o hp => ex p o (s p o hp)) (hI.ext ex) rfl pp⟩
end DL
set_option Elab.async false
set_option linter.all false
set_option maxRecDepth 100000
set_option maxHeartbeats 4000000
namespace DL
open PySem PySem.Spec PyProof.Rows L2
def IsI (H : Hp) (a C : Addr) (m : Str) : Prop := (∃ dx vs, SlX.Slt H a C dx vs) ∨ ∃ dx fs, H a = some (.ins C dx fs) ∧ fs.lookup m = none
theorem isi_inst {X : Cx} {pins : List (Addr × Obj)} {σ : L2.St} {H : Hp} {s : Shared} {a C : Addr} {m : Str} (J : Inv X pins σ H s) (h : IsI H a C m) : ∃ ox od, PySem.W.InstAt s.heap a ox C (some od) ∧ PySem.W.lookIn m od = some none := by
  rcases h with ⟨dx, vs, h⟩ | ⟨dx, fs, h, hl⟩
  · obtain ⟨sl, od, _, O, k⟩ := SlX.slt_inst J h
    exact ⟨_, od, O, k m⟩
  · obtain ⟨mA, O, r, _, _, _⟩ := ins_get J.hok h
    have hn : mA m = none := RelO.none_of (by rw [← hl]; exact r m)
    obtain ⟨od, J2, k⟩ := O.look
    exact ⟨_, od, J2, by rw [k, hn]⟩
def InsD {K : PySem.W.Frag} (C : Addr) (m : Str) (x : D) (I : Iv K) : Prop := ∀ (G H : Hp) (v : V), Same G H → Hd I G H → Rep K G x v → ∃ a, v = .ref a ∧ IsI H a C m
theorem insD_slo {K : PySem.W.Frag} {C : Addr} {m : Str} {fs : List D} {I : Iv K} : InsD C m (.slo C fs) I := fun G H v s _ ⟨a, dx, vs, e, t, _⟩ => ⟨a, e, .inl ⟨dx, _, slt_mono s t⟩⟩
section
variable {X : Cx} {W : WX} {R : Rx X.K} {n : Nat} {g : Addr} {S : Spec X.K} {pins : List (Addr × Obj)} {σ : L2.St} {H : Hp} {s : Shared}
theorem run_own (tk : Takes X W) {A : Around} {Q : VK} {us : List Value} {ws : List V} {sp : Sp} (F : FnR X.prog X.w X.K X.mg X.base (L2.CX X.prog X.w) n g sp) (hr : Room n A) (e0 : Env0 X.prog X.w X.K X.mg X.base A X.stack s H) (I : Inv X pins σ H s) (r : Vals ws us) (h : sp ws H Q (WE W σ)) :
    codeAny (model X.prog X.w) A (.call (.ref g) ⟨us, []⟩) (fun r s' => match r with | .ok (.ret v) => EP X pins σ Q v s' | .ok _ => False | .error e => X.xe e s') s := by
  refine codeAny_mono (F A X.stack s H us ws Q (WE W σ) hr e0 r h) fun r s' hq => ?_
  cases r with
  | error e => exact passAt tk σ pins H s e s' I hq
  | ok fl =>
    cases fl with
    | ret u => exact I.after hq
    | next => exact False.elim hq
    | brk => exact False.elim hq
    | cont => exact False.elim hq
end
theorem spD_at {X : Cx} {W : WX} {R : Rx X.K} {S : Spec X.K} {I : Iv X.K} {G H : Hp} {σ : L2.St} {ds : List D} {vs : List V} {Q : VK} {P : D → Iv X.K → Prop} (s : Same G H) (h : Hd I G H) (r : Reps X.K G ds vs) (k : S I ds P R) (q : Kv X.K Q G P) (qx : Kx X.K W σ G R) : spD X.K S vs H Q (WE W σ) :=
  ⟨I, G, ds, P, R, s, h, r, k, q, fun C dd fs l G' H' I' s2 t2 h2 r2 hx p => qx C dd fs l G' H' I' s2 t2 h2 r2 hx p⟩
structure PlG (K : PySem.W.Frag) (C : Addr) : Prop where
  g : ∀ f, PySem.W.plainGet K C f = true
section
variable {X : Cx} {W : WX} {R : Rx X.K} {n : Nat} {C : Addr} {m : Str} {S : Spec X.K} {δ : DEnv} {I : Iv X.K} {P : D → Iv X.K → Prop} {o a b e : Expr} {es : List Expr} {pos apos p : Pos} {κ : Ko X.K}
theorem ev_methA {pl : Sem Bool} (tk : Takes X W) (c : PlG X.K C) (hf : PySem.W.findIn X.K (.ref C) m = some (some (.ref (He.ma X.K C m)))) (hi : PySem.W.isFn X.K (.ref (He.ma X.K C m)) = true) (hk : PySem.W.keepIn X.K (.ref (He.ma X.K C m)) = true) (F : FnR X.prog X.w X.K X.mg X.base (L2.CX X.prog X.w) n (He.ma X.K C m) (spD X.K S)) (hr : Room n X.A)
    (h : EvX X W R o δ I fun x I1 => InsD C m x I1 ∧ EvA X W R (e :: es) δ I1 fun ds I2 => S I2 (x :: ds) P R)
    (hst : starEach (e :: es) X.env = (false, eval e X.env) :: starEach es X.env := by rfl) (hpl : (backTo pos (starEach es X.env)).any (·.1) = false := by rfl)
    (ht : eval (.Call (.Attribute o m apos) (e :: es) [] pos) X.env = (do
      let ov ← eval o X.env
      standAt apos.atName
      let (f, first) ← holding [ov] (getMethod ov m pl)
      callWith pos f first (backTo pos (starEach (e :: es) X.env)) (backToKw pos (keywordEach [] X.env))) := by rfl) : EvX X W R (.Call (.Attribute o m apos) (e :: es) [] pos) δ I P := fun σ G H Q hE s hI qx q => by
  refine ⟨fun pins st J => PySem.W.methodCall_KW (pl := pl) (thn (peC.run pins st σ H _ J (h σ G H (fun v H1 => ∃ a, v = .ref a ∧ IsI H1 a C m ∧ wpA X (e :: es) σ H1 fun vs H2 => spD X.K S (.ref a :: vs) H2 Q (WE W σ)) hE s hI qx fun v x G1 H1 I1 s1 t1 h1 r1 ⟨hx, ka⟩ => ?_)) fun u s1 ⟨x, H1, J1, rx, q1⟩ => ?_) ht⟩
  · obtain ⟨a, ea, hia⟩ := hx G1 H1 v t1 h1 r1
    refine ⟨a, ea, hia, ka σ G1 H1 _ (hE.mono s1) t1 h1 (qx.mono s1) fun vs ds G2 H2 I2 s2 t2 h2 r2 k2 => ?_⟩
    exact spD_at t2 h2 (.cons (by rw [← ea]; exact r1.mono s2) r2) k2 (q.mono (s1.trans s2)) (qx.mono (s1.trans s2))
  · obtain ⟨a, ea, hia, wa⟩ := q1
    subst ea
    obtain rfl : u = Value.ref a := rx
    obtain ⟨ox, od, O, hl⟩ := isi_inst J1 hia
    refine PySem.W.method_fn J1.kIn O (PySem.W.plainGet_of (c.g m)).1 (PySem.W.plainGet_of (c.g m)).2 hf (beq_iff_eq.mp hi) (by show (PySem.W.lookIn m od).map (·.isSome) = some false; rw [hl]; rfl) ?_
    refine PySem.W.callWith_K (first := [.ref a]) (h₀ := X.base) J1.ok.mod.kin hk (thn (paC.run pos pins s1 σ H1 _ J1 wa) fun us s2 ⟨vs, H2, J2, r, q2⟩ => ⟨J2.kIn, ?_⟩) hst hpl
    exact wpAny_call (run_own tk F hr J2.env0 J2 (us := .ref a :: us) (ws := .ref a :: vs) (.cons rfl r) q2)
theorem ev_meth0 {pl : Sem Bool} (tk : Takes X W) (c : PlG X.K C) (hf : PySem.W.findIn X.K (.ref C) m = some (some (.ref (He.ma X.K C m)))) (hi : PySem.W.isFn X.K (.ref (He.ma X.K C m)) = true) (hk : PySem.W.keepIn X.K (.ref (He.ma X.K C m)) = true) (F : FnR X.prog X.w X.K X.mg X.base (L2.CX X.prog X.w) n (He.ma X.K C m) (spD X.K S)) (hr : Room n X.A)
    (h : EvX X W R o δ I fun x I1 => InsD C m x I1 ∧ S I1 [x] P R)
    (ht : eval (.Call (.Attribute o m apos) [] [] pos) X.env = (do
      let ov ← eval o X.env
      standAt apos.atName
      let (f, first) ← holding [ov] (getMethod ov m pl)
      callWith pos f first (backTo pos (starEach [] X.env)) (backToKw pos (keywordEach [] X.env))) := by rfl) : EvX X W R (.Call (.Attribute o m apos) [] [] pos) δ I P := fun σ G H Q hE s hI qx q => by
  refine ⟨fun pins st J => PySem.W.methodCall_KW (pl := pl) (thn (peC.run pins st σ H _ J (h σ G H (fun v H1 => ∃ a, v = .ref a ∧ IsI H1 a C m ∧ spD X.K S [.ref a] H1 Q (WE W σ)) hE s hI qx fun v x G1 H1 I1 s1 t1 h1 r1 ⟨hx, ka⟩ => ?_)) fun u s1 ⟨x, H1, J1, rx, q1⟩ => ?_) ht⟩
  · obtain ⟨a, ea, hia⟩ := hx G1 H1 v t1 h1 r1
    exact ⟨a, ea, hia, spD_at t1 h1 (.cons (by rw [← ea]; exact r1) .nil) ka (q.mono s1) (qx.mono s1)⟩
  · obtain ⟨a, ea, hia, q2⟩ := q1
    subst ea
    obtain rfl : u = Value.ref a := rx
    obtain ⟨ox, od, O, hl⟩ := isi_inst J1 hia
    refine PySem.W.method_fn J1.kIn O (PySem.W.plainGet_of (c.g m)).1 (PySem.W.plainGet_of (c.g m)).2 hf (beq_iff_eq.mp hi) (by show (PySem.W.lookIn m od).map (·.isSome) = some false; rw [hl]; rfl) ?_
    exact PySem.W.callWith_K0 (first := [.ref a]) J1.kIn hk (wpAny_call (run_own tk F hr J1.env0 J1 (us := [.ref a]) (ws := [.ref a]) (.cons rfl .nil) q2))
theorem ev_subOwn (tk : Takes X W) (hf : PySem.W.findIn X.K (.ref C) "__getitem__" = some (some (.ref (He.ma X.K C "__getitem__")))) (hi : PySem.W.isFn X.K (.ref (He.ma X.K C "__getitem__")) = true) (hn : PySem.W.fnIn X.K (He.ma X.K C "__getitem__") = true) (F : FnR X.prog X.w X.K X.mg X.base (L2.CX X.prog X.w) n (He.ma X.K C "__getitem__") (spD X.K S)) (hr : Room (n + 1) X.A)
    (h : EvX X W R a δ I fun x I1 => EvX X W R b δ I1 fun y I2 => InsD C "" x I2 ∧ S I2 [x, y] P R)
    (hsl : ∀ v i, subscripted b true v i = runValue (.builtin "lifetime.subscript" ⟨[v, i], []⟩) := by intro _ _; with_unfolding_all rfl) : EvX X W R (.Subscript a b pos) δ I P := fun σ G H Q hE s hI qx q => by
  refine ⟨fun pins st J => Subscript_ (binT peC peC J (R := fun x y H2 => ∃ c, x = .ref c ∧ IsI H2 c C "" ∧ spD X.K S [x, y] H2 Q (WE W σ)) (h σ G H _ hE s hI qx fun v x G1 H1 I1 s1 t1 h1 r1 k1 => k1 σ G1 H1 _ (hE.mono s1) t1 h1 (qx.mono s1) fun w y G2 H2 I2 s2 t2 h2 r2 ⟨hx, k2⟩ => ?_) fun v u s2 x y H2 J2 rx ry ⟨c, ec, hic, q2⟩ => ?_)⟩
  · obtain ⟨c, ec, hic⟩ := hx G2 H2 v t2 h2 (r1.mono s2)
    exact ⟨c, ec, hic, spD_at t2 h2 (.cons (r1.mono s2) (.cons r2 .nil)) k2 (q.mono (s1.trans s2)) (qx.mono (s1.trans s2))⟩
  · subst ec
    obtain rfl : v = Value.ref c := rx
    obtain ⟨ox, od, O, _⟩ := isi_inst J2 hic
    obtain ⟨mm, hF⟩ := J2.fr
    exact PySem.W.sub_K hF J2.ok.mod.kin O hf hn hi (wpAny_call (run_own tk F hr.in1 J2.env0.in1 J2 (us := [.ref c, u]) (ws := [.ref c, y]) (.cons rfl (.cons ry .nil)) q2)) (hsl _ _)
end
end DL
set_option Elab.async false
set_option linter.all false
set_option maxRecDepth 100000
set_option maxHeartbeats 4000000
namespace DL
open PySem PySem.Spec PyProof.Rows L2
section
variable {K : PySem.W.Frag} {I : Iv K} {y : D} {p : Addr} {ds : List D} {c : Rc K}
end
section
variable {X : Cx} {I : Iv X.K} {a b e : Expr} {δ : DEnv} {pos pos2 : Pos} {y : D} {p : Addr} {ds : List D}
end
end DL
set_option Elab.async false
set_option linter.all false
set_option maxRecDepth 100000
set_option maxHeartbeats 4000000
namespace DL
open PySem PySem.Spec PyProof.Rows L2
section
variable {X : Cx} {W : WX} {R : Rx X.K} {a b e iter tg : Expr} {lo hi : Option Expr} {δ : DEnv} {I : Iv X.K} {pos p2 : Pos} {ds : List D} {P : D → Iv X.K → Prop} {κ : Ko X.K} {st : Stmt} {body : List Stmt}
theorem s_joint (M : DEnv → Iv X.K → Prop) (h : S1 X W st δ I { κ with nx := M }) (k : ∀ δ' I', M δ' I' → κ.nx δ' I') : S1 X W st δ I κ := S1.imp h k (fun _ _ x => x) (fun _ _ x => x) (fun _ _ x => x) (fun _ _ _ _ x => x)
def EvO (X : Cx) (W : WX) (R : Rx X.K) (lo : Option Expr) (δ : DEnv) (I : Iv X.K) (P : Option Int → Iv X.K → Prop) : Prop := ∀ (σ : L2.St) (G H : Hp) (Q : Option Int → Hp → Prop), EnvR X.K G δ σ → Same G H → Hd I G H → Kx X.K W σ G R →
  (∀ l G' H' I', Same G G' → Same G' H' → Hd I' G' H' → P l I' → Q l H') → wpO X lo σ H Q
theorem eo_none {P : Option Int → Iv X.K → Prop} (p : P none I) : EvO X W R none δ I P := fun σ G H Q hE s hI qx q => ⟨fun pins st J => po_none.run pins st σ H Q J (q none G H I (Same.refl G) s hI p)⟩
theorem eo_some {P : Option Int → Iv X.K → Prop} (h : EvX X W R e δ I fun d I1 => ∃ i, d = .int i ∧ P (some i) I1) : EvO X W R (some e) δ I P := fun σ G H Q hE s hI qx q => ⟨fun pins st J => (po_some peC).run pins st σ H Q J
  (h σ G H _ hE s hI qx fun v d G1 H1 I1 s1 t1 g1 r1 ⟨i, ed, p⟩ => by
    subst ed
    exact ⟨i, r1, q (some i) G1 H1 I1 s1 t1 g1 p⟩)⟩
theorem ev_slL (h : EvX X W R a δ I fun d I1 => ∃ ds, d = .lst ds ∧ EvO X W R lo δ I1 fun l I2 => EvO X W R hi δ I2 fun h I3 => P (.lst (cutD ds l h)) I3) : EvX X W R (.Subscript a (.Slice lo hi none p2) pos) δ I P := fun σ G H Q hE s hI qx q =>
  PE.wp (pe_slice sl_list peC poC poC) (h σ G H _ hE s hI qx fun v d G1 H1 I1 s1 t1 g1 r1 ⟨ds, ed, k1⟩ => by
    subst ed
    refine k1 σ G1 H1 _ (hE.mono s1) t1 g1 (qx.mono s1) fun l G2 H2 I2 s2 t2 g2 k2 => ?_
    refine k2 σ G2 H2 _ (hE.mono (s1.trans s2)) t2 g2 (qx.mono (s1.trans s2)) fun h G3 H3 I3 s3 t3 g3 pp => ?_
    obtain ⟨b, vs, ev, e1, e2⟩ := (r1.mono s2).mono s3
    refine ⟨b, vs, ev, SqL.of (t3 _ _ e1), fun p hp => ?_⟩
    have hg : G3 p = none := t3.free hp
    exact q (.ref p) (.lst (cutD ds l h)) _ _ I3 (((s1.trans s2).trans s3).trans (Evl.Ex.new hg)) (same_upd2 t3) (g3.keep hp t3) ⟨p, _, rfl, upd_same, (e2.cut l h).mono (Evl.Ex.new hg)⟩ pp)
theorem s_whileP {c : Expr} (po : PassesOwn (model X.prog X.w) X.A X.env X.xe) (Nv : Nat → DEnv → Iv X.K → Prop) (m : Nat) (i0 : Nv m δ I)
    (step : ∀ m δ' I', Nv m δ' I' → ∃ b, PVT X I' c δ' b ∧ (b = true → SX X W body δ' I' { κ with nx := fun δ'' I'' => ∃ m', m' < m ∧ Nv m' δ'' I'', ct := fun δ'' I'' => ∃ m', m' < m ∧ Nv m' δ'' I'', bk := κ.nx }) ∧ (b = false → κ.nx δ' I')) : S1 X W (.While c body [] pos) δ I κ :=
  s_while po Nv m i0 fun m δ' I' h => by
    obtain ⟨b, pt, h1, h2⟩ := step m δ' I' h
    refine pt W _ _ ?_
    cases b with
    | true => exact h1 rfl
    | false => exact h2 rfl
theorem s_forE (po : PassesOwn (model X.prog X.w) X.A X.env X.xe) (h : EvI X W (κ.r δ) tg iter δ I fun ds I1 => ∃ (α : Type) (xs : List α) (g : α → D) (Nv : List α → DEnv → Iv X.K → Prop), ds = xs.map g ∧ Nv [] δ I1 ∧
      (∀ p x r δ' I', xs = p ++ x :: r → Nv p δ' I' → ∃ δ'' vs, BindD X tg (g x) δ' δ'' vs ∧ SX X W body δ'' I' { κ with nx := Nv (p ++ [x]), ct := Nv (p ++ [x]), bk := κ.nx }) ∧ ∀ δ' I', Nv xs δ' I' → κ.nx δ' I')
    (hc : X.calm = true := by rfl) (hs : ∀ x, foldedSetIterable iter X.env x = pure x := by intro _; rfl) : S1 X W (.For tg iter body [] pos) δ I κ :=
  s_for po (fun σ G H RR hE s hI qx q => h σ G H RR hE s hI qx fun J ds G' H' I' s1 t1 h1 wd ⟨α, xs, g, Nv, ed, h0, step, fin⟩ => q J ds G' H' I' s1 t1 h1 wd (by
    subst ed
    exact ⟨fun i => Nv (xs.take i), h0, fun i d δ' I' hd nv => by
      obtain ⟨x, hx, rfl⟩ := get_map hd
      have hl := (List.getElem?_eq_some_iff.mp hx).1
      have e : xs = xs.take i ++ x :: xs.drop (i + 1) := by
        rw [← (List.getElem?_eq_some_iff.mp hx).2, List.getElem_cons_drop hl, List.take_append_drop]
      have e2 : xs.take (i + 1) = xs.take i ++ [x] := take_snoc hx
      obtain ⟨δ'', vs, b, q⟩ := step _ x _ δ' I' e nv
      rw [← e2] at q
      exact ⟨δ'', vs, b, q⟩, fun δ' I' nv => fin δ' I' (by rw [List.length_map, List.take_length] at nv; exact nv)⟩)) hc hs
end
theorem put_new {α : Type} {kvs : List (Key × α)} {k : Key} {v : α} (h : ∀ kv ∈ kvs, kv.1 ≠ k) : putG kvs k v = kvs ++ [(k, v)] := by
  unfold putG
  rw [if_neg]
  intro hh
  obtain ⟨kv, h1, h2⟩ := List.any_eq_true.mp hh
  exact h kv h1 (of_decide_eq_true h2)
theorem put_newT {α : Type} {xs : List α} {k : α → Str} {v : α → D} {n : Str} {d : D} (h : n ∉ xs.map k) : putG (xs.map fun x => ((.inr (k x) : Key), v x)) (.inr n) d = xs.map (fun x => ((.inr (k x) : Key), v x)) ++ [(.inr n, d)] := put_new fun kv hkv => by
  obtain ⟨x, hx, rfl⟩ := List.mem_map.mp hkv
  intro e
  exact h (List.mem_map.mpr ⟨x, hx, Sum.inr.inj e⟩)
end DL
set_option Elab.async false
set_option linter.all false
set_option maxRecDepth 100000
set_option maxHeartbeats 4000000
namespace DL
open PySem PySem.Spec PyProof.Rows L2
def iIns (K : PySem.W.Frag) (x C dx : Addr) (fs : List (Str × D)) : Iv K where
  F := fun a => a = x ∨ a = dx
  φ := fun G H => H dx = some (.own x) ∧ dx ≠ x ∧ ∃ vs, H x = some (.ins C dx vs) ∧ FRep K G fs vs
  loc := fun G G' H H' s k ⟨h1, h0, vs, h2, h3⟩ => ⟨by rw [k dx (.inr rfl)]; exact h1, h0, vs, by rw [k x (.inl rfl)]; exact h2, h3.mono s⟩
  dom := fun G H ⟨h1, _, vs, h2, _⟩ a ha => by
    rcases ha with e | e
    · subst e; rw [h2]; simp
    · subst e; rw [h1]; simp
def putA (f : Str) (d : D) : List (Str × D) → List (Str × D)
  | [] => [(f, d)]
  | (g, x) :: r => if g = f then (g, d) :: r else (g, x) :: putA f d r
theorem FRep.put {K : PySem.W.Frag} {G : Hp} {f : Str} {d : D} {v : V} (r : Rep K G d v) : ∀ {fs : List (Str × D)} {vs : List (Str × V)}, FRep K G fs vs → FRep K G (putA f d fs) (putF f v vs)
  | [], l, h => by
    rw [show l = [] from h]
    exact ⟨v, [], rfl, r, rfl⟩
  | (g, x) :: ps, l, ⟨u, m, e, r1, r2⟩ => by
    rw [e]
    show FRep K G (if g = f then _ else _) (if g = f then _ else _)
    by_cases hg : g = f
    · rw [if_pos hg, if_pos hg]
      exact ⟨v, m, rfl, r, r2⟩
    · rw [if_neg hg, if_neg hg]
      exact ⟨u, _, rfl, r1, FRep.put r r2⟩
theorem FRep.none {K : PySem.W.Frag} {G : Hp} {f : Str} : ∀ {fs : List (Str × D)} {vs : List (Str × V)}, FRep K G fs vs → fs.lookup f = none → vs.lookup f = none
  | [], l, h, _ => by rw [show l = [] from h]; rfl
  | (g, x) :: ps, l, ⟨u, m, e, r1, r2⟩, hn => by
    rw [e]
    simp only [List.lookup] at hn ⊢
    split at hn
    · cases hn
    · exact FRep.none r2 hn
theorem FRep.len {K : PySem.W.Frag} {G : Hp} {fs : List (Str × D)} {vs : List (Str × V)} (h : FRep K G fs vs) : vs.length = fs.length := by
  have := congrArg List.length (FRep.of h).1
  simpa using this
section
variable {K : PySem.W.Frag} {G H : Hp} {x C dx : Addr} {fs : List (Str × D)} {c : Rc K} {I : Iv K} {f m : Str} {d : D}
theorem Hd.ins (h : Hd (c.fill (iIns K x C dx fs)) G H) : ∃ vs, H x = some (.ins C dx vs) ∧ FRep K G fs vs ∧ G x = none := by
  obtain ⟨h1, h0, vs, h2, h3⟩ := h.inner.ph
  exact ⟨vs, h2, h3, h.inner.fr x (.inl rfl)⟩
theorem Hd.insSet {v : V} (h : Hd (c.fill (iIns K x C dx fs)) G H) (r : Rep K G d v) {vs : List (Str × V)} (hx : H x = some (.ins C dx vs)) (rf : FRep K G fs vs) : Hd (c.fill (iIns K x C dx (putA f d fs))) G (upd H x (.ins C dx (putF f v vs))) :=
  Hd.change (I := iIns K x C dx fs) (I' := iIns K x C dx (putA f d fs)) (fun _ => Iff.rfl) (fun a ha => upd_ne fun e => ha (.inl e)) ⟨by
    obtain ⟨h1, h0, _⟩ := h.inner.ph
    exact ⟨(upd_ne h0).trans h1, h0, _, upd_same, rf.put r⟩, h.inner.fr⟩ h
theorem insD_ins (c : Rc K) (hm : fs.lookup m = none) (eI : I = c.fill (iIns K x C dx fs) := by rfl) : InsD C m (.adr x) I := fun G H v s h r => by
  subst eI
  obtain ⟨vs, h2, h3, _⟩ := h.ins
  exact ⟨x, r, .inr ⟨dx, vs, h2, h3.none hm⟩⟩
end
section
variable {X : Cx} {W : WX} {R : Rx X.K} {a b e o : Expr} {es : List Expr} {δ : DEnv} {I : Iv X.K} {P : D → Iv X.K → Prop} {pos p q' : Pos} {f : Str} {d z : D} {x C dx : Addr} {fs : List (Str × D)} {κ : Ko X.K}
theorem ev_fld (k : Rc X.K) (c : Cls X.K C) (n : NoAttr X.K C f) (hd : fs.lookup f = some d) (h : EvX X W R o δ I fun y I1 => y = .adr x ∧ I1 = k.fill (iIns X.K x C dx fs) ∧ P d I1) (hb : attributeBase o f X.env (eval o X.env) = eval o X.env := by rfl) : EvX X W R (.Attribute o f pos) δ I P := fun σ G H Q hE s hI qx q =>
  PE.wp (pe_fld peC hb) (h σ G H _ hE s hI qx fun v y G1 H1 I1 s1 t1 h1 r1 ⟨ey, ei, pp⟩ => by
    subst ey ei
    obtain ⟨vs, h2, h3, _⟩ := h1.ins
    obtain ⟨u, hu, ru⟩ := (FRep.of h3).2 f d hd
    exact ⟨x, C, dx, vs, u, r1, h2, c, n, hu, q u d G1 H1 _ s1 t1 h1 ru pp⟩)
theorem pv_fld (k : Rc X.K) (c : Cls X.K C) (n : NoAttr X.K C f) (ho : PV X I o δ (.adr x)) (hd : fs.lookup f = some d) (hb : attributeBase o f X.env (eval o X.env) = eval o X.env := by rfl) (eI : I = k.fill (iIns X.K x C dx fs) := by rfl) : PV X I (.Attribute o f pos) δ d := fun W R P pp =>
  ev_fld k c n hd (ho W R _ ⟨rfl, eI, pp⟩) hb
theorem s_fld (c : Cls X.K C) (n : NoAttr X.K C f) (h : EvX X W (κ.r δ) e δ I fun d I1 => ∃ (k : Rc X.K) (x dx : Addr) (fs : List (Str × D)), I1 = k.fill (iIns X.K x C dx fs) ∧ PV X I1 o δ (.adr x) ∧ fs.length < 1000 ∧ κ.nx δ (k.fill (iIns X.K x C dx (putA f d fs))))
    (hs : swapsWith e (some (.Attribute o f q')) pos.line X.env = pure false := by rfl) : S1 X W (.Assign [.Attribute o f q'] e pos) δ I κ := fun σ G H E hE s hI kk =>
  PS.wp (ps_fld peC peC hs) (h σ G H _ hE s hI (kk.kx hE) fun v d1 G1 H1 I1 s1 t1 h1 r1 ⟨k, x, dx, fs, ei, ho, hl, nx⟩ => by
    subst ei
    refine ho W (κ.r δ) (fun z J => z = .adr x ∧ J = k.fill (iIns X.K x C dx fs)) ⟨rfl, rfl⟩ σ G1 H1 _ (hE.mono s1) t1 h1 ((kk.kx hE).mono s1) fun v2 d2 G2 H2 I2 s2 t2 h2 r2 ⟨ed2, ei2⟩ => ?_
    subst ed2 ei2
    obtain ⟨vs, h3, h4, h5⟩ := h2.ins
    refine ⟨x, C, dx, vs, r2, h3, c, n, by rw [h4.len]; exact hl, ?_⟩
    exact kk.nx δ σ G2 _ _ (s1.trans s2) (same_upd t2 h5) (h2.insSet (r1.mono s2) h3 h4) (hE.mono (s1.trans s2)) nx)
theorem s_fldP (k : Rc X.K) (c : Cls X.K C) (n : NoAttr X.K C f) (ho : PV X I o δ (.adr x)) (h : PV X I e δ d) (nx : κ.nx δ (k.fill (iIns X.K x C dx (putA f d fs))))
    (hs : swapsWith e (some (.Attribute o f q')) pos.line X.env = pure false := by rfl) (eI : I = k.fill (iIns X.K x C dx fs) := by rfl) (hl : decide (fs.length < 1000) = true := by rfl) : S1 X W (.Assign [.Attribute o f q'] e pos) δ I κ := by
  subst eI
  exact s_fld c n (h W _ _ ⟨k, x, dx, fs, rfl, ho, of_decide_eq_true hl, nx⟩) hs
theorem s_fldaug {op : Operator} {rd : V → V → Hp → VK → Prop} (k : Rc X.K) (c : Cls X.K C) (n : NoAttr X.K C f) (hop : InOp X op rd) (ho : PV X I o δ (.adr x)) (hd : fs.lookup f = some d) (he : PV X I e δ z) {y : D} (h2 : P2 X.K I rd d z y) (nx : κ.nx δ (k.fill (iIns X.K x C dx (putA f y fs)))) (eI : I = k.fill (iIns X.K x C dx fs) := by rfl) (hl0 : decide (fs.length < 1000) = true := by rfl) : S1 X W (.AugAssign (.Attribute o f p) op e pos) δ I κ := fun σ G H E hE s hI kk => by
  subst eI
  have hl : fs.length < 1000 := of_decide_eq_true hl0
  exact PS.wp (ps_fldaug peC peC hop) (ho W (κ.r δ) (fun z J => z = .adr x ∧ J = k.fill (iIns X.K x C dx fs)) ⟨rfl, rfl⟩ σ G H _ hE s hI (kk.kx hE) fun v1 d1 G1 H1 I1 s1 t1 h1 r1 ⟨ed1, ei1⟩ => by
    subst ed1 ei1
    obtain ⟨vs, h3, h4, h5⟩ := h1.ins
    obtain ⟨u, hu, ru⟩ := (FRep.of h4).2 f d hd
    refine ⟨x, C, dx, vs, u, r1, h3, c, n, hu, ?_⟩
    refine he W (κ.r δ) (fun w J => w = z ∧ J = k.fill (iIns X.K x C dx fs)) ⟨rfl, rfl⟩ σ G1 H1 _ (hE.mono s1) t1 h1 ((kk.kx hE).mono s1) fun v2 d2 G2 H2 I2 s2 t2 g2 r2 ⟨ed2, ei2⟩ => ?_
    subst ed2 ei2
    refine h2 (fun w J => w = y ∧ J = k.fill (iIns X.K x C dx fs)) ⟨rfl, rfl⟩ G2 H2 u v2 _ t2 g2 (ru.mono s2) r2 fun v3 d3 G3 H3 I3 s3 t3 g3 r3 ⟨ed3, ei3⟩ => ?_
    subst ed3 ei3
    obtain ⟨vs', h3', h4', h5'⟩ := g3.ins
    refine ⟨dx, vs', h3', by rw [h4'.len]; exact hl, ?_⟩
    exact kk.nx δ σ G3 _ _ ((s1.trans s2).trans s3) (same_upd t3 h5') (g3.insSet r3 h3' h4') (hE.mono ((s1.trans s2).trans s3)) nx)
end
end DL
set_option Elab.async false
set_option linter.all false
set_option maxRecDepth 100000
set_option maxHeartbeats 4000000
namespace L2
open PySem PySem.Spec PyProof.Rows
section
variable {prog : Program} {w : World} {A : Around} {E : Value → Shared → Prop} {s : Shared} {l : Addr} {its : List Value} {ns : List Int} {Q : Value → Shared → Prop}
end
section
variable {X : Cx}
end
end L2
namespace DL
open PySem PySem.Spec PyProof.Rows L2
section
variable {X : Cx} {W : WX} {R : Rx X.K} {a b o e : Expr} {es : List Expr} {δ : DEnv} {I : Iv X.K} {P : D → Iv X.K → Prop} {pos p apos ep : Pos} {d x y z : D} {ds : List D} {κ : Ko X.K} {ns : List Int} {ss : List Str} {k : Str} {q : Addr} {n : Nat}
end
end DL
set_option Elab.async false
set_option linter.all false
set_option maxRecDepth 100000
set_option maxHeartbeats 4000000
namespace L2
open PySem PySem.Spec PyProof.Rows
section
variable {X : Cx} {a b o e : Expr} {es : List Expr} {ta tb to : TE} {t : TA} {pos cpos apos : Pos} {name : Str} {id : String} {r : V → List V → Hp → VK → Prop}
end
end L2
namespace DL
open PySem PySem.Spec PyProof.Rows L2
section
variable {X : Cx} {W : WX} {R : Rx X.K} {a b o e : Expr} {es : List Expr} {δ : DEnv} {I : Iv X.K} {P : D → Iv X.K → Prop} {pos p apos ep : Pos} {d x y z : D} {ds : List D} {κ : Ko X.K} {ns : List Int} {ss : List Str} {k : Str} {q : Addr} {n : Nat}
theorem sx_freezeL {sts : List Stmt} {j : Nat} (hd : δ[j]? = some (some (.adr q))) (h : SX X W sts (δ.set j (some (.lst ds))) I κ) : SX X W sts δ (I.and (iLst X.K q ds)) κ := fun σ G H E hE s hI kk => by
  obtain ⟨G', s', t', h', r'⟩ := freeze_lst s hI
  refine h σ G' H E ?_ t' h' (kk.mono s')
  obtain ⟨v, hv, rv⟩ := hE.2 j _ hd
  have ev : v = .ref q := rv
  subst ev
  have e2 := (hE.mono s').set (i := j) r'
  have e3 : σ.set j (some (.ref q)) = σ := by
    apply List.ext_getElem?
    intro i
    by_cases hj : j = i
    · subst hj
      rw [List.getElem?_set_self (List.getElem?_eq_some_iff.mp hv).1, hv]
    · rw [List.getElem?_set_ne hj]
  rwa [e3] at e2
end
end DL
set_option Elab.async false
set_option linter.all false
set_option maxRecDepth 100000
set_option maxHeartbeats 4000000
namespace DL
open PySem PySem.Spec PyProof.Rows L2
section
variable {X : Cx} {W : WX} {R : Rx X.K} {elt tg iter tg1 iter1 e a : Expr} {scope : Scope} {δ : DEnv} {I : Iv X.K} {P : D → Iv X.K → Prop} {pos p : Pos} {κ : Ko X.K} {d z : D} {ds : List D}
end
end DL
set_option Elab.async false
set_option linter.all false
set_option maxRecDepth 100000
set_option maxHeartbeats 4000000
namespace DL
open PySem PySem.Spec PyProof.Rows L2
section
variable {X : Cx} {W : WX} {R : Rx X.K} {a b o e : Expr} {es : List Expr} {δ : DEnv} {I : Iv X.K} {P : D → Iv X.K → Prop} {pos p : Pos} {κ : Ko X.K} {d z : D} {ds : List D} {x' : Str} {n m : Int}
theorem s_augP (i : Nat) (hd : δ[i]? = some (some (.int n))) (h : PV X I e δ (.int m)) (q : κ.nx (δ.set i (some (.int (n + m)))) I) {pos' : Pos} (hN : X.N.Nodup := by assumption) (hi : X.N[i]? = some x' := by rfl) (hx : Loc X.env.scope x' := by first | exact Or.inl rfl | exact Or.inr rfl)
    (hf : X.fn x' = true ∨ X.env.scope.names.lookup x' = some .local := by first | exact .inl rfl | exact .inr rfl) : S1 X W (.AugAssign (.Name x' pos') .Add e pos) δ I κ := fun σ G H E hE s hI k => by
  obtain ⟨v, hv, rv⟩ := hE.2 i _ hd
  obtain rfl : v = .int n := rv
  exact PS.wp (ps_aug hN hi hx peC ip_add hf) ⟨_, hv, h W (κ.r δ) (fun z J => z = .int m ∧ J = I) ⟨rfl, rfl⟩ σ G H _ hE s hI (k.kx hE) fun w d1 G1 H1 I1 s1 t1 h1 r1 ⟨ed, ei⟩ => by
    subst ed ei
    exact ⟨n, m, rfl, r1, k.nx _ _ G1 H1 _ s1 t1 h1 ((hE.mono s1).set (d := .int (n + m)) rfl) q⟩⟩
end
section
variable {X : Cx} {W : WX} {R : Rx X.K} {a b o e i : Expr} {δ : DEnv} {I : Iv X.K} {pos p : Pos} {y z : D} {kds : List (Key × D)} {k : Key}
theorem pt_din (hu : X.A.units + 1 < cLine) (dI : DicI X I z kds) (hi : PV X I i δ y) (ho : PV X I o δ z) (hk : keyD y = some k) (hm : behindInMarks .In o = false := by rfl) : PVT X I (.Compare i [.In] [o] pos) δ ((getG kds k).isSome) := fun W R P pp σ G H Q hE s hI qx q =>
  PT.wp (L2.pt_cmp (pc_din hu peC peC) hm) (hi W R (fun z1 I1 => z1 = y ∧ I1 = I) ⟨rfl, rfl⟩ σ G H _ hE s hI qx fun v d1 G1 H1 I1 s1 t1 h1 r1 ⟨ed, ei⟩ => by
    subst ed ei
    refine ho W R (fun z1 J => z1 = z ∧ J = I1) ⟨rfl, rfl⟩ σ G1 H1 _ (hE.mono s1) t1 h1 (qx.mono s1) fun v2 d2 G2 H2 I2 s2 t2 h2 r2 ⟨ed2, ei2⟩ => ?_
    subst ed2 ei2
    obtain ⟨a, kvs, e1, rd, kr⟩ := dic_rd dI t2 h2 r2
    refine ⟨a, valV kvs k, e1, .inl ⟨kvs, k, rd, rep_key hk (r1.mono s2), rfl⟩, ?_⟩
    have e5 : (valV kvs k).isSome = (getG kds k).isSome := by
      cases h : getG kds k with
      | none => rw [(kr.get (k := k)).2 h]; rfl
      | some d0 =>
        obtain ⟨u, e3, _⟩ := (kr.get (k := k)).1 d0 h
        rw [e3]; rfl
    rw [e5]
    exact ⟨_, rfl, q _ G2 H2 _ (s1.trans s2) t2 h2 pp⟩)
theorem pt_dnin (hu : X.A.units + 1 < cLine) (dI : DicI X I z kds) (hi : PV X I i δ y) (ho : PV X I o δ z) (hk : keyD y = some k) (hm : behindInMarks .NotIn o = false := by rfl) : PVT X I (.Compare i [.NotIn] [o] pos) δ (!(getG kds k).isSome) := fun W R P pp σ G H Q hE s hI qx q =>
  PT.wp (L2.pt_cmp (pc_dnotin hu peC peC) hm) (hi W R (fun z1 I1 => z1 = y ∧ I1 = I) ⟨rfl, rfl⟩ σ G H _ hE s hI qx fun v d1 G1 H1 I1 s1 t1 h1 r1 ⟨ed, ei⟩ => by
    subst ed ei
    refine ho W R (fun z1 J => z1 = z ∧ J = I1) ⟨rfl, rfl⟩ σ G1 H1 _ (hE.mono s1) t1 h1 (qx.mono s1) fun v2 d2 G2 H2 I2 s2 t2 h2 r2 ⟨ed2, ei2⟩ => ?_
    subst ed2 ei2
    obtain ⟨a, kvs, e1, rd, kr⟩ := dic_rd dI t2 h2 r2
    refine ⟨a, valV kvs k, e1, .inl ⟨kvs, k, rd, rep_key hk (r1.mono s2), rfl⟩, ?_⟩
    have e5 : (valV kvs k).isSome = (getG kds k).isSome := by
      cases h : getG kds k with
      | none => rw [(kr.get (k := k)).2 h]; rfl
      | some d0 =>
        obtain ⟨u, e3, _⟩ := (kr.get (k := k)).1 d0 h
        rw [e3]; rfl
    rw [e5]
    exact ⟨_, rfl, q _ G2 H2 _ (s1.trans s2) t2 h2 pp⟩)
end
end DL
set_option Elab.async false
set_option linter.all false
set_option maxRecDepth 100000
set_option maxHeartbeats 4000000
namespace DL
open PySem PySem.Spec PyProof.Rows L2
section
variable {X : Cx} {W : WX} {R : Rx X.K} {e : Expr} {sts : List Stmt} {st : Stmt} {δ : DEnv} {I J : Iv X.K} {κ : Ko X.K} {P : D → Iv X.K → Prop}
theorem SX.drop (h : SX X W sts δ I κ) : SX X W sts δ (I.and J) κ := fun σ G H E hE s hI k => h σ G H E hE s hI.left k
theorem S1.drop (h : S1 X W st δ I κ) : S1 X W st δ (I.and J) κ := fun σ G H E hE s hI k => h σ G H E hE s hI.left k
theorem EvX.drop (h : EvX X W R e δ I fun d I1 => ∃ I2 J2, I1 = I2.and J2 ∧ P d I2) : EvX X W R e δ I P := fun σ G H Q hE s hI qx q => h σ G H Q hE s hI qx fun v d G1 H1 I1 s1 t1 h1 r1 ⟨I2, J2, ei, pp⟩ => by
  subst ei
  exact q v d G1 H1 I2 s1 t1 h1.left r1 pp
end
end DL
set_option Elab.async false
set_option linter.all false
set_option maxRecDepth 100000
set_option maxHeartbeats 4000000
namespace L2
open PySem PySem.Spec PyProof.Rows
abbrev MX := List (NestedKey × Addr × Value)
def memoΦ (P : Program) (w : World) (q : Addr) (xs : MX) (h : Heap) : Prop := (q == sysModules) = false ∧ xs.length ≤ 1000000 ∧ ∃ o es ep, h.get? q = some o ∧ o.ExactDict ∧ o.data = .dict es ep ∧ es.toList = xs.map (entryOfKey (nestedKind P w)) ∧ (xs.map (·.1)).Nodup
def memoO (P : Program) (w : World) (q : Addr) (xs : MX) : HO := .ext (memoΦ P w q xs)
section
variable {X : Cx} {pins : List (Addr × Obj)} {σ : St} {H H' : Hp} {s : Shared} {P : Program} {w : World} {q : Addr} {xs : MX} {h : Heap}
end
end L2
namespace DL
open PySem PySem.Spec PyProof.Rows L2
mutual
def keyN : NestedKey → D
  | .none => .non
  | .num i => .int i
  | .text x => .str x
  | .tup ks => .tup (keyNs ks)
def keyNs : List NestedKey → List D
  | [] => []
  | k :: ks => keyN k :: keyNs ks
end
mutual
theorem nested_of {X : Cx} {pins : List (Addr × Obj)} {σ : L2.St} {G H : Hp} {s : Shared} (I : Inv X pins σ H s) (sm : Same G H) : ∀ (k : NestedKey) (v : V) (u : Value), Rep X.K G (keyN k) v → RelV v u → NestedIs s.heap k u
  | .none, v, u, r, h => by
    rw [show v = .non from r] at h
    rw [show u = .none from h]; exact .none
  | .num i, v, u, r, h => by
    rw [show v = .int i from r] at h
    obtain ⟨t, rfl⟩ := (show ∃ t, u = Value.int i t from h)
    exact .int i t
  | .text x, v, u, r, h => by
    rw [show v = .str x from r] at h
    obtain ⟨t, rfl⟩ := (show ∃ t, u = Value.str x t from h)
    exact .text x t
  | .tup ks, v, u, ⟨a, vs, e1, e2, e3⟩, h => by
    rw [e1] at h
    obtain rfl : u = Value.ref a := h
    obtain ⟨its, r, ⟨o, ho, hc, n, hd⟩, _⟩ := I.tuple (sqT_mono sm e2)
    exact .tup ho hc hd (nesteds_of I sm ks vs its e3 r)
theorem nesteds_of {X : Cx} {pins : List (Addr × Obj)} {σ : L2.St} {G H : Hp} {s : Shared} (I : Inv X pins σ H s) (sm : Same G H) : ∀ (ks : List NestedKey) (vs : List V) (us : List Value), Reps X.K G (keyNs ks) vs → Vals vs us → NestedAll s.heap ks us
  | [], vs, us, r, h => by
    rw [show vs = [] from r] at h
    cases h; exact .nil
  | k :: ks, vs, us, ⟨v, vr, e, r1, r2⟩, h => by
    rw [e] at h
    cases h with
    | cons a b => exact .cons (nested_of I sm k _ _ r1 a) (nesteds_of I sm ks _ _ r2 b)
end
def MR (K : PySem.W.Frag) (G : Hp) : List (NestedKey × D) → MX → Prop
  | [], xs => xs = []
  | p :: r, xs => ∃ (a : Addr) (v : V) (u : Value) (rest : MX), xs = (p.1, a, u) :: rest ∧ Rep K G (keyN p.1) (.ref a) ∧ p.1.depth ≤ 8 ∧ RelV v u ∧ Rep K G p.2 v ∧ MR K G r rest
theorem MR.mono {K : PySem.W.Frag} {G G' : Hp} (s : Same G G') : ∀ {kds : List (NestedKey × D)} {xs : MX}, MR K G kds xs → MR K G' kds xs
  | [], _, h => h
  | _ :: _, _, ⟨a, v, u, rest, e, h1, h2, h3, h4, h5⟩ => ⟨a, v, u, rest, e, h1.mono s, h2, h3, h4.mono s, MR.mono s h5⟩
theorem MR.len {K : PySem.W.Frag} {G : Hp} : ∀ {kds : List (NestedKey × D)} {xs : MX}, MR K G kds xs → xs.length = kds.length
  | [], _, h => by rw [show _ = [] from h]; rfl
  | _ :: _, _, ⟨a, v, u, rest, e, _, _, _, _, h⟩ => by rw [e, List.length_cons, List.length_cons, MR.len h]
theorem MR.is {X : Cx} {pins : List (Addr × Obj)} {σ : L2.St} {G H : Hp} {s : Shared} (I : Inv X pins σ H s) (sm : Same G H) : ∀ {kds : List (NestedKey × D)} {xs : MX}, MR X.K G kds xs → ∀ x ∈ xs, (nestedKind X.prog X.w).is s.heap x.1 x.2.1
  | [], _, h, x, hx => by rw [show _ = [] from h] at hx; cases hx
  | _ :: _, _, ⟨a, v, u, rest, e, h1, h2, h3, h4, h5⟩, x, hx => by
    rw [e] at hx
    rcases List.mem_cons.mp hx with rfl | hx
    · exact ⟨nested_of I sm _ _ _ h1 rfl, h2⟩
    · exact MR.is I sm h5 x hx
def getN (kds : List (NestedKey × D)) (k : NestedKey) : Option D := (kds.find? fun p => decide (p.1 = k)).map (·.2)
theorem MR.get {K : PySem.W.Frag} {G : Hp} {k : NestedKey} : ∀ {kds : List (NestedKey × D)} {xs : MX}, MR K G kds xs → (∀ d, getN kds k = some d → ∃ a u v, atKey xs k = some (a, u) ∧ RelV v u ∧ Rep K G d v) ∧ (getN kds k = none → atKey xs k = none)
  | [], _, h => by rw [show _ = [] from h]; exact ⟨(fun d e => nomatch e), fun _ => rfl⟩
  | p :: r, _, ⟨a, v, u, rest, e, h1, h2, h3, h4, h5⟩ => by
    rw [e]
    unfold getN atKey
    rw [List.find?_cons, List.find?_cons]
    by_cases hk : p.1 = k
    · rw [decide_eq_true hk]
      exact ⟨fun d ed => by cases ed; exact ⟨a, u, v, rfl, h3, h4⟩, (fun en => nomatch en)⟩
    · rw [decide_eq_false hk]
      exact MR.get h5
theorem MR.app {K : PySem.W.Frag} {G : Hp} {k : NestedKey} {d : D} {a : Addr} {u : Value} {v : V} (h1 : Rep K G (keyN k) (.ref a)) (h2 : k.depth ≤ 8) (h3 : RelV v u) (h4 : Rep K G d v) : ∀ {kds : List (NestedKey × D)} {xs : MX}, MR K G kds xs → MR K G (kds ++ [(k, d)]) (xs ++ [(k, a, u)])
  | [], _, h => by rw [show _ = [] from h]; exact ⟨a, v, u, [], rfl, h1, h2, h3, h4, rfl⟩
  | _ :: _, _, ⟨a', v', u', rest, e, g1, g2, g3, g4, g5⟩ => by
    rw [e]
    exact ⟨a', v', u', _, rfl, g1, g2, g3, g4, MR.app h1 h2 h3 h4 g5⟩
def iMemo (P : Program) (w : World) (K : PySem.W.Frag) (q : Addr) (kds : List (NestedKey × D)) : Iv K := iObj K q (fun G o => ∃ xs, o = memoO P w q xs ∧ MR K G kds xs) fun _ _ _ s ⟨xs, h1, h2⟩ => ⟨xs, h1, h2.mono s⟩
section
variable {P : Program} {w : World} {K : PySem.W.Frag} {G H : Hp} {q : Addr} {kds : List (NestedKey × D)} {c : Rc K} {I : Iv K}
theorem Hd.memo (h : Hd (c.fill (iMemo P w K q kds)) G H) : ∃ xs, H q = some (memoO P w q xs) ∧ MR K G kds xs ∧ G q = none := by
  have z := h.inner
  obtain ⟨o, ho, xs, ev, r⟩ := z.ph
  subst ev
  exact ⟨xs, ho, r, z.fr q rfl⟩
end
section
variable {X : Cx} {W : WX} {R : Rx X.K} {o i e : Expr} {sts : List Stmt} {δ : DEnv} {I : Iv X.K} {pos ps : Pos} {q : Addr} {kds : List (NestedKey × D)} {ks : List NestedKey} {d : D} {κ : Ko X.K}
end
end DL
set_option Elab.async false
set_option linter.all false
set_option maxRecDepth 100000
set_option maxHeartbeats 4000000
namespace L2
open PySem PySem.Spec PyProof.Rows
end L2
namespace DL
open PySem PySem.Spec PyProof.Rows L2
section
variable {X : Cx} {W : WX} {e : Expr} {sts : List Stmt} {δ : DEnv} {I : Iv X.K} {pos : Pos} {q : Addr} {κ : Ko X.K} {x' : Str} {n : Int}
end
end DL
set_option Elab.async false
set_option linter.all false
set_option maxRecDepth 100000
set_option maxHeartbeats 4000000
namespace DL
open PySem PySem.Spec PyProof.Rows L2
structure DefK (P : Program) (w : World) (K : PySem.W.Frag) (mg : Str → Option Value) (base : Heap) (x : Str) (k : Nat) (ps : List Str) (n : Nat) (ks : List Str) (dds : List D) (S : Spec K) : Prop where
  ex : ∃ (f : Addr) (fd : FuncData) (g : List Value → List Value → List Value) (gV : List V → List V → List V) (dv : List V), mg x = some (.ref f) ∧ PySem.W.keepIn K (.ref f) = true ∧ FnOk P w K mg base (L2.CX P w) k f fd ps (spD K S) ∧ KBn K fd ps n ks g gV ∧ (∀ vs zs, zs.length = ks.length → gV vs zs = vs ++ zs ++ dv) ∧ ∀ G, Reps K G dds dv
section
variable {P : Program} {w : World} {K : PySem.W.Frag} {mg : Str → Option Value} {base : Heap} {x qual : Str} {params : Arguments} {body : List Stmt} {scope : Scope} {f : Addr} {fd : FuncData} {ps ks : List Str} {k n : Nat} {S : Spec K} {kws : List (Str × V)}
theorem DefK.of (g : mg x = some (.ref f)) (F : FunD K x qual params body scope [] kws f fd) (ok : FnOk P w K mg base (L2.CX P w) k f fd ps (spD K S)) (hk : kws ≠ [])
    (h : ∀ (D : Addr) (doc pm : Value) (an : Option Addr) (cdv ct : Value) (us ws : List Value), us.length = n → ws.length = ks.length → KwChain D [] (bindArgs (PySem.W.fnOf x qual params body scope .none (.ref D) doc pm an cdv ct) ⟨us, ks.zip ws⟩) (ps.zip (us ++ ws))) : DefK P w K mg base x k ps n ks [] S := by
  obtain ⟨_, b⟩ := FunD.kbinds0 (ps := ps) F n ks [] (fun us _ ws => us ++ ws) hk (fun q hq => by cases hq) (fun r1 _ r3 => r1.append r3) fun D doc pm an cdv ct us mv ws h1 h2 h3 => by
    have e : mv = [] := List.length_eq_zero_iff.mp h2
    subst e
    exact h D doc pm an cdv ct us ws h1 h3
  exact ⟨f, fd, _, _, [], g, F.kp, ok, b, fun vs zs _ => (List.append_nil _).symm, fun _ => rfl⟩
end
section
variable {X : Cx} {W : WX} {R : Rx X.K} {e : Expr} {es : List Expr} {δ : DEnv} {I : Iv X.K} {P : D → Iv X.K → Prop} {pos p : Pos} {x : Str} {ps ks : List Str} {k n : Nat} {S : Spec X.K} {d : D} {kws : List Keyword}
end
end DL
set_option Elab.async false
set_option linter.all false
set_option maxRecDepth 100000
set_option maxHeartbeats 4000000
namespace L2
open PySem PySem.Spec PyProof.Rows
section
variable {X : Cx} {a b : Expr} {ta : TE} {t : TEw} {pos : Pos}
end
end L2
set_option Elab.async false
set_option linter.all false
set_option maxRecDepth 100000
set_option maxHeartbeats 400000
namespace DL
open PySem PySem.Spec PyProof.Rows L2
section
variable {X : Cx} {W : WX} {a e : Expr} {op : CmpOp} {sts els : List Stmt} {δ : DEnv} {I : Iv X.K} {pos p1 p2 p3 : Pos} {κ : Ko X.K} {x' : Str}
end
end DL
set_option Elab.async false
set_option linter.all false
set_option maxRecDepth 100000
set_option maxHeartbeats 4000000
namespace L2
open PySem PySem.Spec PyProof.Rows
section
variable {X : Cx} {es : List Expr} {t : TA} {pos : Pos}
end
end L2
namespace DL
open PySem PySem.Spec PyProof.Rows L2
section
variable {X : Cx} {W : WX} {R : Rx X.K} {a b o e : Expr} {es : List Expr} {δ : DEnv} {I : Iv X.K} {P : D → Iv X.K → Prop} {pos p apos : Pos} {d z : D} {ds fs : List D} {ss : List Str} {k : Str}
end
end DL
set_option Elab.async false
set_option linter.all false
set_option maxRecDepth 100000
set_option maxHeartbeats 4000000
namespace L2
open PySem PySem.Spec PyProof.Rows
section
variable {X : Cx}
end
end L2
namespace DL
open PySem PySem.Spec PyProof.Rows L2
section
variable {X : Cx} {W : WX} {R : Rx X.K} {a b e : Expr} {δ : DEnv} {I : Iv X.K} {P : D → Iv X.K → Prop} {pos p : Pos} {d x y : D} {ds : List D} {q : Addr}
end
end DL
set_option Elab.async false
set_option linter.all false
set_option maxRecDepth 100000
set_option maxHeartbeats 4000000
namespace DL
open PySem PySem.Spec PyProof.Rows L2
section
variable {K : PySem.W.Frag} {I I' J J' L : Iv K} {G H : Hp}
theorem Hd.wk (w : Wk I I') (h : Hd I G H) : Hd I' G H := ⟨w.φ _ _ h.ph, fun a ha => h.fr a (w.F a ha)⟩
theorem Wk.refl : Wk I I := ⟨fun _ h => h, fun _ _ h => h⟩
theorem Wk.trans (a : Wk I J) (b : Wk J L) : Wk I L := ⟨fun x h => a.F x (b.F x h), fun G H h => b.φ G H (a.φ G H h)⟩
theorem Wk.of (s : Sub I I') : Wk I I' := ⟨fun a h => (s.F a).mp h, s.φ⟩
theorem Wk.eq (e : I = I') : Wk I I' := e ▸ Wk.refl
theorem Wk.and (a : Wk I I') (b : Wk J J') : Wk (I.and J) (I'.and J') := ⟨fun x h => h.imp (a.F x) (b.F x), fun G H h => ⟨a.φ _ _ h.1, b.φ _ _ h.2.1, fun x hx => h.2.2 x ⟨a.F x hx.1, b.F x hx.2⟩⟩⟩
theorem Wk.andL (a : Wk I I') : Wk (I.and J) (I'.and J) := a.and .refl
theorem Wk.andR (a : Wk I I') : Wk (J.and I) (J.and I') := Wk.refl.and a
theorem Wk.fill (s : Wk I I') : ∀ c : Rc K, Wk (c.fill I) (c.fill I')
  | .here => s
  | .l c J => (Wk.fill s c).andL
  | .r J c => (Wk.fill s c).andR
theorem Wk.dropR : Wk (I.and J) I := ⟨fun _ h => .inl h, fun _ _ h => h.1⟩
theorem Wk.dropL : Wk (I.and J) J := ⟨fun _ h => .inr h, fun _ _ h => h.2.1⟩
theorem Wk.comm : Wk (I.and J) (J.and I) := ⟨fun _ h => h.symm, fun _ _ h => ⟨h.2.1, h.1, fun a ha => h.2.2 a ⟨ha.2, ha.1⟩⟩⟩
theorem Wk.assoc : Wk ((I.and J).and L) (I.and (J.and L)) := .of .assoc
theorem Wk.assoc' : Wk (I.and (J.and L)) ((I.and J).and L) := ⟨fun a h => h.elim (fun h => h.elim .inl fun h => .inr (.inl h)) fun h => .inr (.inr h), fun G H ⟨h1, ⟨h2, h3, h4⟩, h5⟩ => ⟨⟨h1, h2, fun a ha => h5 a ⟨ha.1, .inl ha.2⟩⟩, h3, fun a ha => ha.1.elim (fun q => h5 a ⟨q, .inr ha.2⟩) fun q => h4 a ⟨q, ha.2⟩⟩⟩
theorem Wk.swapR : Wk ((I.and J).and L) ((I.and L).and J) := Wk.assoc.trans (Wk.comm.andR.trans Wk.assoc')
theorem Wk.push : ∀ c : Rc K, Wk (c.fill (I.and J)) ((c.fill I).and J)
  | .here => .refl
  | .l c L => (Wk.push c).andL.trans Wk.swapR
  | .r L c => (Wk.push c).andR.trans Wk.assoc'
theorem Wk.inner : ∀ c : Rc K, Wk (c.fill I) I
  | .here => .refl
  | .l c J => Wk.dropR.trans (Wk.inner c)
  | .r J c => Wk.dropL.trans (Wk.inner c)
end
section
variable {X : Cx} {W : WX} {R : Rx X.K} {e : Expr} {es : List Expr} {sts : List Stmt} {st : Stmt} {δ : DEnv} {I I' : Iv X.K} {κ : Ko X.K} {P P' : D → Iv X.K → Prop}
theorem SX.wk (w : Wk I I') (h : SX X W sts δ I' κ) : SX X W sts δ I κ := fun σ G H E hE s hI k => h σ G H E hE s (hI.wk w) k
theorem S1.wk (w : Wk I I') (h : S1 X W st δ I' κ) : S1 X W st δ I κ := fun σ G H E hE s hI k => h σ G H E hE s (hI.wk w) k
theorem EvX.wk (w : Wk I I') (h : EvX X W R e δ I' P) : EvX X W R e δ I P := fun σ G H Q hE s hI qx q => h σ G H Q hE s (hI.wk w) qx q
theorem KoLe.k {E : Ends} {G : Hp} (h : KoLe X.K W E G κ) : KoLe X.K W E G κ.k where
  nx := fun δ σ G' H' I' s1 s2 h1 r ⟨I2, w, p⟩ => h.nx δ σ G' H' I2 s1 s2 (h1.wk w) r p
  rt := fun v d G' H' I' s1 s2 h1 r ⟨I2, w, p⟩ => h.rt v d G' H' I2 s1 s2 (h1.wk w) r p
  bk := fun δ σ G' H' I' s1 s2 h1 r ⟨I2, w, p⟩ => h.bk δ σ G' H' I2 s1 s2 (h1.wk w) r p
  ct := fun δ σ G' H' I' s1 s2 h1 r ⟨I2, w, p⟩ => h.ct δ σ G' H' I2 s1 s2 (h1.wk w) r p
  ex := fun C dd fs l δ σ G' H' I' s1 s2 h1 r q hd ⟨I2, w, p⟩ => h.ex C dd fs l δ σ G' H' I2 s1 s2 (h1.wk w) r q hd p
theorem SX.k (h : SX X W sts δ I κ.k) : SX X W sts δ I κ := fun σ G H E hE s hI k => h σ G H E hE s hI k.k
theorem S1.k (h : S1 X W st δ I κ.k) : S1 X W st δ I κ := fun σ G H E hE s hI k => h σ G H E hE s hI k.k
end
section
variable {K : PySem.W.Frag}
theorem Wk.emp {I : Iv K} : Wk I (iEmp K) := ⟨fun _ h => h.elim, fun _ _ _ => trivial⟩
end
structure LsI {K : PySem.W.Frag} (I : Iv K) (d : D) (ds : List D) : Prop where
  h : ∀ (G H : Hp) (v : V), Same G H → Hd I G H → Rep K G d v → ∃ a vs, v = .ref a ∧ H a = some (.lst vs) ∧ Reps K G ds vs
section
variable {K : PySem.W.Frag} {I J : Iv K} {d x y z : D} {ds es : List D} {p : Addr} {c : Rc K} {i : Int}
theorem LsI.k : LsI I (.lst ds) ds := ⟨fun G H v s _ ⟨a, vs, e, h1, h2⟩ => ⟨a, vs, e, s _ _ h1, h2⟩⟩
theorem LsI.m (c : Rc K) (eI : I = c.fill (iLst K p ds) := by rfl) : LsI I (.adr p) ds := ⟨fun G H v s hI r => by
  subst eI
  obtain ⟨vs, ho, rr, _⟩ := hI.lst
  exact ⟨p, vs, r, ho, rr⟩⟩
theorem LsI.wk (w : Wk I J) (h : LsI J d ds) : LsI I d ds := ⟨fun G H v s hI r => h.h G H v s (hI.wk w) r⟩
end
section
variable {X : Cx} {W : WX} {R : Rx X.K} {a b e o elt tg iter : Expr} {es : List Expr} {ifs : List Expr} {scope : Scope} {lo hi : Option Expr} {δ : DEnv} {I : Iv X.K} {P : D → Iv X.K → Prop} {pos p2 : Pos} {d z x : D} {ds : List D} {l h : Option Int} {κ : Ko X.K} {p : Addr} {i : Int}
theorem s_appendE {apos ep : Pos} (ho : PV X I o δ (.adr p)) (li : LsI I (.adr p) ds) (h : EvX X W (κ.r δ) e δ I fun d I1 => ∃ (c : Rc X.K) (ds : List D), I1 = c.fill (iLst X.K p ds) ∧ ds.length < 1000000 ∧ κ.nx δ (c.fill (iLst X.K p (ds ++ [d]))))
    (hbase : attributeBase o "append" X.env (eval o X.env) = eval o X.env := by rfl)
    (hfew : ((backTo pos (starEach [e] X.env)).all (fun x => !x.1) && (backToKw pos (keywordEach [] X.env)).all (fun x => x.1.isSome) && decide ([e].length + ([] : List Keyword).length + (if ([] : List Keyword).isEmpty then 0 else 1) < 30)) = true := by rfl)
    (hline : (apos.endLine == pos.line) = true := by rfl) (hst : starEach [e] X.env = (false, eval e X.env) :: starEach [] X.env := by rfl) (hpl : (backTo pos (starEach [] X.env)).any (·.1) = false := by rfl)
    (hs : swapsWith (.Call (.Attribute o "append" apos) [e] [] pos) none ep.line X.env = pure false := by rfl) : S1 X W (.Expr (.Call (.Attribute o "append" apos) [e] [] pos) ep) δ I κ := fun σ G H E hE s hI k =>
  PS.wp (ps_expr (pe_bm PySem.F.plainAttrs_list PySem.F.slot_list_append PySem.F.type_list_append mt_append peC (pa_cons peC pa_nil hst) hbase hfew hline hst hpl) hs) (ho W (κ.r δ) (fun z I1 => z = .adr p ∧ I1 = I) ⟨rfl, rfl⟩ σ G H _ hE s hI (k.kx hE) fun v d1 G1 H1 I1 s1 t1 h1 r1 ⟨ed, ei⟩ => by
    subst ed ei
    obtain ⟨a, vs, ev, hp, rv⟩ := li.h G1 H1 v t1 h1 r1
    obtain rfl : v = .ref p := r1
    cases ev
    refine ⟨.inl ⟨rfl, _, .inl (.inl hp)⟩, ?_⟩
    refine h σ G1 H1 _ (hE.mono s1) t1 h1 ((k.kx hE).mono s1) fun w d2 G2 H2 I2 s2 t2 h2 r2 ⟨c, ds2, ei, hz, nx⟩ => ?_
    subst ei
    obtain ⟨vs2, hp2, rv2, gp2⟩ := h2.lst
    refine ⟨p, vs2, w, rfl, rfl, hp2, by rw [rv2.length, sizeLine_eq]; omega, ?_⟩
    exact k.nx δ σ G2 _ _ (s1.trans s2) (same_upd t2 gp2) (h2.lstSet (rv2.append (Reps.one r2))) (hE.mono (s1.trans s2)) nx)
end
end DL
set_option Elab.async false
set_option linter.all false
set_option maxRecDepth 100000
set_option maxHeartbeats 4000000
namespace DL
open PySem PySem.Spec PyProof.Rows L2
section
variable {X : Cx} {W : WX} {R : Rx X.K} {n : Nat} {C : Addr} {S : Spec X.K} {δ : DEnv} {I I' : Iv X.K} {e : Expr} {pos pos' : Pos} {κ : Ko X.K} {x' : Str} {x : D} {sts : List Stmt} {st : Stmt} {P : D → Iv X.K → Prop}
def Fz {K : PySem.W.Frag} (I I' : Iv K) : Prop := ∀ (G H : Hp), Same G H → Hd I G H → ∃ G2, Same G G2 ∧ Same G2 H ∧ Hd I' G2 H
theorem Fz.s1 (f : Fz I I') (h : S1 X W st δ I' κ) : S1 X W st δ I κ := fun σ G H E hE s hI k => by
  obtain ⟨G2, s2, t2, h2⟩ := f G H s hI
  exact h σ G2 H E (hE.mono s2) t2 h2 (k.mono s2)
theorem Fz.ev (h : EvX X W R e δ I fun d I1 => ∃ I2, Fz I1 I2 ∧ P d I2) : EvX X W R e δ I P := fun σ G H Q hE s hI qx q =>
  h σ G H Q hE s hI qx fun v d G1 H1 I1 s1 t1 h1 r1 ⟨I2, f, p⟩ => by
    obtain ⟨G2, s2, t2, h2⟩ := f G1 H1 t1 h1
    exact q v d G2 H1 I2 (s1.trans s2) t2 h2 (r1.mono s2) p
theorem Fz.wk {K : PySem.W.Frag} {I J L : Iv K} (w : Wk I J) (f : Fz J L) : Fz I L := fun G H s h => f G H s (h.wk w)
end
end DL
set_option Elab.async false
set_option linter.all false
set_option maxRecDepth 100000
set_option maxHeartbeats 4000000
namespace DL
open PySem PySem.Spec PyProof.Rows L2
section
variable {X : Cx} {W : WX} {R : Rx X.K} {n1 n2 : Nat} {C : Addr} {SE SF : Spec X.K} {δ : DEnv} {I : Iv X.K} {ctx : Expr} {body : List Stmt} {pos py : Pos} {κ : Ko X.K} {y : Str}
end
end DL
set_option Elab.async false
set_option linter.all false
set_option maxRecDepth 100000
set_option maxHeartbeats 4000000
namespace DL
open PySem PySem.Spec PyProof.Rows L2
structure FnZ (P : Program) (w : World) (K : PySem.W.Frag) (mg : Str → Option Value) (base : Heap) (k : Nat) (f : Addr) (fd : FuncData) (ps : List Str) (sp : Sp) : Prop where
  len : ∀ vs H Q E, sp vs H Q E → vs.length = ps.length
  run : ∀ (A : Around) (outer : List Env) (s : Shared) (H : Hp) (args : Args) (us : List Value) (vs : List V) (Q : VK) (E : XK) (p : Addr × Obj), L2H.RoomH k A → L2H.PinOk outer H s p → Env0 P w K mg base A outer s H → BindsTo s fd args (ps.zip us) → Vals vs us → sp vs H Q E →
    codeAny (model P w) A (.call (.ref f) args) (CR (L2.CX P w) outer P w H s Q E) s
end DL
set_option Elab.async false
set_option linter.all false
set_option maxRecDepth 100000
set_option maxHeartbeats 4000000
namespace DL
open PySem PySem.Spec PyProof.Rows L2
section
variable {X : Cx} {W : WX} {n3 : Nat} {C c : Addr} {S : Spec X.K} {pins : List (Addr × Obj)} {Q : Flow → Shared → Prop}
end
section
variable {X : Cx} {W : WX} {R : Rx X.K} {n1 n2 n3 : Nat} {C : Addr} {SE SF SZ : Spec X.K} {δ : DEnv} {I : Iv X.K} {ctx : Expr} {body : List Stmt} {pos py : Pos} {κ : Ko X.K} {y : Str}
end
end DL
set_option Elab.async false
set_option linter.all false
set_option maxRecDepth 100000
set_option maxHeartbeats 4000000
namespace DL
open PySem PySem.Spec PyProof.Rows L2
section
variable {M : Model} {A : Around} {E : Value → Shared → Prop} {s : Shared} {env : Env}
end
section
variable {M : Model} {A : Around} {E : Value → Shared → Prop} {s : Shared} {Z : Obj → Prop} {B : Heap} {env : Env} {outer : List Env} {L C a : Addr}
end
section
variable {X : Cx} {W : WX} {pins : List (Addr × Obj)} {σ : L2.St} {H : Hp} {s : Shared} {scope : Scope} {ce : Env} {fp : List Addr} {use : Option (Value → Sem Unit)} {Q : Value → Shared → Prop} {acc : Value}
end
end DL
set_option Elab.async false
set_option linter.all false
set_option maxRecDepth 100000
set_option maxHeartbeats 4000000
namespace DL
open PySem PySem.Spec PyProof.Rows L2
structure WalkR (K : PySem.W.Frag) (J : It) (ds : List D) (Ok : Iv K → Prop) (G : Hp) : Prop where
  go : ∀ i G' H' I', Same G G' → Same G' H' → Hd I' G' H' → Ok I' → i < ds.length → J.go i H'
  stop : ∀ G' H' I', Same G G' → Same G' H' → Hd I' G' H' → Ok I' → J.stop ds.length H'
  yld : ∀ i G' H' I' x H'', Same G G' → Same G' H' → Hd I' G' H' → Ok I' → i < ds.length → J.yld i H' x H'' → ∃ G'', Same G' G'' ∧ Same G'' H'' ∧ Hd I' G'' H'' ∧ ∃ d, ds[i]? = some d ∧ Rep K G'' d x
theorem WalkR.mono {K : PySem.W.Frag} {J : It} {ds : List D} {Ok : Iv K → Prop} {G G1 : Hp} (h : WalkR K J ds Ok G) (s : Same G G1) : WalkR K J ds Ok G1 :=
  ⟨fun i G' H' I' s1 => h.go i G' H' I' (s.trans s1), fun G' H' I' s1 => h.stop G' H' I' (s.trans s1), fun i G' H' I' x H'' s1 => h.yld i G' H' I' x H'' (s.trans s1)⟩
theorem WalkD.r {K : PySem.W.Frag} {J : It} {ds : List D} {G : Hp} (h : WalkD K J ds G) : WalkR K J ds (fun _ => True) G :=
  ⟨fun i G' H' _ s1 s2 _ _ => h.go i G' H' s1 s2, fun G' H' _ s1 s2 _ _ => h.stop G' H' s1 s2, fun i G' H' I' x H'' s1 s2 hI _ hi y => by
    obtain ⟨G3, a, b, c, _, d⟩ := h.yld i G' H' I' x H'' s1 s2 hI hi y
    exact ⟨G3, a, b, c, d⟩⟩
def EvIR (X : Cx) (W : WX) (R : Rx X.K) (tg iter : Expr) (δ : DEnv) (I : Iv X.K) (P : List D → (Iv X.K → Prop) → Iv X.K → Prop) : Prop := ∀ (σ : L2.St) (G H : Hp) (RR : It → Hp → Prop), EnvR X.K G δ σ → Same G H → Hd I G H → Kx X.K W σ G R →
  (∀ (J : It) (ds : List D) (Ok : Iv X.K → Prop) (G' H' : Hp) (I' : Iv X.K), (∀ I J, Ok I → Ok (I.and J)) → Same G G' → Same G' H' → Hd I' G' H' → WalkR X.K J ds Ok G' → P ds Ok I' → RR J H') → wpI X tg iter σ H RR
section
variable {X : Cx} {W : WX} {R : Rx X.K} {elt tg iter e a : Expr} {ifs : List Expr} {es : List Expr} {scope : Scope} {body sts : List Stmt} {δ : DEnv} {I : Iv X.K} {κ : Ko X.K} {P : D → Iv X.K → Prop} {pos : Pos} {d z : D} {ds : List D} {p : Addr} {PP : List D → (Iv X.K → Prop) → Iv X.K → Prop}
end
end DL
set_option Elab.async false
set_option linter.all false
set_option maxRecDepth 100000
set_option maxHeartbeats 4000000
namespace DL
open PySem PySem.Spec PyProof.Rows L2
section
variable {X : Cx} {W : WX}
end
section
variable {X : Cx} {W : WX} {R : Rx X.K} {elt tg iter : Expr} {ifs : List Expr} {scope : Scope} {δ : DEnv} {I : Iv X.K} {κ : Ko X.K} {P : D → Iv X.K → Prop} {pos : Pos}
end
end DL
set_option Elab.async false
set_option linter.all false
set_option maxRecDepth 100000
set_option maxHeartbeats 4000000
namespace DL
open PySem PySem.Spec PyProof.Rows L2
section
variable {X : Cx} {W : WX} {R : Rx X.K} {elt tg iter : Expr} {scope : Scope} {δ : DEnv} {I : Iv X.K} {P : D → Iv X.K → Prop}
end
end DL
set_option Elab.async false
set_option linter.all false
set_option maxRecDepth 100000
set_option maxHeartbeats 1000000
namespace DL
open PySem PySem.Spec PyProof.Rows L2
instance (k : Nat) : OfNat IT k := ⟨.z k⟩
instance : Add IT := ⟨.n⟩
def IT.fl : IT → List Nat
  | .z i => [i]
  | .n a b => a.fl ++ b.fl
def IT.iv {K : PySem.W.Frag} (as : List (Iv K)) : IT → Iv K
  | .z i => as.getD i (iEmp K)
  | .n a b => (a.iv as).and (b.iv as)
section
variable {K : PySem.W.Frag} {as : List (Iv K)} {G H : Hp}
end
end DL
set_option Elab.async false
set_option linter.all false
set_option maxRecDepth 100000
set_option maxHeartbeats 4000000
namespace L2
open PySem PySem.Spec PyProof.Rows
section
variable {X : Cx}
end
end L2
namespace DL
open PySem PySem.Spec PyProof.Rows L2
section
variable {X : Cx} {W : WX} {R : Rx X.K} {a e : Expr} {lo hi : Option Expr} {δ : DEnv} {I : Iv X.K} {P : D → Iv X.K → Prop} {pos p2 : Pos} {ds : List D} {l h : Option Int}
end
section
variable {K : PySem.W.Frag} {I : Iv K} {G H : Hp}
end
end DL
set_option Elab.async false
set_option linter.all false
set_option maxRecDepth 100000
set_option maxHeartbeats 4000000
namespace DL
open PySem PySem.Spec PyProof.Rows L2
def MX (X : Cx) (W : WX) (cases : List MatchCase) (w : Str) (δ : DEnv) (I : Iv X.K) (κ : Ko X.K) : Prop := ∀ (σ : L2.St) (G H : Hp) (E : Ends), EnvR X.K G δ σ → Same G H → Hd I G H → KoLe X.K W E G κ →
  ∀ (pins : List (Addr × Obj)) (s : Shared) (first : Bool) (t : Tok), Inv X pins σ H s → wpAny (model X.prog X.w) X.A (matchCases cases X.env (.str w t) first) (SP X pins E) X.xe s
section
variable {X : Cx} {W : WX} {R : Rx X.K} {a b e : Expr} {δ : DEnv} {I : Iv X.K} {κ : Ko X.K} {pos p1 p2 : Pos} {w c : Str} {cases rest : List MatchCase} {body : List Stmt} {j : Nat} {d x : D} {ds : List D} {P : D → Iv X.K → Prop}
end
end DL
set_option Elab.async false
set_option linter.all false
set_option maxRecDepth 100000
set_option maxHeartbeats 4000000
namespace DL
open PySem PySem.Spec PyProof.Rows L2
section
variable {X : Cx} {W : WX} {R : Rx X.K} {a b e o : Expr} {es : List Expr} {δ : DEnv} {I : Iv X.K} {P : D → Iv X.K → Prop} {pos q' p : Pos} {n : Str} {d z : D} {x C dx pd : Addr} {ds : List D} {i : Nat} {κ : Ko X.K}
end
end DL
set_option Elab.async false
set_option linter.all false
set_option maxRecDepth 100000
set_option maxHeartbeats 4000000
namespace DL
open PySem PySem.Spec PyProof.Rows L2
section
variable {X : Cx} {W : WX} {R : Rx X.K} {elt tg iter c e : Expr} {scope : Scope} {δ : DEnv} {I : Iv X.K} {pos : Pos} {p : Addr}
end
section
variable {X : Cx} {I : Iv X.K} {e : Expr} {δ : DEnv} {pos : Pos} {C p g x dx : Addr} {f : Str} {n : Nat} {S : Spec X.K} {fs : List (Str × D)} {d : D} {fd : FuncData}
end
end DL
set_option Elab.async false
set_option linter.all false
set_option maxRecDepth 100000
set_option maxHeartbeats 4000000
namespace DL
end DL
namespace SV
open PySem PySem.Spec PyProof.Rows DL
section
variable {prog : Program} {w : World} {A : Around} {R : Result → Shared → Prop} {J S : Addr} {fp wr : List Addr} {G : Array GenState → Array GenState → Prop} {P : Nat → Value → Prop} {St : Nat → Shared → Prop}
theorem stay {h h' : Heap} {T : Str → Bool} {n : Nat} (e : ∀ o, h.get? S = some o → h'.get? S = some o) (x : h.SetOf (PySem.strKind prog w) S T n) : h'.SetOf (PySem.strKind prog w) S T n := by
  obtain ⟨o, es, ep, tb, ho, r⟩ := x
  exact ⟨o, es, ep, tb, e o ho, r⟩
end
end SV
set_option Elab.async false
set_option linter.all false
set_option maxRecDepth 100000
set_option maxHeartbeats 4000000
namespace SV
open PySem PySem.Spec PyProof.Rows DL
section
variable {prog : Program} {w : World} {A : Around} {E : Value → Shared → Prop} {s : Shared}
end
end SV
namespace L2
open PySem PySem.Spec PyProof.Rows
section
variable {X : Cx} {a : Expr} {ta : TE} {p p2 q pos : Pos}
end
end L2
namespace DL
open PySem PySem.Spec PyProof.Rows L2
section
variable {X : Cx} {a : Expr} {δ : DEnv} {I : Iv X.K} {p p2 q pos : Pos} {xs : List Str}
end
end DL
set_option Elab.async false
set_option linter.all false
set_option maxRecDepth 100000
set_option maxHeartbeats 4000000
namespace SW
open PySem PySem.W PySem.Calls PyProof.Rows
def WkA (ds : List PyData) : Prop := (∀ d ∈ ds, ∃ a r, d = .tuple (.str a :: r)) ∧ ∀ a r r', PyData.tuple (.str a :: r) ∈ ds → PyData.tuple (.str a :: r') ∈ ds → alikeAll r r' = true
theorem WkA.al {ds : List PyData} (x : WkA ds) {a : Str} {r r' : List PyData} (h : PyData.tuple (.str a :: r) ∈ ds) (h' : PyData.tuple (.str a :: r') ∈ ds) : alike (.tuple (.str a :: r)) (.tuple (.str a :: r')) = true := by
  show alikeAll (.str a :: r) (.str a :: r') = true
  rw [alikeAll, x.2 a r r' h h']; rfl
theorem uniq {ds : List PyData} (x : WkA ds) {h : Heap} {v : Value} {d d' : PyData} {as as' : List Addr} (m : d ∈ ds) (m' : d' ∈ ds) (q : Reads h v d as) (q' : Reads h v d' as') : d = d' := by
  obtain ⟨a, r, rfl⟩ := x.1 d m
  obtain ⟨b, r', rfl⟩ := x.1 d' m'
  have e : a = b := by
    cases q with
    | tuple g1 g2 g3 g4 =>
      cases q' with
      | tuple k1 k2 k3 k4 =>
        rw [g1] at k1
        cases k1
        rw [g3] at k3
        cases k3
        cases hx : (show Array Value from by assumption).toList with
        | nil => rw [hx] at g4; cases g4
        | cons f fr =>
          rw [hx] at g4 k4
          cases g4 with
          | cons r1 r2 => cases k4 with
            | cons s1 s2 =>
              cases r1
              cases s1
              rfl
  subst e
  exact alike_unique _ _ _ _ _ (x.al m m') q q'
noncomputable def kW (h : Heap) (ds : List PyData) : PyProof.Rows.KeyKind := dataKind h ds
section
variable {prog : Program} {w : World} {A : Around} {s : Shared}
end
end SW
namespace DL
open PySem PySem.Spec PyProof.Rows L2
section
variable {X : Cx}
end
section
variable {X : Cx} {e : Expr} {δ : DEnv} {I : Iv X.K} {pos p : Pos} {ds : List D} {W : WX} {R : Rx X.K} {P : D → Iv X.K → Prop}
end
end DL
set_option Elab.async false
set_option linter.all false
set_option maxRecDepth 100000
set_option maxHeartbeats 4000000
namespace L2
open PySem PySem.Spec PyProof.Rows
section
variable {X : Cx}
end
structure KF where
  o : Obj
  es : Array DictEntry
  ep : Nat
  xs : List (NestedKey × Addr × Value)
def keysΦ (P : Program) (w : World) (q : Addr) (F : KF) (h : Heap) : Prop := (q == sysModules) = false ∧ h.get? q = some F.o ∧ F.o.ExactDict ∧ F.o.data = .dict F.es F.ep ∧ F.es.toList = F.xs.map (entryOfKey (nestedKind P w))
def keysO (P : Program) (w : World) (q : Addr) (F : KF) : HO := .ext (keysΦ P w q F)
theorem KF.sz {P : Program} {w : World} {q : Addr} {F : KF} {h : Heap} (m : keysΦ P w q F h) : F.es.size = F.xs.length := by
  have := congrArg List.length m.2.2.2.2
  rwa [List.length_map, Array.length_toList] at this
section
variable {X : Cx} {tg e : Expr} {td : TE}
end
end L2
set_option Elab.async false
set_option linter.all false
set_option maxRecDepth 100000
set_option maxHeartbeats 4000000
namespace DL
open PySem PySem.Spec PyProof.Rows L2
section
variable {X : Cx} {W : WX}
end
section
variable {X : Cx} {W : WX} {R : Rx X.K} {tg iter kx vx : Expr} {scope : Scope} {δ : DEnv} {I : Iv X.K} {P : D → Iv X.K → Prop} {pos : Pos}
end
end DL
set_option Elab.async false
set_option linter.all false
set_option maxRecDepth 100000
set_option maxHeartbeats 4000000
namespace DL
open PySem PySem.Spec PyProof.Rows L2
section
variable {X : Cx} {o a b e : Expr} {δ : DEnv} {I : Iv X.K} {pos apos : Pos} {x y z : Str}
abbrev noOcc (x y z : Str) : Bool := (Builtin.Str.occurrences x y 0 x.length (x.length + 1)).isEmpty || (y.length == 0 && z.length == 0)
theorem reps_ofS {K : PySem.W.Frag} {G : Hp} : ∀ ss : List Str, Reps K G (ss.map D.str) (ss.map V.str)
  | [] => rfl
  | s :: ss => ⟨.str s, _, rfl, rfl, reps_ofS ss⟩
theorem pv_split (ho : PV X I o δ (.str x)) (he : PV X I e δ (.str y)) (h0 : (y.length == 0) = false) (hz : x.length ≤ 100000)
    (hs : starEach [e] X.env = [(false, eval e X.env)] := by rfl) (hbase : attributeBase o "split" X.env (eval o X.env) = eval o X.env := by rfl) (hline : (apos.endLine == pos.line) = true := by rfl) : PV X I (.Call (.Attribute o "split" apos) [e] [] pos) δ (.lst ((Txt.split x y).map D.str)) := fun W R P pp σ G H Q hE s hI qx q =>
  PE.wp (pe_split peC peC hs hbase hline) (ho W R (fun d J => d = .str x ∧ J = I) ⟨rfl, rfl⟩ σ G H _ hE s hI qx fun v d G1 H1 I1 s1 t1 h1 r1 ⟨ed, ei⟩ => by
    subst ed ei
    obtain rfl : v = .str x := r1
    refine ⟨⟨x, rfl⟩, he W R (fun d J => d = .str y ∧ J = _) ⟨rfl, rfl⟩ σ G1 H1 _ (hE.mono s1) t1 h1 (qx.mono s1) fun w d2 G2 H2 I2 s2 t2 h2 r2 ⟨e2, ei2⟩ => ?_⟩
    subst e2 ei2
    obtain rfl : w = .str y := r2
    refine ⟨x, y, rfl, rfl, h0, by rw [sizeLine_eq]; omega, fun p hp => ?_⟩
    have hg : G2 p = none := t2.free hp
    exact q (.ref p) (.lst ((Txt.split x y).map D.str)) _ _ _ ((s1.trans s2).trans (Evl.Ex.new hg)) (same_upd2 t2) (h2.keep hp t2) ⟨p, _, rfl, upd_same, reps_ofS _⟩ pp)
end
end DL
set_option Elab.async false
set_option linter.all false
set_option maxRecDepth 100000
set_option maxHeartbeats 4000000
namespace DL
open PySem PySem.Spec PyProof.Rows L2
theorem tyD_in {d : D} {t : String} (h : tyD d = some t) : tyNs.contains t = true := by
  cases d <;> first | (cases h; decide) | cases h
theorem raw0 {P : Program} {w : World} {K : PySem.W.Frag} {mg : Str → Option Value} {base : Heap} {CX : CXT} {k : Nat} {f : Addr} {fd : FuncData} {ps : List Str} {sp : Sp} (F : FnOk P w K mg base CX k f fd ps sp) (hb : L2.Binds K fd ps []) : FnR P w K mg base CX k f sp :=
  FnR.imp (F.raw hb .nil) fun vs H Q E h => by rw [List.append_nil]; exact h
def Has (K : PySem.W.Frag) (d : He.DefD) : Prop := ∃ fd, FunD K d.name d.qual d.params d.body d.scope (d.dvs K) (d.kws K) (He.fAd K d.at_) fd
def HasG (K : PySem.W.Frag) (d : He.DefD) : Prop := ∃ fd, FunD K d.name d.qual d.params d.body d.scope (d.dvs K) (d.kws K) (pAd K d.at_) fd
theorem SaysP.has {fn gs : List He.DefD} {ex : PySem.W.Frag → Bool} {w : World} {h : Heap} {K : PySem.W.Frag} (c : SaysP fn gs ex w h K) {d : He.DefD} (hd : d ∈ fn) : Has K d := by
  obtain ⟨i, h1, h2⟩ := List.mem_iff_getElem.mp hd
  exact c.def_ i (by rw [List.getElem?_eq_getElem h1, h2])
theorem SaysP.hasG {fn gs : List He.DefD} {ex : PySem.W.Frag → Bool} {w : World} {h : Heap} {K : PySem.W.Frag} (c : SaysP fn gs ex w h K) {d : He.DefD} (hd : d ∈ gs) : HasG K d := by
  obtain ⟨i, h1, h2⟩ := List.mem_iff_getElem.mp hd
  exact c.get_ i (by rw [List.getElem?_eq_getElem h1, h2])
theorem all_at {bs : List Bool} (h : bs.all id = true) (i : Nat) {b : Bool} (e : bs[i]? = some b) : b = true := List.all_eq_true.mp h b (List.mem_of_getElem? e)
structure TCls (K : PySem.W.Frag) (C : Addr) : Prop where
  sc : SlX.SCls K C
  si : SlX.SIsi K C
  kW : PySem.W.kitOne K (.ref C) (.ref C) = some true
  kT : ∀ t, tyNs.contains t = true → PySem.W.kitOne K (.type t) (.ref C) = some false
  nT : ∀ t, tyNs.contains t = true → PySem.W.notFirst K C (.type t) = true
  nW : PySem.W.notFirst K C (.ref C) = true
theorem tclB_ok {K : PySem.W.Frag} {C : Addr} (q : tclB K C = true) : TCls K C := by
  obtain ⟨q0, q⟩ := He.ba q
  obtain ⟨q1, q⟩ := He.ba q
  obtain ⟨q2, q⟩ := He.ba q
  obtain ⟨q3, q⟩ := He.ba q
  obtain ⟨q4, q5⟩ := He.ba q
  exact ⟨scB_ok q0, siB_ok q1, of_decide_eq_true q2, fun t ht => of_decide_eq_true (List.all_eq_true.mp q3 t (List.contains_iff_mem.mp ht)), fun t ht => List.all_eq_true.mp q4 t (List.contains_iff_mem.mp ht), q5⟩
structure TMeth (K : PySem.W.Frag) (C : Addr) (m : Str) : Prop where
  f : PySem.W.findIn K (.ref C) m = some (some (.ref (He.ma K C m)))
  i : PySem.W.isFn K (.ref (He.ma K C m)) = true
  k : PySem.W.keepIn K (.ref (He.ma K C m)) = true
theorem tmeth_ok {K : PySem.W.Frag} {x m : Str} (q : (He.Fa.meth x m).ok K = true) : TMeth K (He.ga K x) m := by
  obtain ⟨c1, c⟩ := He.ba q
  obtain ⟨c2, c3⟩ := He.ba c
  exact ⟨He.eqO_ok c1, c2, c3⟩
section
variable {P : Program} {w : World} {K : PySem.W.Frag} {mg : Str → Option Value} {base : Heap} {f : Addr} {fd : FuncData} {C : Addr} {x qual f1 f2 : Str} {params : Arguments} {scope : Scope} {p1 p2 p3 p4 p5 p6 : Pos} {b1 b2 : Pos}
theorem ok_ini1 {q1 q2 q3 q4 : Pos} (F : FunD K x qual params [.Assign [.Attribute (.Name "self" q1) f1 q2] (.Name f1 q3) q4] scope [] [] f fd) (sc : FnScope ["self", f1] ["self", f1] scope) (oe : OexC K C) (n1 : PySem.W.findIn K (.ref C) f1 = some none)
    (v1 : Vis scope "self") (v2 : Vis scope f1) (d1 : (f1 == ("__debug__" : Str)) = false) (d2 : (f1 == ("__classdict__" : Str)) = false) : FnOk P w K mg base (L2.CX P w) 1 f fd ["self", f1] (spXIC C [f1]) := by
  refine F.ok sc (fun vs H Q E h => ?_) (fun cdv A outer s H vs Q E hr h => ?_)
  · obtain ⟨a, ws, rfl, hl, _⟩ := h
    simp [hl]
  · obtain ⟨a, ws, rfl, hl, ha, q⟩ := h
    obtain ⟨v, rfl⟩ : ∃ v, ws = [v] := by
      match ws, hl with
      | [v], _ => exact ⟨v, rfl⟩
    refine ⟨_, pss_one (ps_ost (pe_var (i := 0) rfl v1 (by decide) (by decide)) (pe_var (i := 1) rfl v2 d1 d2)), ?_⟩
    refine ⟨v, rfl, .ref a, rfl, a, _, rfl, oe, n1, .inl ⟨ha, fun dx hd hne => ?_⟩⟩
    exact q dx _ hd hne upd_same (by rw [upd_ne hne]; exact upd_same) fun b h1 h2 => by rw [upd_ne h1, upd_ne h2]
theorem ok_ini2 {q1 q2 q3 q4 r1 r2 r3 r4 : Pos} (F : FunD K x qual params [.Assign [.Attribute (.Name "self" q1) f1 q2] (.Name f1 q3) q4, .Assign [.Attribute (.Name "self" r1) f2 r2] (.Name f2 r3) r4] scope [] [] f fd) (sc : FnScope ["self", f1, f2] ["self", f1, f2] scope) (oe : OexC K C) (n1 : PySem.W.findIn K (.ref C) f1 = some none) (n2 : PySem.W.findIn K (.ref C) f2 = some none)
    (v1 : Vis scope "self") (v2 : Vis scope f1) (v3 : Vis scope f2) (d1 : (f1 == ("__debug__" : Str)) = false) (d2 : (f1 == ("__classdict__" : Str)) = false) (d3 : (f2 == ("__debug__" : Str)) = false) (d4 : (f2 == ("__classdict__" : Str)) = false) : FnOk P w K mg base (L2.CX P w) 1 f fd ["self", f1, f2] (spXIC C [f1, f2]) := by
  refine F.ok sc (fun vs H Q E h => ?_) (fun cdv A outer s H vs Q E hr h => ?_)
  · obtain ⟨a, ws, rfl, hl, _⟩ := h
    simp [hl]
  · obtain ⟨a, ws, rfl, hl, ha, q⟩ := h
    obtain ⟨v, u, rfl⟩ : ∃ v u, ws = [v, u] := by
      match ws, hl with
      | [v, u], _ => exact ⟨v, u, rfl⟩
    refine ⟨_, pss_cons (ps_ost (pe_var (i := 0) rfl v1 (by decide) (by decide)) (pe_var (i := 1) rfl v2 d1 d2)) (pss_one (ps_ost (pe_var (i := 0) rfl v1 (by decide) (by decide)) (pe_var (i := 2) rfl v3 d3 d4))), ?_⟩
    refine ⟨v, rfl, .ref a, rfl, a, _, rfl, oe, n1, .inl ⟨ha, fun dx hd hne => ?_⟩⟩
    refine ⟨u, rfl, .ref a, rfl, a, _, rfl, oe, n2, .inr ⟨dx, _, upd_same, by rw [upd_ne hne]; exact upd_same, by show 1 ≤ 900; decide, ?_⟩⟩
    exact q dx _ hd hne (by rw [upd_ne (Ne.symm hne)]; exact upd_same) upd_same fun b h1 h2 => by rw [upd_ne h2, upd_ne h1, upd_ne h2]
end
end DL
set_option Elab.async false
set_option linter.all false
set_option maxRecDepth 100000
set_option maxHeartbeats 4000000
namespace DL
open PySem PySem.Spec PyProof.Rows L2
section
variable {P : Program} {w : World} {K : PySem.W.Frag} {mg : Str → Option Value} {base : Heap} {x qual : Str} {params : Arguments} {body : List Stmt} {scope : Scope} {f : Addr} {fd : FuncData} {ps ks : List Str} {k n : Nat} {S : Spec K} {kws : List (Str × V)}
end
section
variable {K : PySem.W.Frag} {G : Hp} {α : Type} {f : α → List D}
end
end DL
set_option Elab.async false
set_option linter.all false
set_option maxRecDepth 100000
set_option maxHeartbeats 4000000
namespace LK
open PySem PySem.Spec PyProof.Rows L2 DL
theorem sc_m_InvalidWrite_init : FnScope ["self", "part"] ["self", "part"] (defScope m_InvalidWrite_init) := ⟨rfl, rfl, rfl, by decide +kernel, rfl, by decide +kernel, by decide +kernel⟩
theorem sc_m_InvalidCast_init : FnScope ["self", "name", "number"] ["self", "name", "number"] (defScope m_InvalidCast_init) := ⟨rfl, rfl, rfl, by decide +kernel, rfl, by decide +kernel, by decide +kernel⟩
theorem sc_m_UnknownWork_init : FnScope ["self", "name"] ["self", "name"] (defScope m_UnknownWork_init) := ⟨rfl, rfl, rfl, by decide +kernel, rfl, by decide +kernel, by decide +kernel⟩
theorem sc_m_InvalidText_init : FnScope ["self", "line", "column"] ["self", "line", "column"] (defScope m_InvalidText_init) := ⟨rfl, rfl, rfl, by decide +kernel, rfl, by decide +kernel, by decide +kernel⟩
theorem sc_f_is_text : FnScope ["value", "sign"] ["value"] (defScope f_is_text) := ⟨rfl, rfl, rfl, by decide +kernel, rfl, by decide +kernel, by decide +kernel⟩
theorem sc_f_is_name : FnScope ["value", "sign"] ["value"] (defScope f_is_name) := ⟨rfl, rfl, rfl, by decide +kernel, rfl, by decide +kernel, by decide +kernel⟩
theorem sc_f_is_one_of : FnScope ["value", "words"] ["value", "words"] (defScope f_is_one_of) := ⟨rfl, rfl, rfl, by decide +kernel, rfl, by decide +kernel, by decide +kernel⟩
theorem sc_m_Write_init : FnScope ["self", "kind", "text", "lead", "tail"] ["self", "kind", "text", "lead", "tail"] (defScope m_Write_init) := ⟨rfl, rfl, rfl, by decide +kernel, rfl, by decide +kernel, by decide +kernel⟩
theorem sc_m_Write_kind : FnScope ["self"] ["self"] (defScope m_Write_kind) := ⟨rfl, rfl, rfl, by decide +kernel, rfl, by decide +kernel, by decide +kernel⟩
theorem sc_m_Write_text : FnScope ["self"] ["self"] (defScope m_Write_text) := ⟨rfl, rfl, rfl, by decide +kernel, rfl, by decide +kernel, by decide +kernel⟩
theorem sc_m_Write_lead : FnScope ["self"] ["self"] (defScope m_Write_lead) := ⟨rfl, rfl, rfl, by decide +kernel, rfl, by decide +kernel, by decide +kernel⟩
theorem sc_m_Write_tail : FnScope ["self"] ["self"] (defScope m_Write_tail) := ⟨rfl, rfl, rfl, by decide +kernel, rfl, by decide +kernel, by decide +kernel⟩
theorem sc_m_Write_eq : FnScope ["self", "other"] ["self", "other"] (defScope m_Write_eq) := ⟨rfl, rfl, rfl, by decide +kernel, rfl, by decide +kernel, by decide +kernel⟩
theorem sc_f_look_at_writes : FnScope ["name", "writes", "kinds", "number", "kind", "is_alone", "write"] ["name", "writes"] (defScope f_look_at_writes) := ⟨rfl, rfl, rfl, by decide +kernel, rfl, by decide +kernel, by decide +kernel⟩
theorem sc_m_Cast_init : FnScope ["self", "works", "name"] ["self", "works"] (defScope m_Cast_init) := ⟨rfl, rfl, rfl, by decide +kernel, rfl, by decide +kernel, by decide +kernel⟩
theorem sc_m_Cast_names : FnScope ["self"] ["self"] (defScope m_Cast_names) := ⟨rfl, rfl, rfl, by decide +kernel, rfl, by decide +kernel, by decide +kernel⟩
theorem sc_m_Cast_getitem : FnScope ["self", "name"] ["self", "name"] (defScope m_Cast_getitem) := ⟨rfl, rfl, rfl, by decide +kernel, rfl, by decide +kernel, by decide +kernel⟩
theorem sc_m_Cast_eq : FnScope ["self", "other"] ["self", "other"] (defScope m_Cast_eq) := ⟨rfl, rfl, rfl, by decide +kernel, rfl, by decide +kernel, by decide +kernel⟩
theorem sc_f_write_text : FnScope ["write", "words", "word"] ["write"] (defScope f_write_text) := ⟨rfl, rfl, rfl, by decide +kernel, rfl, by decide +kernel, by decide +kernel⟩
theorem sc_f_write_cast : FnScope ["cast", "lines", "name", "write"] ["cast"] (defScope f_write_cast) := ⟨rfl, rfl, rfl, by decide +kernel, rfl, by decide +kernel, by decide +kernel⟩
theorem sc_f_quoted_end : FnScope ["row", "start", "place"] ["row", "start"] (defScope f_quoted_end) := ⟨rfl, rfl, rfl, by decide +kernel, rfl, by decide +kernel, by decide +kernel⟩
theorem sc_f_token_at : FnScope ["row", "start", "end", "text", "is_good", "sign"] ["row", "start"] (defScope f_token_at) := ⟨rfl, rfl, rfl, by decide +kernel, rfl, by decide +kernel, by decide +kernel⟩
theorem sc_f_tokens_of : FnScope ["row", "found", "place", "token"] ["row"] (defScope f_tokens_of) := ⟨rfl, rfl, rfl, by decide +kernel, rfl, by decide +kernel, by decide +kernel⟩
theorem sc_m_Reader_init : FnScope ["self", "text", "line"] ["self", "text", "line"] (defScope m_Reader_init) := ⟨rfl, rfl, rfl, by decide +kernel, rfl, by decide +kernel, by decide +kernel⟩
theorem sc_m_Reader_refuse : FnScope ["self"] ["self"] (defScope m_Reader_refuse) := ⟨rfl, rfl, rfl, by decide +kernel, rfl, by decide +kernel, by decide +kernel⟩
theorem sc_m_Reader_take : FnScope ["self", "sort"] ["self", "sort"] (defScope m_Reader_take) := ⟨rfl, rfl, rfl, by decide +kernel, rfl, by decide +kernel, by decide +kernel⟩
theorem sc_m_Reader_is_next : FnScope ["self", "sort", "words"] ["self", "sort", "words"] (defScope m_Reader_is_next) := ⟨rfl, rfl, rfl, by decide +kernel, rfl, by decide +kernel, by decide +kernel⟩
theorem sc_m_Reader_take_mark : FnScope ["self", "mark"] ["self", "mark"] (defScope m_Reader_take_mark) := ⟨rfl, rfl, rfl, by decide +kernel, rfl, by decide +kernel, by decide +kernel⟩
theorem sc_m_Reader_take_name : FnScope ["self", "names", "text"] ["self", "names"] (defScope m_Reader_take_name) := ⟨rfl, rfl, rfl, by decide +kernel, rfl, by decide +kernel, by decide +kernel⟩
theorem sc_m_Reader_write : FnScope ["self", "kind", "lead", "text", "tail"] ["self"] (defScope m_Reader_write) := ⟨rfl, rfl, rfl, by decide +kernel, rfl, by decide +kernel, by decide +kernel⟩
theorem sc_m_Reader_work : FnScope ["self", "names", "name", "found"] ["self", "names"] (defScope m_Reader_work) := ⟨rfl, rfl, rfl, by decide +kernel, rfl, by decide +kernel, by decide +kernel⟩
theorem sc_f_read_cast : FnScope ["text", "works", "number", "row", "name", "writes"] ["text"] (defScope f_read_cast) := ⟨rfl, rfl, rfl, by decide +kernel, rfl, by decide +kernel, by decide +kernel⟩
theorem sc_f_Lmix : FnScope ["_law_script", "_law_seed", "_law_state", "_law_cell"] ["_law_script", "_law_seed"] (defScope f_Lmix) := ⟨rfl, rfl, rfl, by decide +kernel, rfl, by decide +kernel, by decide +kernel⟩
theorem sc_f_Lnext : FnScope ["_law_h", "_law_bound", "_law_cell"] ["_law_h", "_law_bound"] (defScope f_Lnext) := ⟨rfl, rfl, rfl, by decide +kernel, rfl, by decide +kernel, by decide +kernel⟩
theorem sc_f_Lletters : FnScope ["_law_h", "_law_most", "_law_signs", "_law_size", "_law_k"] ["_law_h", "_law_most"] (defScope f_Lletters) := ⟨rfl, rfl, rfl, by decide +kernel, rfl, by decide +kernel, by decide +kernel⟩
theorem sc_f_Lone : FnScope ["_law_h", "_law_form", "_law_most", "_law_words", "_law_ahead", "_law_behind"] ["_law_h", "_law_form", "_law_most"] (defScope f_Lone) := ⟨rfl, rfl, rfl, by decide +kernel, rfl, by decide +kernel, by decide +kernel⟩
theorem sc_f_Lrowof : FnScope ["_law_h", "_law_many", "_law_most", "_law_found", "_law_form"] ["_law_h", "_law_many", "_law_most"] (defScope f_Lrowof) := ⟨rfl, rfl, rfl, by decide +kernel, rfl, by decide +kernel, by decide +kernel⟩
theorem sc_f_Ltable : FnScope ["_law_h", "_law_works", "_law_total", "_law_most", "_law_found", "_law_left", "_law_name", "_law_many"] ["_law_h", "_law_works", "_law_total", "_law_most"] (defScope f_Ltable) := ⟨rfl, rfl, rfl, by decide +kernel, rfl, by decide +kernel, by decide +kernel⟩
theorem sc_f_Lbuilt : FnScope ["_law_t", "_law_made", "_law_name", "_law_one_here"] ["_law_t"] (defScope f_Lbuilt) := ⟨rfl, rfl, rfl, by decide +kernel, rfl, by decide +kernel, by decide +kernel⟩
theorem sc_f_Llined : FnScope ["_law_t", "_law_found", "_law_name", "_law_told", "_law_form", "_law_words", "_law_ahead", "_law_behind", "_law_parts", "_law_part"] ["_law_t"] (defScope f_Llined) := ⟨rfl, rfl, rfl, by decide +kernel, rfl, by decide +kernel, by decide +kernel⟩
theorem sc_f_law : FnScope ["_law_script", "_law_h", "_law_t", "_law_c", "_law_due", "_law_told", "_law_at"] ["_law_script"] (defScope f_law) := ⟨rfl, rfl, rfl, by decide +kernel, rfl, by decide +kernel, by decide +kernel⟩
abbrev tfL : List He.Defn := []
abbrev FnP (K : PySem.W.Frag) (x qual : Str) (st : Stmt) (f : Addr) (fd : FuncData) : Prop := FunD K x qual (defArgs st) (defBody st) (defScope st) [] [] f fd
structure Env (P : Program) (w : World) (K : PySem.W.Frag) (mg : Str → Option Value) (base : Heap) : Prop where
  lk : lkL K = true
  hp : ∃ h, K.In h ∧ h.Ns mainGlobals mg
  has : ∀ d ∈ fnL, Has K d
  hasG : ∀ d ∈ gsL, HasG K d
  tb : ∀ p ∈ tfL, LamX.TabB base mg (He.cT K p).1 (He.cT K p).2
section
variable {P : Program} {w : World} {K : PySem.W.Frag} {mg : Str → Option Value} {base : Heap}
theorem Env.lk0 (E : Env P w K mg base) : (lk0 K).all id = true := (He.ba E.lk).1
theorem Env.lk1 (E : Env P w K mg base) : (lk1 K).all id = true := (He.ba (He.ba E.lk).2).1
theorem Env.lk2 (E : Env P w K mg base) : (lk2 K).all id = true := (He.ba (He.ba (He.ba E.lk).2).2).1
theorem Env.lk3 (E : Env P w K mg base) : (lk3 K).all id = true := (He.ba (He.ba (He.ba (He.ba E.lk).2).2).2).1
theorem Env.lk4 (E : Env P w K mg base) : (lk4 K).all id = true := (He.ba (He.ba (He.ba (He.ba (He.ba E.lk).2).2).2).2).1
theorem Env.lk5 (E : Env P w K mg base) : (lk5 K).all id = true := (He.ba (He.ba (He.ba (He.ba (He.ba (He.ba E.lk).2).2).2).2).2).1
theorem Env.lk6 (E : Env P w K mg base) : (lk6 K).all id = true := (He.ba (He.ba (He.ba (He.ba (He.ba (He.ba (He.ba E.lk).2).2).2).2).2).2).1
theorem Env.lk7 (E : Env P w K mg base) : (lk7 K).all id = true := (He.ba (He.ba (He.ba (He.ba (He.ba (He.ba (He.ba E.lk).2).2).2).2).2).2).2
theorem Env.b_isinstance (E : Env P w K mg base) : mg "isinstance" = none := by
  obtain ⟨h, X, G⟩ := E.hp
  exact He.free_ok X G (all_at (E.lk0) 0 (by rfl))
theorem Env.b_str (E : Env P w K mg base) : mg "str" = none := by
  obtain ⟨h, X, G⟩ := E.hp
  exact He.free_ok X G (all_at (E.lk0) 1 (by rfl))
theorem Env.b_int (E : Env P w K mg base) : mg "int" = none := by
  obtain ⟨h, X, G⟩ := E.hp
  exact He.free_ok X G (all_at (E.lk0) 2 (by rfl))
theorem Env.b_list (E : Env P w K mg base) : mg "list" = none := by
  obtain ⟨h, X, G⟩ := E.hp
  exact He.free_ok X G (all_at (E.lk0) 4 (by rfl))
theorem Env.b_tuple (E : Env P w K mg base) : mg "tuple" = none := by
  obtain ⟨h, X, G⟩ := E.hp
  exact He.free_ok X G (all_at (E.lk0) 5 (by rfl))
theorem Env.b_len (E : Env P w K mg base) : mg "len" = none := by
  obtain ⟨h, X, G⟩ := E.hp
  exact He.free_ok X G (all_at (E.lk0) 7 (by rfl))
theorem Env.b_all (E : Env P w K mg base) : mg "all" = none := by
  obtain ⟨h, X, G⟩ := E.hp
  exact He.free_ok X G (all_at (E.lk0) 8 (by rfl))
theorem Env.b_max (E : Env P w K mg base) : mg "max" = none := by
  obtain ⟨h, X, G⟩ := E.hp
  exact He.free_ok X G (all_at (E.lk0) 11 (by rfl))
theorem Env.b_min (E : Env P w K mg base) : mg "min" = none := by
  obtain ⟨h, X, G⟩ := E.hp
  exact He.free_ok X G (all_at (E.lk0) 12 (by rfl))
theorem Env.b_range (E : Env P w K mg base) : mg "range" = none := by
  obtain ⟨h, X, G⟩ := E.hp
  exact He.free_ok X G (all_at (E.lk0) 13 (by rfl))
theorem Env.b_sorted (E : Env P w K mg base) : mg "sorted" = none := by
  obtain ⟨h, X, G⟩ := E.hp
  exact He.free_ok X G (all_at (E.lk0) 14 (by rfl))
theorem Env.b_enumerate (E : Env P w K mg base) : mg "enumerate" = none := by
  obtain ⟨h, X, G⟩ := E.hp
  exact He.free_ok X G (all_at (E.lk0) 16 (by rfl))
theorem Env.g_is_text (E : Env P w K mg base) : mg "is_text" = some (.ref (He.ga K "is_text")) := by
  obtain ⟨h, X, G⟩ := E.hp
  exact He.glo_ok X G (all_at (E.lk1) 1 (by rfl))
theorem Env.g_is_name (E : Env P w K mg base) : mg "is_name" = some (.ref (He.ga K "is_name")) := by
  obtain ⟨h, X, G⟩ := E.hp
  exact He.glo_ok X G (all_at (E.lk1) 2 (by rfl))
theorem Env.g_is_one_of (E : Env P w K mg base) : mg "is_one_of" = some (.ref (He.ga K "is_one_of")) := by
  obtain ⟨h, X, G⟩ := E.hp
  exact He.glo_ok X G (all_at (E.lk1) 3 (by rfl))
theorem Env.g_look_at_writes (E : Env P w K mg base) : mg "look_at_writes" = some (.ref (He.ga K "look_at_writes")) := by
  obtain ⟨h, X, G⟩ := E.hp
  exact He.glo_ok X G (all_at (E.lk1) 5 (by rfl))
theorem Env.g_write_text (E : Env P w K mg base) : mg "write_text" = some (.ref (He.ga K "write_text")) := by
  obtain ⟨h, X, G⟩ := E.hp
  exact He.glo_ok X G (all_at (E.lk1) 6 (by rfl))
theorem Env.g_write_cast (E : Env P w K mg base) : mg "write_cast" = some (.ref (He.ga K "write_cast")) := by
  obtain ⟨h, X, G⟩ := E.hp
  exact He.glo_ok X G (all_at (E.lk1) 7 (by rfl))
theorem Env.g_quoted_end (E : Env P w K mg base) : mg "quoted_end" = some (.ref (He.ga K "quoted_end")) := by
  obtain ⟨h, X, G⟩ := E.hp
  exact He.glo_ok X G (all_at (E.lk1) 8 (by rfl))
theorem Env.g_token_at (E : Env P w K mg base) : mg "token_at" = some (.ref (He.ga K "token_at")) := by
  obtain ⟨h, X, G⟩ := E.hp
  exact He.glo_ok X G (all_at (E.lk1) 9 (by rfl))
theorem Env.g_tokens_of (E : Env P w K mg base) : mg "tokens_of" = some (.ref (He.ga K "tokens_of")) := by
  obtain ⟨h, X, G⟩ := E.hp
  exact He.glo_ok X G (all_at (E.lk1) 10 (by rfl))
theorem Env.g_read_cast (E : Env P w K mg base) : mg "read_cast" = some (.ref (He.ga K "read_cast")) := by
  obtain ⟨h, X, G⟩ := E.hp
  exact He.glo_ok X G (all_at (E.lk1) 11 (by rfl))
theorem Env.g__law_mix (E : Env P w K mg base) : mg "_law_mix" = some (.ref (He.ga K "_law_mix")) := by
  obtain ⟨h, X, G⟩ := E.hp
  exact He.glo_ok X G (all_at (E.lk1) 12 (by rfl))
theorem Env.g__law_next (E : Env P w K mg base) : mg "_law_next" = some (.ref (He.ga K "_law_next")) := by
  obtain ⟨h, X, G⟩ := E.hp
  exact He.glo_ok X G (all_at (E.lk1) 13 (by rfl))
theorem Env.g__law_letters (E : Env P w K mg base) : mg "_law_letters" = some (.ref (He.ga K "_law_letters")) := by
  obtain ⟨h, X, G⟩ := E.hp
  exact He.glo_ok X G (all_at (E.lk1) 14 (by rfl))
theorem Env.g__law_one (E : Env P w K mg base) : mg "_law_one" = some (.ref (He.ga K "_law_one")) := by
  obtain ⟨h, X, G⟩ := E.hp
  exact He.glo_ok X G (all_at (E.lk1) 15 (by rfl))
theorem Env.g__law_rowof (E : Env P w K mg base) : mg "_law_rowof" = some (.ref (He.ga K "_law_rowof")) := by
  obtain ⟨h, X, G⟩ := E.hp
  exact He.glo_ok X G (all_at (E.lk1) 16 (by rfl))
theorem Env.g__law_table (E : Env P w K mg base) : mg "_law_table" = some (.ref (He.ga K "_law_table")) := by
  obtain ⟨h, X, G⟩ := E.hp
  exact He.glo_ok X G (all_at (E.lk1) 17 (by rfl))
theorem Env.g__law_built (E : Env P w K mg base) : mg "_law_built" = some (.ref (He.ga K "_law_built")) := by
  obtain ⟨h, X, G⟩ := E.hp
  exact He.glo_ok X G (all_at (E.lk1) 18 (by rfl))
theorem Env.g__law_lined (E : Env P w K mg base) : mg "_law_lined" = some (.ref (He.ga K "_law_lined")) := by
  obtain ⟨h, X, G⟩ := E.hp
  exact He.glo_ok X G (all_at (E.lk1) 19 (by rfl))
theorem Env.g_law (E : Env P w K mg base) : mg "law" = some (.ref (He.ga K "law")) := by
  obtain ⟨h, X, G⟩ := E.hp
  exact He.glo_ok X G (all_at (E.lk2) 0 (by rfl))
theorem Env.g_Write (E : Env P w K mg base) : mg "Write" = some (.ref (He.ga K "Write")) := by
  obtain ⟨h, X, G⟩ := E.hp
  exact He.glo_ok X G (all_at (E.lk2) 7 (by rfl))
theorem Env.g_Cast (E : Env P w K mg base) : mg "Cast" = some (.ref (He.ga K "Cast")) := by
  obtain ⟨h, X, G⟩ := E.hp
  exact He.glo_ok X G (all_at (E.lk2) 8 (by rfl))
theorem Env.g_Reader (E : Env P w K mg base) : mg "Reader" = some (.ref (He.ga K "Reader")) := by
  obtain ⟨h, X, G⟩ := E.hp
  exact He.glo_ok X G (all_at (E.lk2) 9 (by rfl))
theorem Env.c_LETTERS (E : Env P w K mg base) : ∃ t, mg "LETTERS" = some (.str ("abcdefghijklmnopqrstuvwxyz") t) := by
  obtain ⟨h, X, G⟩ := E.hp
  exact He.str_ok X G (all_at (E.lk3) 10 (by rfl))
theorem Env.c_SIGNS (E : Env P w K mg base) : ∃ t, mg "SIGNS" = some (.str (Str.ofString ("abcdefghijklmnopqrstuvwxyzABCDEFGHIJKLMNOPQRSTUVWXYZ0123456789 !\"#$&'()*+,-./:;<=>?@" ++ "[\\]^_`{|}~")) t) := by
  obtain ⟨h, X, G⟩ := E.hp
  exact He.str_ok X G (all_at (E.lk3) 12 (by rfl))
theorem Env.c_ASK (E : Env P w K mg base) : ∃ t, mg "ASK" = some (.str ("ask") t) := by
  obtain ⟨h, X, G⟩ := E.hp
  exact He.str_ok X G (all_at (E.lk3) 14 (by rfl))
theorem Env.c_REPLY (E : Env P w K mg base) : ∃ t, mg "REPLY" = some (.str ("reply") t) := by
  obtain ⟨h, X, G⟩ := E.hp
  exact He.str_ok X G (all_at (E.lk3) 15 (by rfl))
theorem Env.c_KINDS (E : Env P w K mg base) : GTup K mg "KINDS" ((["say", "ask", "reply", "show"] : List Str).map D.str) := by
  obtain ⟨h, X, G⟩ := E.hp
  exact gtup_of X G (He.ba (all_at (E.lk3) 17 (by rfl))).1 (He.ba (all_at (E.lk3) 17 (by rfl))).2 rfl
theorem Env.c_LEADS (E : Env P w K mg base) : GTup K mg "LEADS" ((["", "return", "wipe", "fresh"] : List Str).map D.str) := by
  obtain ⟨h, X, G⟩ := E.hp
  exact gtup_of X G (He.ba (all_at (E.lk3) 18 (by rfl))).1 (He.ba (all_at (E.lk3) 18 (by rfl))).2 rfl
theorem Env.c_TAILS (E : Env P w K mg base) : GTup K mg "TAILS" ((["", "erase", "newline"] : List Str).map D.str) := by
  obtain ⟨h, X, G⟩ := E.hp
  exact gtup_of X G (He.ba (all_at (E.lk3) 19 (by rfl))).1 (He.ba (all_at (E.lk3) 19 (by rfl))).2 rfl
theorem Env.c_MOST_SIGNS (E : Env P w K mg base) : ∃ t, mg "MOST_SIGNS" = some (.int 40 t) := by
  obtain ⟨h, X, G⟩ := E.hp
  exact He.int_ok X G (all_at (E.lk4) 0 (by rfl))
theorem Env.c_MOST_NAME (E : Env P w K mg base) : ∃ t, mg "MOST_NAME" = some (.int 8 t) := by
  obtain ⟨h, X, G⟩ := E.hp
  exact He.int_ok X G (all_at (E.lk4) 1 (by rfl))
theorem Env.c_MOST_WORKS (E : Env P w K mg base) : ∃ t, mg "MOST_WORKS" = some (.int 6 t) := by
  obtain ⟨h, X, G⟩ := E.hp
  exact He.int_ok X G (all_at (E.lk4) 2 (by rfl))
theorem Env.c_MOST_WRITES (E : Env P w K mg base) : ∃ t, mg "MOST_WRITES" = some (.int 8 t) := by
  obtain ⟨h, X, G⟩ := E.hp
  exact He.int_ok X G (all_at (E.lk4) 3 (by rfl))
theorem Env.c_SMALL (E : Env P w K mg base) : ∃ t, mg "SMALL" = some (.str ("abcdefghijklmnopqrstuvwxyz") t) := by
  obtain ⟨h, X, G⟩ := E.hp
  exact He.str_ok X G (all_at (E.lk4) 4 (by rfl))
theorem Env.c_QUOTE (E : Env P w K mg base) : ∃ t, mg "QUOTE" = some (.str ("'") t) := by
  obtain ⟨h, X, G⟩ := E.hp
  exact He.str_ok X G (all_at (E.lk4) 5 (by rfl))
theorem Env.c_WORD (E : Env P w K mg base) : ∃ t, mg "WORD" = some (.str ("word") t) := by
  obtain ⟨h, X, G⟩ := E.hp
  exact He.str_ok X G (all_at (E.lk4) 6 (by rfl))
theorem Env.c_TEXT (E : Env P w K mg base) : ∃ t, mg "TEXT" = some (.str ("text") t) := by
  obtain ⟨h, X, G⟩ := E.hp
  exact He.str_ok X G (all_at (E.lk4) 7 (by rfl))
theorem Env.c_MARK (E : Env P w K mg base) : ∃ t, mg "MARK" = some (.str ("mark") t) := by
  obtain ⟨h, X, G⟩ := E.hp
  exact He.str_ok X G (all_at (E.lk4) 8 (by rfl))
theorem Env.c_WRONG (E : Env P w K mg base) : ∃ t, mg "WRONG" = some (.str ("wrong") t) := by
  obtain ⟨h, X, G⟩ := E.hp
  exact He.str_ok X G (all_at (E.lk4) 9 (by rfl))
theorem Env.c_END (E : Env P w K mg base) : ∃ t, mg "END" = some (.str ("end") t) := by
  obtain ⟨h, X, G⟩ := E.hp
  exact He.str_ok X G (all_at (E.lk4) 10 (by rfl))
theorem Env.x_InvalidWrite (E : Env P w K mg base) : TExc K mg "InvalidWrite" := by
  obtain ⟨h, X, G⟩ := E.hp
  exact exB_ok X G (all_at (E.lk4) 11 (by rfl))
theorem Env.f_InvalidWrite_part (E : Env P w K mg base) : PySem.W.findIn K (.ref (He.ga K "InvalidWrite")) "part" = some none := He.noat_ok (all_at (E.lk4) 13 (by rfl))
theorem Env.x_InvalidCast (E : Env P w K mg base) : TExc K mg "InvalidCast" := by
  obtain ⟨h, X, G⟩ := E.hp
  exact exB_ok X G (all_at (E.lk4) 14 (by rfl))
theorem Env.f_InvalidCast_name (E : Env P w K mg base) : PySem.W.findIn K (.ref (He.ga K "InvalidCast")) "name" = some none := He.noat_ok (all_at (E.lk4) 16 (by rfl))
theorem Env.f_InvalidCast_number (E : Env P w K mg base) : PySem.W.findIn K (.ref (He.ga K "InvalidCast")) "number" = some none := He.noat_ok (all_at (E.lk4) 17 (by rfl))
theorem Env.x_UnknownWork (E : Env P w K mg base) : TExc K mg "UnknownWork" := by
  obtain ⟨h, X, G⟩ := E.hp
  exact exB_ok X G (all_at (E.lk4) 18 (by rfl))
theorem Env.f_UnknownWork_name (E : Env P w K mg base) : PySem.W.findIn K (.ref (He.ga K "UnknownWork")) "name" = some none := He.noat_ok (all_at (E.lk5) 0 (by rfl))
theorem Env.x_InvalidText (E : Env P w K mg base) : TExc K mg "InvalidText" := by
  obtain ⟨h, X, G⟩ := E.hp
  exact exB_ok X G (all_at (E.lk5) 4 (by rfl))
theorem Env.f_InvalidText_line (E : Env P w K mg base) : PySem.W.findIn K (.ref (He.ga K "InvalidText")) "line" = some none := He.noat_ok (all_at (E.lk5) 6 (by rfl))
theorem Env.f_InvalidText_column (E : Env P w K mg base) : PySem.W.findIn K (.ref (He.ga K "InvalidText")) "column" = some none := He.noat_ok (all_at (E.lk5) 7 (by rfl))
theorem Env.m_Write (E : Env P w K mg base) : Mk K (He.ga K "Write") (He.ma K (He.ga K "Write") "__init__") := He.mkr_ok (all_at (E.lk5) 8 (by rfl))
theorem Env.p_Write_kind (E : Env P w K mg base) : PropC K (He.ga K "Write") "kind" (He.ma K (He.ga K "Write") "kind") (gtr K (He.ga K "Write") "kind") := prB_ok (all_at (E.lk5) 10 (by rfl))
theorem Env.p_Write_text (E : Env P w K mg base) : PropC K (He.ga K "Write") "text" (He.ma K (He.ga K "Write") "text") (gtr K (He.ga K "Write") "text") := prB_ok (all_at (E.lk5) 11 (by rfl))
theorem Env.p_Write_lead (E : Env P w K mg base) : PropC K (He.ga K "Write") "lead" (He.ma K (He.ga K "Write") "lead") (gtr K (He.ga K "Write") "lead") := prB_ok (all_at (E.lk5) 12 (by rfl))
theorem Env.p_Write_tail (E : Env P w K mg base) : PropC K (He.ga K "Write") "tail" (He.ma K (He.ga K "Write") "tail") (gtr K (He.ga K "Write") "tail") := prB_ok (all_at (E.lk5) 13 (by rfl))
theorem Env.h_Write_eq (E : Env P w K mg base) : TMeth K (He.ga K "Write") "__eq__" := tmeth_ok (all_at (E.lk5) 15 (by rfl))
theorem Env.k_Write (E : Env P w K mg base) : TCls K (He.ga K "Write") := tclB_ok (all_at (E.lk5) 16 (by rfl))
theorem Env.s_Write_mode (E : Env P w K mg base) : SlX.Slot1 K (He.ga K "Write") "mode" (He.ma K (He.ga K "Write") "mode") 2 := slB_ok (all_at (E.lk5) 17 (by rfl))
theorem Env.s_Write_signs (E : Env P w K mg base) : SlX.Slot1 K (He.ga K "Write") "signs" (He.ma K (He.ga K "Write") "signs") 3 := slB_ok (all_at (E.lk5) 18 (by rfl))
theorem Env.s_Write_ahead (E : Env P w K mg base) : SlX.Slot1 K (He.ga K "Write") "ahead" (He.ma K (He.ga K "Write") "ahead") 0 := slB_ok (all_at (E.lk5) 19 (by rfl))
theorem Env.s_Write_behind (E : Env P w K mg base) : SlX.Slot1 K (He.ga K "Write") "behind" (He.ma K (He.ga K "Write") "behind") 1 := slB_ok (all_at (E.lk6) 0 (by rfl))
theorem Env.m_Cast (E : Env P w K mg base) : Mk K (He.ga K "Cast") (He.ma K (He.ga K "Cast") "__init__") := He.mkr_ok (all_at (E.lk6) 2 (by rfl))
theorem Env.p_Cast_names (E : Env P w K mg base) : PropC K (He.ga K "Cast") "names" (He.ma K (He.ga K "Cast") "names") (gtr K (He.ga K "Cast") "names") := prB_ok (all_at (E.lk6) 4 (by rfl))
theorem Env.fn_Cast_getitem (E : Env P w K mg base) : PySem.W.fnIn K (He.ma K (He.ga K "Cast") "__getitem__") = true := all_at (E.lk6) 5 (by rfl)
theorem Env.h_Cast_getitem (E : Env P w K mg base) : TMeth K (He.ga K "Cast") "__getitem__" := tmeth_ok (all_at (E.lk6) 6 (by rfl))
theorem Env.h_Cast_eq (E : Env P w K mg base) : TMeth K (He.ga K "Cast") "__eq__" := tmeth_ok (all_at (E.lk6) 10 (by rfl))
theorem Env.k_Cast (E : Env P w K mg base) : TCls K (He.ga K "Cast") := tclB_ok (all_at (E.lk6) 14 (by rfl))
theorem Env.s_Cast_table (E : Env P w K mg base) : SlX.Slot1 K (He.ga K "Cast") "table" (He.ma K (He.ga K "Cast") "table") 0 := slB_ok (all_at (E.lk6) 15 (by rfl))
theorem Env.m_Reader (E : Env P w K mg base) : Mk K (He.ga K "Reader") (He.ma K (He.ga K "Reader") "__init__") := He.mkr_ok (all_at (E.lk6) 17 (by rfl))
theorem Env.h_Reader_refuse (E : Env P w K mg base) : TMeth K (He.ga K "Reader") "refuse" := tmeth_ok (all_at (E.lk6) 19 (by rfl))
theorem Env.h_Reader_take (E : Env P w K mg base) : TMeth K (He.ga K "Reader") "take" := tmeth_ok (all_at (E.lk7) 0 (by rfl))
theorem Env.h_Reader_is_next (E : Env P w K mg base) : TMeth K (He.ga K "Reader") "is_next" := tmeth_ok (all_at (E.lk7) 1 (by rfl))
theorem Env.h_Reader_take_mark (E : Env P w K mg base) : TMeth K (He.ga K "Reader") "take_mark" := tmeth_ok (all_at (E.lk7) 2 (by rfl))
theorem Env.h_Reader_take_name (E : Env P w K mg base) : TMeth K (He.ga K "Reader") "take_name" := tmeth_ok (all_at (E.lk7) 3 (by rfl))
theorem Env.h_Reader_write (E : Env P w K mg base) : TMeth K (He.ga K "Reader") "write" := tmeth_ok (all_at (E.lk7) 4 (by rfl))
theorem Env.h_Reader_work (E : Env P w K mg base) : TMeth K (He.ga K "Reader") "work" := tmeth_ok (all_at (E.lk7) 5 (by rfl))
theorem Env.l_Reader (E : Env P w K mg base) : Cls K (He.ga K "Reader") := He.cls_ok (all_at (E.lk7) 6 (by rfl))
theorem Env.a_Reader_line (E : Env P w K mg base) : NoAttr K (He.ga K "Reader") "line" := He.noat_ok (all_at (E.lk7) 7 (by rfl))
theorem Env.a_Reader_row (E : Env P w K mg base) : NoAttr K (He.ga K "Reader") "row" := He.noat_ok (all_at (E.lk7) 8 (by rfl))
theorem Env.a_Reader_at (E : Env P w K mg base) : NoAttr K (He.ga K "Reader") "at" := He.noat_ok (all_at (E.lk7) 9 (by rfl))
theorem in_m_InvalidWrite_init : d_m_InvalidWrite_init ∈ fnL := List.mem_of_getElem? (i := 0) rfl
theorem in_m_InvalidCast_init : d_m_InvalidCast_init ∈ fnL := List.mem_of_getElem? (i := 1) rfl
theorem in_m_UnknownWork_init : d_m_UnknownWork_init ∈ fnL := List.mem_of_getElem? (i := 2) rfl
theorem in_m_InvalidText_init : d_m_InvalidText_init ∈ fnL := List.mem_of_getElem? (i := 4) rfl
theorem in_f_is_text : d_f_is_text ∈ fnL := List.mem_of_getElem? (i := 5) rfl
theorem in_f_is_name : d_f_is_name ∈ fnL := List.mem_of_getElem? (i := 6) rfl
theorem in_f_is_one_of : d_f_is_one_of ∈ fnL := List.mem_of_getElem? (i := 7) rfl
theorem in_m_Write_init : d_m_Write_init ∈ fnL := List.mem_of_getElem? (i := 8) rfl
theorem in_m_Write_eq : d_m_Write_eq ∈ fnL := List.mem_of_getElem? (i := 10) rfl
theorem in_f_look_at_writes : d_f_look_at_writes ∈ fnL := List.mem_of_getElem? (i := 12) rfl
theorem in_m_Cast_init : d_m_Cast_init ∈ fnL := List.mem_of_getElem? (i := 13) rfl
theorem in_m_Cast_getitem : d_m_Cast_getitem ∈ fnL := List.mem_of_getElem? (i := 14) rfl
theorem in_m_Cast_eq : d_m_Cast_eq ∈ fnL := List.mem_of_getElem? (i := 18) rfl
theorem in_f_write_text : d_f_write_text ∈ fnL := List.mem_of_getElem? (i := 21) rfl
theorem in_f_write_cast : d_f_write_cast ∈ fnL := List.mem_of_getElem? (i := 22) rfl
theorem in_f_quoted_end : d_f_quoted_end ∈ fnL := List.mem_of_getElem? (i := 23) rfl
theorem in_f_token_at : d_f_token_at ∈ fnL := List.mem_of_getElem? (i := 24) rfl
theorem in_f_tokens_of : d_f_tokens_of ∈ fnL := List.mem_of_getElem? (i := 25) rfl
theorem in_m_Reader_init : d_m_Reader_init ∈ fnL := List.mem_of_getElem? (i := 26) rfl
theorem in_m_Reader_refuse : d_m_Reader_refuse ∈ fnL := List.mem_of_getElem? (i := 27) rfl
theorem in_m_Reader_take : d_m_Reader_take ∈ fnL := List.mem_of_getElem? (i := 28) rfl
theorem in_m_Reader_is_next : d_m_Reader_is_next ∈ fnL := List.mem_of_getElem? (i := 29) rfl
theorem in_m_Reader_take_mark : d_m_Reader_take_mark ∈ fnL := List.mem_of_getElem? (i := 30) rfl
theorem in_m_Reader_take_name : d_m_Reader_take_name ∈ fnL := List.mem_of_getElem? (i := 31) rfl
theorem in_m_Reader_write : d_m_Reader_write ∈ fnL := List.mem_of_getElem? (i := 32) rfl
theorem in_m_Reader_work : d_m_Reader_work ∈ fnL := List.mem_of_getElem? (i := 33) rfl
theorem in_f_read_cast : d_f_read_cast ∈ fnL := List.mem_of_getElem? (i := 34) rfl
theorem in_f_Lmix : d_f_Lmix ∈ fnL := List.mem_of_getElem? (i := 35) rfl
theorem in_f_Lnext : d_f_Lnext ∈ fnL := List.mem_of_getElem? (i := 36) rfl
theorem in_f_Lletters : d_f_Lletters ∈ fnL := List.mem_of_getElem? (i := 37) rfl
theorem in_f_Lone : d_f_Lone ∈ fnL := List.mem_of_getElem? (i := 38) rfl
theorem in_f_Lrowof : d_f_Lrowof ∈ fnL := List.mem_of_getElem? (i := 39) rfl
theorem in_f_Ltable : d_f_Ltable ∈ fnL := List.mem_of_getElem? (i := 40) rfl
theorem in_f_Lbuilt : d_f_Lbuilt ∈ fnL := List.mem_of_getElem? (i := 41) rfl
theorem in_f_Llined : d_f_Llined ∈ fnL := List.mem_of_getElem? (i := 42) rfl
theorem in_f_law : d_f_law ∈ fnL := List.mem_of_getElem? (i := 43) rfl
theorem in_m_Write_kind : d_m_Write_kind ∈ gsL := List.mem_of_getElem? (i := 0) rfl
theorem in_m_Write_text : d_m_Write_text ∈ gsL := List.mem_of_getElem? (i := 1) rfl
theorem in_m_Write_lead : d_m_Write_lead ∈ gsL := List.mem_of_getElem? (i := 2) rfl
theorem in_m_Write_tail : d_m_Write_tail ∈ gsL := List.mem_of_getElem? (i := 3) rfl
theorem in_m_Cast_names : d_m_Cast_names ∈ gsL := List.mem_of_getElem? (i := 4) rfl
theorem Env.ini_InvalidWrite (E : Env P w K mg base) : ∃ fd, FnOk P w K mg base (L2.CX P w) 1 (He.ma K (He.ga K "InvalidWrite") "__init__") fd ["self", "part"] (spXIC (He.ga K "InvalidWrite") ["part"]) ∧ L2.Binds K fd ["self", "part"] [] := by
  obtain ⟨fd, F⟩ := E.has _ in_m_InvalidWrite_init
  exact ⟨fd, ok_ini1 F sc_m_InvalidWrite_init E.x_InvalidWrite.oe E.f_InvalidWrite_part (by first | exact Or.inl rfl | exact Or.inr (Or.inl rfl) | exact Or.inr (Or.inr rfl)) (by first | exact Or.inl rfl | exact Or.inr (Or.inl rfl) | exact Or.inr (Or.inr rfl)) (by decide) (by decide), F.bindsN fun _ _ _ _ _ _ us hl => match us, hl with | [_, _], _ => rfl⟩
theorem Env.ini_InvalidCast (E : Env P w K mg base) : ∃ fd, FnOk P w K mg base (L2.CX P w) 1 (He.ma K (He.ga K "InvalidCast") "__init__") fd ["self", "name", "number"] (spXIC (He.ga K "InvalidCast") ["name", "number"]) ∧ L2.Binds K fd ["self", "name", "number"] [] := by
  obtain ⟨fd, F⟩ := E.has _ in_m_InvalidCast_init
  exact ⟨fd, ok_ini2 F sc_m_InvalidCast_init E.x_InvalidCast.oe E.f_InvalidCast_name E.f_InvalidCast_number (by first | exact Or.inl rfl | exact Or.inr (Or.inl rfl) | exact Or.inr (Or.inr rfl)) (by first | exact Or.inl rfl | exact Or.inr (Or.inl rfl) | exact Or.inr (Or.inr rfl)) (by first | exact Or.inl rfl | exact Or.inr (Or.inl rfl) | exact Or.inr (Or.inr rfl)) (by decide) (by decide) (by decide) (by decide), F.bindsN fun _ _ _ _ _ _ us hl => match us, hl with | [_, _, _], _ => rfl⟩
theorem Env.ini_UnknownWork (E : Env P w K mg base) : ∃ fd, FnOk P w K mg base (L2.CX P w) 1 (He.ma K (He.ga K "UnknownWork") "__init__") fd ["self", "name"] (spXIC (He.ga K "UnknownWork") ["name"]) ∧ L2.Binds K fd ["self", "name"] [] := by
  obtain ⟨fd, F⟩ := E.has _ in_m_UnknownWork_init
  exact ⟨fd, ok_ini1 F sc_m_UnknownWork_init E.x_UnknownWork.oe E.f_UnknownWork_name (by first | exact Or.inl rfl | exact Or.inr (Or.inl rfl) | exact Or.inr (Or.inr rfl)) (by first | exact Or.inl rfl | exact Or.inr (Or.inl rfl) | exact Or.inr (Or.inr rfl)) (by decide) (by decide), F.bindsN fun _ _ _ _ _ _ us hl => match us, hl with | [_, _], _ => rfl⟩
theorem Env.ini_InvalidText (E : Env P w K mg base) : ∃ fd, FnOk P w K mg base (L2.CX P w) 1 (He.ma K (He.ga K "InvalidText") "__init__") fd ["self", "line", "column"] (spXIC (He.ga K "InvalidText") ["line", "column"]) ∧ L2.Binds K fd ["self", "line", "column"] [] := by
  obtain ⟨fd, F⟩ := E.has _ in_m_InvalidText_init
  exact ⟨fd, ok_ini2 F sc_m_InvalidText_init E.x_InvalidText.oe E.f_InvalidText_line E.f_InvalidText_column (by first | exact Or.inl rfl | exact Or.inr (Or.inl rfl) | exact Or.inr (Or.inr rfl)) (by first | exact Or.inl rfl | exact Or.inr (Or.inl rfl) | exact Or.inr (Or.inr rfl)) (by first | exact Or.inl rfl | exact Or.inr (Or.inl rfl) | exact Or.inr (Or.inr rfl)) (by decide) (by decide) (by decide) (by decide), F.bindsN fun _ _ _ _ _ _ us hl => match us, hl with | [_, _, _], _ => rfl⟩
theorem mk_f_is_text (E : Env P w K mg base) {k : Nat} {S : Spec K} (ok : ∀ fd, FunD K "is_text" "is_text" (defArgs f_is_text) (defBody f_is_text) (defScope f_is_text) [] [] (He.ga K "is_text") fd → FnOk P w K mg base (L2.CX P w) k (He.ga K "is_text") fd ["value"] (spD K S)) : Def P w K mg base "is_text" k ["value"] [] S := by
  obtain ⟨fd, F⟩ := E.has _ in_f_is_text
  exact Def.of E.g_is_text F (ok fd F) fun _ _ _ _ _ _ us hl => match us, hl with | [_], _ => rfl
theorem mk_f_is_name (E : Env P w K mg base) {k : Nat} {S : Spec K} (ok : ∀ fd, FunD K "is_name" "is_name" (defArgs f_is_name) (defBody f_is_name) (defScope f_is_name) [] [] (He.ga K "is_name") fd → FnOk P w K mg base (L2.CX P w) k (He.ga K "is_name") fd ["value"] (spD K S)) : Def P w K mg base "is_name" k ["value"] [] S := by
  obtain ⟨fd, F⟩ := E.has _ in_f_is_name
  exact Def.of E.g_is_name F (ok fd F) fun _ _ _ _ _ _ us hl => match us, hl with | [_], _ => rfl
theorem mk_f_is_one_of (E : Env P w K mg base) {k : Nat} {S : Spec K} (ok : ∀ fd, FunD K "is_one_of" "is_one_of" (defArgs f_is_one_of) (defBody f_is_one_of) (defScope f_is_one_of) [] [] (He.ga K "is_one_of") fd → FnOk P w K mg base (L2.CX P w) k (He.ga K "is_one_of") fd ["value", "words"] (spD K S)) : Def P w K mg base "is_one_of" k ["value", "words"] [] S := by
  obtain ⟨fd, F⟩ := E.has _ in_f_is_one_of
  exact Def.of E.g_is_one_of F (ok fd F) fun _ _ _ _ _ _ us hl => match us, hl with | [_, _], _ => rfl
theorem mk_m_Write_kind (E : Env P w K mg base) {k : Nat} {S : Spec K} (ok : ∀ fd, FunD K "kind" "Write.kind" (defArgs m_Write_kind) (defBody m_Write_kind) (defScope m_Write_kind) [] [] (gtr K (He.ga K "Write") "kind") fd → FnOk P w K mg base (L2.CX P w) k (gtr K (He.ga K "Write") "kind") fd ["self"] (spD K S)) : FnR P w K mg base (L2.CX P w) k (gtr K (He.ga K "Write") "kind") (spD K S) := by
  obtain ⟨fd, F⟩ := E.hasG _ in_m_Write_kind
  exact raw0 (ok fd F) (F.bindsN fun _ _ _ _ _ _ us hl => match us, hl with | [_], _ => rfl)
theorem mk_m_Write_text (E : Env P w K mg base) {k : Nat} {S : Spec K} (ok : ∀ fd, FunD K "text" "Write.text" (defArgs m_Write_text) (defBody m_Write_text) (defScope m_Write_text) [] [] (gtr K (He.ga K "Write") "text") fd → FnOk P w K mg base (L2.CX P w) k (gtr K (He.ga K "Write") "text") fd ["self"] (spD K S)) : FnR P w K mg base (L2.CX P w) k (gtr K (He.ga K "Write") "text") (spD K S) := by
  obtain ⟨fd, F⟩ := E.hasG _ in_m_Write_text
  exact raw0 (ok fd F) (F.bindsN fun _ _ _ _ _ _ us hl => match us, hl with | [_], _ => rfl)
theorem mk_m_Write_lead (E : Env P w K mg base) {k : Nat} {S : Spec K} (ok : ∀ fd, FunD K "lead" "Write.lead" (defArgs m_Write_lead) (defBody m_Write_lead) (defScope m_Write_lead) [] [] (gtr K (He.ga K "Write") "lead") fd → FnOk P w K mg base (L2.CX P w) k (gtr K (He.ga K "Write") "lead") fd ["self"] (spD K S)) : FnR P w K mg base (L2.CX P w) k (gtr K (He.ga K "Write") "lead") (spD K S) := by
  obtain ⟨fd, F⟩ := E.hasG _ in_m_Write_lead
  exact raw0 (ok fd F) (F.bindsN fun _ _ _ _ _ _ us hl => match us, hl with | [_], _ => rfl)
theorem mk_m_Write_tail (E : Env P w K mg base) {k : Nat} {S : Spec K} (ok : ∀ fd, FunD K "tail" "Write.tail" (defArgs m_Write_tail) (defBody m_Write_tail) (defScope m_Write_tail) [] [] (gtr K (He.ga K "Write") "tail") fd → FnOk P w K mg base (L2.CX P w) k (gtr K (He.ga K "Write") "tail") fd ["self"] (spD K S)) : FnR P w K mg base (L2.CX P w) k (gtr K (He.ga K "Write") "tail") (spD K S) := by
  obtain ⟨fd, F⟩ := E.hasG _ in_m_Write_tail
  exact raw0 (ok fd F) (F.bindsN fun _ _ _ _ _ _ us hl => match us, hl with | [_], _ => rfl)
theorem mk_m_Write_eq (E : Env P w K mg base) {k : Nat} {S : Spec K} (ok : ∀ fd, FunD K "__eq__" "Write.__eq__" (defArgs m_Write_eq) (defBody m_Write_eq) (defScope m_Write_eq) [] [] (He.ma K (He.ga K "Write") "__eq__") fd → FnOk P w K mg base (L2.CX P w) k (He.ma K (He.ga K "Write") "__eq__") fd ["self", "other"] (spD K S)) : FnR P w K mg base (L2.CX P w) k (He.ma K (He.ga K "Write") "__eq__") (spD K S) := by
  obtain ⟨fd, F⟩ := E.has _ in_m_Write_eq
  exact raw0 (ok fd F) (F.bindsN fun _ _ _ _ _ _ us hl => match us, hl with | [_, _], _ => rfl)
theorem mk_f_look_at_writes (E : Env P w K mg base) {k : Nat} {S : Spec K} (ok : ∀ fd, FunD K "look_at_writes" "look_at_writes" (defArgs f_look_at_writes) (defBody f_look_at_writes) (defScope f_look_at_writes) [] [] (He.ga K "look_at_writes") fd → FnOk P w K mg base (L2.CX P w) k (He.ga K "look_at_writes") fd ["name", "writes"] (spD K S)) : Def P w K mg base "look_at_writes" k ["name", "writes"] [] S := by
  obtain ⟨fd, F⟩ := E.has _ in_f_look_at_writes
  exact Def.of E.g_look_at_writes F (ok fd F) fun _ _ _ _ _ _ us hl => match us, hl with | [_, _], _ => rfl
theorem mk_m_Cast_names (E : Env P w K mg base) {k : Nat} {S : Spec K} (ok : ∀ fd, FunD K "names" "Cast.names" (defArgs m_Cast_names) (defBody m_Cast_names) (defScope m_Cast_names) [] [] (gtr K (He.ga K "Cast") "names") fd → FnOk P w K mg base (L2.CX P w) k (gtr K (He.ga K "Cast") "names") fd ["self"] (spD K S)) : FnR P w K mg base (L2.CX P w) k (gtr K (He.ga K "Cast") "names") (spD K S) := by
  obtain ⟨fd, F⟩ := E.hasG _ in_m_Cast_names
  exact raw0 (ok fd F) (F.bindsN fun _ _ _ _ _ _ us hl => match us, hl with | [_], _ => rfl)
theorem mk_m_Cast_getitem (E : Env P w K mg base) {k : Nat} {S : Spec K} (ok : ∀ fd, FunD K "__getitem__" "Cast.__getitem__" (defArgs m_Cast_getitem) (defBody m_Cast_getitem) (defScope m_Cast_getitem) [] [] (He.ma K (He.ga K "Cast") "__getitem__") fd → FnOk P w K mg base (L2.CX P w) k (He.ma K (He.ga K "Cast") "__getitem__") fd ["self", "name"] (spD K S)) : FnR P w K mg base (L2.CX P w) k (He.ma K (He.ga K "Cast") "__getitem__") (spD K S) := by
  obtain ⟨fd, F⟩ := E.has _ in_m_Cast_getitem
  exact raw0 (ok fd F) (F.bindsN fun _ _ _ _ _ _ us hl => match us, hl with | [_, _], _ => rfl)
theorem mk_m_Cast_eq (E : Env P w K mg base) {k : Nat} {S : Spec K} (ok : ∀ fd, FunD K "__eq__" "Cast.__eq__" (defArgs m_Cast_eq) (defBody m_Cast_eq) (defScope m_Cast_eq) [] [] (He.ma K (He.ga K "Cast") "__eq__") fd → FnOk P w K mg base (L2.CX P w) k (He.ma K (He.ga K "Cast") "__eq__") fd ["self", "other"] (spD K S)) : FnR P w K mg base (L2.CX P w) k (He.ma K (He.ga K "Cast") "__eq__") (spD K S) := by
  obtain ⟨fd, F⟩ := E.has _ in_m_Cast_eq
  exact raw0 (ok fd F) (F.bindsN fun _ _ _ _ _ _ us hl => match us, hl with | [_, _], _ => rfl)
theorem mk_f_quoted_end (E : Env P w K mg base) {k : Nat} {S : Spec K} (ok : ∀ fd, FunD K "quoted_end" "quoted_end" (defArgs f_quoted_end) (defBody f_quoted_end) (defScope f_quoted_end) [] [] (He.ga K "quoted_end") fd → FnOk P w K mg base (L2.CX P w) k (He.ga K "quoted_end") fd ["row", "start"] (spD K S)) : Def P w K mg base "quoted_end" k ["row", "start"] [] S := by
  obtain ⟨fd, F⟩ := E.has _ in_f_quoted_end
  exact Def.of E.g_quoted_end F (ok fd F) fun _ _ _ _ _ _ us hl => match us, hl with | [_, _], _ => rfl
theorem mk_m_Reader_refuse (E : Env P w K mg base) {k : Nat} {S : Spec K} (ok : ∀ fd, FunD K "refuse" "Reader.refuse" (defArgs m_Reader_refuse) (defBody m_Reader_refuse) (defScope m_Reader_refuse) [] [] (He.ma K (He.ga K "Reader") "refuse") fd → FnOk P w K mg base (L2.CX P w) k (He.ma K (He.ga K "Reader") "refuse") fd ["self"] (spD K S)) : FnR P w K mg base (L2.CX P w) k (He.ma K (He.ga K "Reader") "refuse") (spD K S) := by
  obtain ⟨fd, F⟩ := E.has _ in_m_Reader_refuse
  exact raw0 (ok fd F) (F.bindsN fun _ _ _ _ _ _ us hl => match us, hl with | [_], _ => rfl)
theorem mk_m_Reader_take (E : Env P w K mg base) {k : Nat} {S : Spec K} (ok : ∀ fd, FunD K "take" "Reader.take" (defArgs m_Reader_take) (defBody m_Reader_take) (defScope m_Reader_take) [] [] (He.ma K (He.ga K "Reader") "take") fd → FnOk P w K mg base (L2.CX P w) k (He.ma K (He.ga K "Reader") "take") fd ["self", "sort"] (spD K S)) : FnR P w K mg base (L2.CX P w) k (He.ma K (He.ga K "Reader") "take") (spD K S) := by
  obtain ⟨fd, F⟩ := E.has _ in_m_Reader_take
  exact raw0 (ok fd F) (F.bindsN fun _ _ _ _ _ _ us hl => match us, hl with | [_, _], _ => rfl)
theorem mk_m_Reader_is_next (E : Env P w K mg base) {k : Nat} {S : Spec K} (ok : ∀ fd, FunD K "is_next" "Reader.is_next" (defArgs m_Reader_is_next) (defBody m_Reader_is_next) (defScope m_Reader_is_next) [] [] (He.ma K (He.ga K "Reader") "is_next") fd → FnOk P w K mg base (L2.CX P w) k (He.ma K (He.ga K "Reader") "is_next") fd ["self", "sort", "words"] (spD K S)) : FnR P w K mg base (L2.CX P w) k (He.ma K (He.ga K "Reader") "is_next") (spD K S) := by
  obtain ⟨fd, F⟩ := E.has _ in_m_Reader_is_next
  exact raw0 (ok fd F) (F.bindsN fun _ _ _ _ _ _ us hl => match us, hl with | [_, _, _], _ => rfl)
theorem mk_m_Reader_take_mark (E : Env P w K mg base) {k : Nat} {S : Spec K} (ok : ∀ fd, FunD K "take_mark" "Reader.take_mark" (defArgs m_Reader_take_mark) (defBody m_Reader_take_mark) (defScope m_Reader_take_mark) [] [] (He.ma K (He.ga K "Reader") "take_mark") fd → FnOk P w K mg base (L2.CX P w) k (He.ma K (He.ga K "Reader") "take_mark") fd ["self", "mark"] (spD K S)) : FnR P w K mg base (L2.CX P w) k (He.ma K (He.ga K "Reader") "take_mark") (spD K S) := by
  obtain ⟨fd, F⟩ := E.has _ in_m_Reader_take_mark
  exact raw0 (ok fd F) (F.bindsN fun _ _ _ _ _ _ us hl => match us, hl with | [_, _], _ => rfl)
theorem mk_m_Reader_take_name (E : Env P w K mg base) {k : Nat} {S : Spec K} (ok : ∀ fd, FunD K "take_name" "Reader.take_name" (defArgs m_Reader_take_name) (defBody m_Reader_take_name) (defScope m_Reader_take_name) [] [] (He.ma K (He.ga K "Reader") "take_name") fd → FnOk P w K mg base (L2.CX P w) k (He.ma K (He.ga K "Reader") "take_name") fd ["self", "names"] (spD K S)) : FnR P w K mg base (L2.CX P w) k (He.ma K (He.ga K "Reader") "take_name") (spD K S) := by
  obtain ⟨fd, F⟩ := E.has _ in_m_Reader_take_name
  exact raw0 (ok fd F) (F.bindsN fun _ _ _ _ _ _ us hl => match us, hl with | [_, _], _ => rfl)
theorem mk_m_Reader_write (E : Env P w K mg base) {k : Nat} {S : Spec K} (ok : ∀ fd, FunD K "write" "Reader.write" (defArgs m_Reader_write) (defBody m_Reader_write) (defScope m_Reader_write) [] [] (He.ma K (He.ga K "Reader") "write") fd → FnOk P w K mg base (L2.CX P w) k (He.ma K (He.ga K "Reader") "write") fd ["self"] (spD K S)) : FnR P w K mg base (L2.CX P w) k (He.ma K (He.ga K "Reader") "write") (spD K S) := by
  obtain ⟨fd, F⟩ := E.has _ in_m_Reader_write
  exact raw0 (ok fd F) (F.bindsN fun _ _ _ _ _ _ us hl => match us, hl with | [_], _ => rfl)
theorem mk_m_Reader_work (E : Env P w K mg base) {k : Nat} {S : Spec K} (ok : ∀ fd, FunD K "work" "Reader.work" (defArgs m_Reader_work) (defBody m_Reader_work) (defScope m_Reader_work) [] [] (He.ma K (He.ga K "Reader") "work") fd → FnOk P w K mg base (L2.CX P w) k (He.ma K (He.ga K "Reader") "work") fd ["self", "names"] (spD K S)) : FnR P w K mg base (L2.CX P w) k (He.ma K (He.ga K "Reader") "work") (spD K S) := by
  obtain ⟨fd, F⟩ := E.has _ in_m_Reader_work
  exact raw0 (ok fd F) (F.bindsN fun _ _ _ _ _ _ us hl => match us, hl with | [_, _], _ => rfl)
theorem mk_f_Lmix (E : Env P w K mg base) {k : Nat} {S : Spec K} (ok : ∀ fd, FunD K "_law_mix" "_law_mix" (defArgs f_Lmix) (defBody f_Lmix) (defScope f_Lmix) [] [] (He.ga K "_law_mix") fd → FnOk P w K mg base (L2.CX P w) k (He.ga K "_law_mix") fd ["_law_script", "_law_seed"] (spD K S)) : Def P w K mg base "_law_mix" k ["_law_script", "_law_seed"] [] S := by
  obtain ⟨fd, F⟩ := E.has _ in_f_Lmix
  exact Def.of E.g__law_mix F (ok fd F) fun _ _ _ _ _ _ us hl => match us, hl with | [_, _], _ => rfl
theorem mk_f_Lnext (E : Env P w K mg base) {k : Nat} {S : Spec K} (ok : ∀ fd, FunD K "_law_next" "_law_next" (defArgs f_Lnext) (defBody f_Lnext) (defScope f_Lnext) [] [] (He.ga K "_law_next") fd → FnOk P w K mg base (L2.CX P w) k (He.ga K "_law_next") fd ["_law_h", "_law_bound"] (spD K S)) : Def P w K mg base "_law_next" k ["_law_h", "_law_bound"] [] S := by
  obtain ⟨fd, F⟩ := E.has _ in_f_Lnext
  exact Def.of E.g__law_next F (ok fd F) fun _ _ _ _ _ _ us hl => match us, hl with | [_, _], _ => rfl
theorem mk_f_Lletters (E : Env P w K mg base) {k : Nat} {S : Spec K} (ok : ∀ fd, FunD K "_law_letters" "_law_letters" (defArgs f_Lletters) (defBody f_Lletters) (defScope f_Lletters) [] [] (He.ga K "_law_letters") fd → FnOk P w K mg base (L2.CX P w) k (He.ga K "_law_letters") fd ["_law_h", "_law_most"] (spD K S)) : Def P w K mg base "_law_letters" k ["_law_h", "_law_most"] [] S := by
  obtain ⟨fd, F⟩ := E.has _ in_f_Lletters
  exact Def.of E.g__law_letters F (ok fd F) fun _ _ _ _ _ _ us hl => match us, hl with | [_, _], _ => rfl
theorem mk_f_Lone (E : Env P w K mg base) {k : Nat} {S : Spec K} (ok : ∀ fd, FunD K "_law_one" "_law_one" (defArgs f_Lone) (defBody f_Lone) (defScope f_Lone) [] [] (He.ga K "_law_one") fd → FnOk P w K mg base (L2.CX P w) k (He.ga K "_law_one") fd ["_law_h", "_law_form", "_law_most"] (spD K S)) : Def P w K mg base "_law_one" k ["_law_h", "_law_form", "_law_most"] [] S := by
  obtain ⟨fd, F⟩ := E.has _ in_f_Lone
  exact Def.of E.g__law_one F (ok fd F) fun _ _ _ _ _ _ us hl => match us, hl with | [_, _, _], _ => rfl
theorem mk_f_Lrowof (E : Env P w K mg base) {k : Nat} {S : Spec K} (ok : ∀ fd, FunD K "_law_rowof" "_law_rowof" (defArgs f_Lrowof) (defBody f_Lrowof) (defScope f_Lrowof) [] [] (He.ga K "_law_rowof") fd → FnOk P w K mg base (L2.CX P w) k (He.ga K "_law_rowof") fd ["_law_h", "_law_many", "_law_most"] (spD K S)) : Def P w K mg base "_law_rowof" k ["_law_h", "_law_many", "_law_most"] [] S := by
  obtain ⟨fd, F⟩ := E.has _ in_f_Lrowof
  exact Def.of E.g__law_rowof F (ok fd F) fun _ _ _ _ _ _ us hl => match us, hl with | [_, _, _], _ => rfl
theorem mk_f_Ltable (E : Env P w K mg base) {k : Nat} {S : Spec K} (ok : ∀ fd, FunD K "_law_table" "_law_table" (defArgs f_Ltable) (defBody f_Ltable) (defScope f_Ltable) [] [] (He.ga K "_law_table") fd → FnOk P w K mg base (L2.CX P w) k (He.ga K "_law_table") fd ["_law_h", "_law_works", "_law_total", "_law_most"] (spD K S)) : Def P w K mg base "_law_table" k ["_law_h", "_law_works", "_law_total", "_law_most"] [] S := by
  obtain ⟨fd, F⟩ := E.has _ in_f_Ltable
  exact Def.of E.g__law_table F (ok fd F) fun _ _ _ _ _ _ us hl => match us, hl with | [_, _, _, _], _ => rfl
theorem mk_f_Lbuilt (E : Env P w K mg base) {k : Nat} {S : Spec K} (ok : ∀ fd, FunD K "_law_built" "_law_built" (defArgs f_Lbuilt) (defBody f_Lbuilt) (defScope f_Lbuilt) [] [] (He.ga K "_law_built") fd → FnOk P w K mg base (L2.CX P w) k (He.ga K "_law_built") fd ["_law_t"] (spD K S)) : Def P w K mg base "_law_built" k ["_law_t"] [] S := by
  obtain ⟨fd, F⟩ := E.has _ in_f_Lbuilt
  exact Def.of E.g__law_built F (ok fd F) fun _ _ _ _ _ _ us hl => match us, hl with | [_], _ => rfl
theorem mk_f_Llined (E : Env P w K mg base) {k : Nat} {S : Spec K} (ok : ∀ fd, FunD K "_law_lined" "_law_lined" (defArgs f_Llined) (defBody f_Llined) (defScope f_Llined) [] [] (He.ga K "_law_lined") fd → FnOk P w K mg base (L2.CX P w) k (He.ga K "_law_lined") fd ["_law_t"] (spD K S)) : Def P w K mg base "_law_lined" k ["_law_t"] [] S := by
  obtain ⟨fd, F⟩ := E.has _ in_f_Llined
  exact Def.of E.g__law_lined F (ok fd F) fun _ _ _ _ _ _ us hl => match us, hl with | [_], _ => rfl
end
end LK
set_option Elab.async false
set_option linter.all false
set_option maxRecDepth 100000
set_option maxHeartbeats 4000000
namespace DL
open PySem PySem.Spec PyProof.Rows L2
theorem obsS_eq {fn gs : List He.DefD} {tf : List He.Defn} {ex : PySem.W.Frag → Bool} {g : Addr → Option Obj} {s : Shared} (h : ∀ a, g a = s.heap.get? a) : obsS fn gs tf ex g = (show AlP from (hookS fn gs tf ex).obs s) := by
  have e : g = s.heap.get? := funext h
  rw [e]; rfl
def quoK (K : PySem.W.Frag) (T : Nat) : Bool := match PySem.W.nsIn K mainGlobals "QUOTE" with
  | some (some (.str x t)) => decide (x = "'") && (!(Nat.beq t 0) && Nat.blt t T)
  | _ => false
end DL
set_option Elab.async false
set_option linter.all false
set_option maxRecDepth 100000
set_option maxHeartbeats 0
namespace LK
open PySem PySem.Spec PyProof.Rows L2 DL
theorem ob_eq (s : PySem.W.SharedT) : ob s = hk.obs s.abs := obsS_eq (HandSHeadRun.getT_eq s)
section
open PySem PySem.W HandSHeadRun
theorem run_t (w : World) (os : PySem.OsState) : (EN w os).map (fun s => quoK (KS (HandSHeadRun.getT s)) s.toks) = some true := by kernel_rfl
end
end LK
set_option Elab.async false
set_option linter.all false
set_option maxRecDepth 100000
set_option maxHeartbeats 1000000
namespace LK
open PySem PySem.Spec PyProof.Rows L2 DL
abbrev SIGNS : Str := Str.ofString ("abcdefghijklmnopqrstuvwxyzABCDEFGHIJKLMNOPQRSTUVWXYZ0123456789 !\"#$&'()*+,-./:;<=>?@" ++ "[\\]^_`{|}~")
abbrev kinds : List Str := ["say", "ask", "reply", "show"]
abbrev leads : List Str := ["", "return", "wipe", "fresh"]
abbrev tails : List Str := ["", "erase", "newline"]
abbrev cW (K : PySem.W.Frag) : Addr := He.ga K "Write"
section
variable {X : Cx} {W : WX} {es : List Expr} {e : Expr} {δ : DEnv} {I : Iv X.K} {κ : Ko X.K} {pos p pos2 : Pos} {x : Str} {ps ks : List Str}
theorem s_rz (tk : Takes X W) (T : TExc X.K X.mg x) (F1 : ∃ fd, FnOk X.prog X.w X.K X.mg X.base (L2.CX X.prog X.w) 1 (He.ma X.K (He.ga X.K x) "__init__") fd ps (spXIC (He.ga X.K x) ks) ∧ L2.Binds X.K fd ps []) (hr : Room 2 X.A)
    (h : EvA X W (κ.r δ) (e :: es) δ I fun ds I1 => ks.length = ds.length ∧ ds.length ≤ 10 ∧ κ.ex (He.ga X.K x) (ks.zip ds).reverse δ I1) (hc : X.calm = true := by rfl) (hg : Gl X x := by rfl) (hdb : (x == ("__debug__" : Str)) = false := by decide)
    (he : starEach (e :: es) X.env = (false, eval e X.env) :: starEach es X.env := by rfl) (hpl : (backTo pos (starEach es X.env)).any (·.1) = false := by rfl) : S1 X W (.Raise (some (.Call (.Name x p) (e :: es) [] pos)) none pos2) δ I κ := by
  obtain ⟨fd, F, b⟩ := F1
  exact s_raise tk T.oe T.iC T.tI F hr b T.g h hc hg hdb he hpl
end
def isTextD : D → Bool
  | .str s => decide (s.length ≤ 40) && s.cps.toList.all fun c => decide (c ∈ SIGNS.cps.toList)
  | _ => false
def okV (d : D) : Prop := (∃ t, tyD d = some t) ∧ ∀ s, d = .str s → s.length ≤ 100000
def sIsText {K : PySem.W.Frag} : Spec K := fun I ds P _ => ∃ d, ds = [d] ∧ okV d ∧ P (.bl (isTextD d)) I
section
variable {P : Program} {w : World} {K : PySem.W.Frag} {mg : Str → Option Value} {base : Heap} {f : Addr} {fd : FuncData}
theorem ok_is_text (F : FnP K "is_text" "is_text" f_is_text f fd) (E : Env P w K mg base) : FnOk P w K mg base (L2.CX P w) 1 f fd ["value"] (spD K sIsText) := by
  refine fn_d F sc_f_is_text (fun I ds P R h => by obtain ⟨d, rfl, _⟩ := h; rfl) fun cdv A outer s H EE hr tk po I ds Q R h => ?_
  obtain ⟨d, rfl, ⟨⟨t, ht⟩, hz⟩, q⟩ := h
  have nd := sc_f_is_text.nd
  rcases str_or d ht with ⟨z, rfl⟩ | ⟨hk, hn⟩
  · have hl := hz z rfl
    refine s_cons (s_ifP (ptw (ww_or (ptn (pt_v (pv_cb call_isi E.b_isinstance (va_cons (pv_v 0) (va_cons (pv_gty (n := "str") E.b_str) va_nil)) (pn_isiT (t := "str") rfl)))) fun _ => ww_or1 (pt_cmp op_gt (pv_cb call_len_str E.b_len (va_cons (pv_v 0) va_nil) (pn_lenS hl)) (pv_gint E.c_MOST_SIGNS) p2_gt))) (fun e => ?_) fun e => ?_)
    · refine s_one (s_retP pv_bl ?_)
      have e2 : (40 : Int) < z.length := by simpa using e
      have e3 : isTextD (.str z) = false := by simp [isTextD]; omega
      rw [← e3]; exact q
    · refine s_nil ?_
      have e2 : ¬ (40 : Int) < z.length := by simpa using e
      have el : D.lst ((z.cps.toList.map fun c => D.str ⟨#[c]⟩).map fun d => .bl (match d with | .str s => decide (s.cps.toList.headD 0 ∈ SIGNS.cps.toList) | _ => false)) = .lst ((z.cps.toList.map fun c => decide (c ∈ SIGNS.cps.toList)).map D.bl) := by
        rw [List.map_map, List.map_map]; rfl
      refine s_one (s_retP (pv_cb (cr_all rfl) E.b_all (va_cons ((pv_lcMap _ [("sign", 1)] (fun d => [some (.str z), some d]) (vi_str (pv_v 0)) (by rw [List.length_map, Array.length_toList]; exact Nat.le_trans hl (by decide)) (fun d s H C cl fp => bind_name 1) fun d hd J s H C cl fp => ?_).is el) va_nil) pn_all) ?_)
      · obtain ⟨c, hc, rfl⟩ := List.mem_map.mp hd
        exact pv_cmp op_signIn (pv_v 1) (pv_gstr E.c_SIGNS) p2_signIn
      · have e3 : isTextD (.str z) = (z.cps.toList.map fun c => decide (c ∈ SIGNS.cps.toList)).all id := by
          have e4 : (40 : Nat) ≥ z.length := by omega
          simp only [isTextD, List.all_map]
          rw [decide_eq_true e4, Bool.true_and]
          rfl
        rw [← e3]; exact q
  · have e3 : isTextD d = false := by
      cases d <;> first | rfl | exact absurd rfl (hn _)
    refine s_cons (s_ifT (ptw (ww_orT (ptn (k := false) (pt_v (pv_cb call_isi E.b_isinstance (va_cons (pv_v 0) (va_cons (pv_gty (n := "str") E.b_str) va_nil)) (pn_isiF ht hk)))))) (s_one (s_retP pv_bl ?_)))
    rw [← e3]
    exact q
def isOneD (d : D) (ws : List Str) : Bool := match d with
  | .str s => decide (s ∈ ws)
  | _ => false
def sIsOne {K : PySem.W.Frag} : Spec K := fun I ds P _ => ∃ d ws, ds = [d, .tup (List.map D.str ws)] ∧ okV d ∧ P (.bl (isOneD d ws)) I
theorem ok_is_one_of (F : FnP K "is_one_of" "is_one_of" f_is_one_of f fd) (E : Env P w K mg base) : FnOk P w K mg base (L2.CX P w) 1 f fd ["value", "words"] (spD K sIsOne) := by
  refine fn_d F sc_f_is_one_of (fun I ds P R h => by obtain ⟨d, ws, rfl, _⟩ := h; rfl) fun cdv A outer s H EE hr tk po I ds Q R h => ?_
  obtain ⟨d, ws, rfl, ⟨⟨t, ht⟩, hz⟩, q⟩ := h
  rcases str_or d ht with ⟨z, rfl⟩ | ⟨hk, hn⟩
  · exact s_one (s_retP (pv_andT (pv_cb call_isi E.b_isinstance (va_cons (pv_v 0) (va_cons (pv_gty (n := "str") E.b_str) va_nil)) (pn_isiT (t := "str") rfl)) (pv_one (pv_cmp op_in_seq (pv_v 0) (pv_v 1) p2_inStr))) q)
  · have e3 : isOneD d ws = false := by
      cases d <;> first | rfl | exact absurd rfl (hn _)
    rw [e3] at q
    exact s_one (s_retP (pv_andF (pv_cb call_isi E.b_isinstance (va_cons (pv_v 0) (va_cons (pv_gty (n := "str") E.b_str) va_nil)) (pn_isiF ht hk))) q)
end
def isOneT (d : D) (s : Str) : Bool := match d with
  | .str z => decide (z = s)
  | _ => false
def wFault (k t l e : D) : Option Str :=
  if (!isOneD k kinds) = true then some ("kind" : Str) else
  if (!isTextD t || (isOneT t "" && isOneD k ["ask", "reply"])) = true then some ("text" : Str) else
  if (!isOneD l leads || (!isOneT l "" && isOneT k "reply")) = true then some ("lead" : Str) else
  if (!isOneD e tails || (!isOneT e "" && isOneT k "ask")) = true then some ("tail" : Str) else none
def sWInit {K : PySem.W.Frag} : Spec K := fun I ds P R => ∃ (x dx : Addr) (J : Iv K) (k t l e : D), ds = [.adr x, k, t, l, e] ∧ I = J.and (iSl K x (He.ga K "Write") dx []) ∧ okV k ∧ okV t ∧ okV l ∧ okV e ∧
  match wFault k t l e with
  | none => P .non (J.and (iSl K x (He.ga K "Write") dx [some l, some e, some k, some t]))
  | some part => R (He.ga K "InvalidWrite") [("part", .str part)] I
theorem isOneD_str {d : D} {ws : List Str} (h : isOneD d ws = true) : ∃ z, d = .str z := by
  cases d with
  | str z => exact ⟨z, rfl⟩
  | _ => cases h
theorem isTextD_str {d : D} (h : isTextD d = true) : ∃ z, d = .str z := by
  cases d with
  | str z => exact ⟨z, rfl⟩
  | _ => cases h
section
variable {P : Program} {w : World} {K : PySem.W.Frag} {mg : Str → Option Value} {base : Heap} {f : Addr} {fd : FuncData}
theorem ok_wInit {dvs : List V} {kws : List (Str × V)} (F : FunD K "__init__" "Write.__init__" (defArgs m_Write_init) (defBody m_Write_init) (defScope m_Write_init) dvs kws f fd) (E : Env P w K mg base)
    (DT : Def P w K mg base "is_text" 1 ["value"] [] sIsText) (DO : Def P w K mg base "is_one_of" 1 ["value", "words"] [] sIsOne) :
    FnOk P w K mg base (L2.CX P w) 3 f fd ["self", "kind", "text", "lead", "tail"] (spD K sWInit) := by
  refine fn_d F sc_m_Write_init (fun I ds P R h => by obtain ⟨x, dx, J, k, t, l, e, rfl, _⟩ := h; rfl) fun cdv A outer s H EE hr tk po I ds Q R h => ?_
  obtain ⟨x, dx, J, k, t, l, e, rfl, rfl, hk, ht, hl, he, q⟩ := h
  have nd := sc_m_Write_init.nd
  have hr1 : Room 1 _ := hr.mono (by decide)
  -- the kind
  refine s_cons (s_ifP (ptn (pt_v (pv_def DO hr1 (va_cons (pv_v 1) (va_cons (pv_gtup E.c_KINDS) va_nil)) fun P p => ⟨_, _, rfl, hk, p⟩))) (fun e1 => ?_) fun e1 => s_nil ?_)
  · refine s_one (s_rz tk E.x_InvalidWrite E.ini_InvalidWrite (hr.mono (by decide)) (ea_cons (pv_str _ _ _ (ea_nil ⟨rfl, by decide, ?_⟩))))
    have ef : wFault k t l e = some ("kind" : Str) := by unfold wFault; rw [if_pos e1]
    rw [ef] at q
    exact q
  have e1' : isOneD k kinds = true := by simpa using e1
  obtain ⟨zk, rfl⟩ := isOneD_str e1'
  -- the text
  refine s_cons (s_ifP (b := (!isTextD t || (isOneT t "" && isOneD (.str zk) ["ask", "reply"]))) (ptw (ww_or (ptn (pt_v (pv_def DT hr1 (va_cons (pv_v 2) va_nil) fun P p => ⟨_, rfl, ht, p⟩))) fun e2 => ?_)) (fun e2 => ?_) fun e2 => s_nil ?_)
  · have e2' : isTextD t = true := by simpa using e2
    obtain ⟨zt, rfl⟩ := isTextD_str e2'
    exact ww_or1 (ptw (ww_and (pt_cmp op_eq (pv_v 2) pv_str (eqV_str _ _)) fun _ => ww_and1 (pt_cmp op_in_seq (pv_v 1) (pv_tup (va_cons (pv_gstr E.c_ASK) (va_cons (pv_gstr E.c_REPLY) va_nil))) (p2_inStr (ws := ["ask", "reply"])))))
  · refine s_one (s_rz tk E.x_InvalidWrite E.ini_InvalidWrite (hr.mono (by decide)) (ea_cons (pv_str _ _ _ (ea_nil ⟨rfl, by decide, ?_⟩))))
    have ef : wFault (.str zk) t l e = some ("text" : Str) := by unfold wFault; rw [if_neg (by rw [e1']; simp), if_pos e2]
    rw [ef] at q
    exact q
  have e2' : isTextD t = true := by
    cases h : isTextD t with
    | true => rfl
    | false => rw [h] at e2; simp at e2
  obtain ⟨zt, rfl⟩ := isTextD_str e2'
  -- the lead
  refine s_cons (s_ifP (b := (!isOneD l leads || (!isOneT l "" && isOneT (.str zk) "reply"))) (ptw (ww_or (ptn (pt_v (pv_def DO hr1 (va_cons (pv_v 3) (va_cons (pv_gtup E.c_LEADS) va_nil)) fun P p => ⟨_, _, rfl, hl, p⟩))) fun e3 => ?_)) (fun e3 => ?_) fun e3 => s_nil ?_)
  · have e3' : isOneD l leads = true := by simpa using e3
    obtain ⟨zl, rfl⟩ := isOneD_str e3'
    exact ww_or1 (ptw (ww_and (pt_cmp op_ne (pv_v 3) pv_str (neV_str _ _)) fun _ => ww_and1 (pt_cmp op_eq (pv_v 1) (pv_gstr E.c_REPLY) (eqV_str _ _))))
  · refine s_one (s_rz tk E.x_InvalidWrite E.ini_InvalidWrite (hr.mono (by decide)) (ea_cons (pv_str _ _ _ (ea_nil ⟨rfl, by decide, ?_⟩))))
    have ef : wFault (.str zk) (.str zt) l e = some ("lead" : Str) := by unfold wFault; rw [if_neg (by rw [e1']; simp), if_neg (by rw [e2]; simp), if_pos e3]
    rw [ef] at q
    exact q
  -- the tail
  refine s_cons (s_ifP (b := (!isOneD e tails || (!isOneT e "" && isOneT (.str zk) "ask"))) (ptw (ww_or (ptn (pt_v (pv_def DO hr1 (va_cons (pv_v 4) (va_cons (pv_gtup E.c_TAILS) va_nil)) fun P p => ⟨_, _, rfl, he, p⟩))) fun e3 => ?_)) (fun e4 => ?_) fun e4 => s_nil ?_)
  · have e3' : isOneD e tails = true := by simpa using e3
    obtain ⟨zl, rfl⟩ := isOneD_str e3'
    exact ww_or1 (ptw (ww_and (pt_cmp op_ne (pv_v 4) pv_str (neV_str _ _)) fun _ => ww_and1 (pt_cmp op_eq (pv_v 1) (pv_gstr E.c_ASK) (eqV_str _ _))))
  · refine s_one (s_rz tk E.x_InvalidWrite E.ini_InvalidWrite (hr.mono (by decide)) (ea_cons (pv_str _ _ _ (ea_nil ⟨rfl, by decide, ?_⟩))))
    have ef : wFault (.str zk) (.str zt) l e = some ("tail" : Str) := by unfold wFault; rw [if_neg (by rw [e1']; simp), if_neg (by rw [e2]; simp), if_neg (by rw [e3]; simp), if_pos e4]
    rw [ef] at q
    exact q
  have ef : wFault (.str zk) (.str zt) l e = none := by unfold wFault; rw [if_neg (by rw [e1']; simp), if_neg (by rw [e2]; simp), if_neg (by rw [e3]; simp), if_neg (by rw [e4]; simp)]
  rw [ef] at q
  -- the slots
  refine s_cons (s_slot (.r J .here) E.k_Write.sc E.s_Write_mode (pv_v 0) (pv_v 1) ?_)
  refine s_cons (s_slot (.r J .here) E.k_Write.sc E.s_Write_signs (pv_v 0) (pv_v 2) ?_)
  refine s_cons (s_slot (.r J .here) E.k_Write.sc E.s_Write_ahead (pv_v 0) (pv_v 3) ?_)
  refine s_one (s_slot (.r J .here) E.k_Write.sc E.s_Write_behind (pv_v 0) (pv_v 4) ?_)
  exact q
end

def wD (K : PySem.W.Frag) (k t l e : Str) : D := .slo (cW K) [.str l, .str e, .str k, .str t]
def sGet {K : PySem.W.Frag} (i : Nat) : Spec K := fun I ds P _ => ∃ (fs : List D) (d : D), ds = [.slo (cW K) fs] ∧ fs[i]? = some d ∧ P d I
def wEq (k t l e k' t' l' e' : Str) : Bool := decide (k = k') && (decide (t = t') && (decide (l = l') && decide (e = e')))
def sWEq {K : PySem.W.Frag} : Spec K := fun I ds P _ => ∃ k t l e : Str, (∃ k' t' l' e' : Str, ds = [wD K k t l e, wD K k' t' l' e'] ∧ P (.bl (wEq k t l e k' t' l' e')) I) ∨ ∃ (d : D) (ty : String), ds = [wD K k t l e, d] ∧ tyD d = some ty ∧ P (.bl false) I
section
variable {P : Program} {w : World} {K : PySem.W.Frag} {mg : Str → Option Value} {base : Heap} {f : Addr} {fd : FuncData}
theorem ok_kind (F : FnP K "kind" "Write.kind" m_Write_kind f fd) (E : Env P w K mg base) : FnOk P w K mg base (L2.CX P w) 1 f fd ["self"] (spD K (sGet 2)) := by
  refine fn_d F sc_m_Write_kind (fun I ds P R h => by obtain ⟨fs, d, rfl, _⟩ := h; rfl) fun cdv A outer s H EE hr tk po I ds Q R h => ?_
  obtain ⟨fs, d, rfl, hd, q⟩ := h
  exact s_one (s_retP (pv_sl E.k_Write.sc E.s_Write_mode (pv_v 0) hd) q)
theorem ok_text (F : FnP K "text" "Write.text" m_Write_text f fd) (E : Env P w K mg base) : FnOk P w K mg base (L2.CX P w) 1 f fd ["self"] (spD K (sGet 3)) := by
  refine fn_d F sc_m_Write_text (fun I ds P R h => by obtain ⟨fs, d, rfl, _⟩ := h; rfl) fun cdv A outer s H EE hr tk po I ds Q R h => ?_
  obtain ⟨fs, d, rfl, hd, q⟩ := h
  exact s_one (s_retP (pv_sl E.k_Write.sc E.s_Write_signs (pv_v 0) hd) q)
theorem ok_lead (F : FnP K "lead" "Write.lead" m_Write_lead f fd) (E : Env P w K mg base) : FnOk P w K mg base (L2.CX P w) 1 f fd ["self"] (spD K (sGet 0)) := by
  refine fn_d F sc_m_Write_lead (fun I ds P R h => by obtain ⟨fs, d, rfl, _⟩ := h; rfl) fun cdv A outer s H EE hr tk po I ds Q R h => ?_
  obtain ⟨fs, d, rfl, hd, q⟩ := h
  exact s_one (s_retP (pv_sl E.k_Write.sc E.s_Write_ahead (pv_v 0) hd) q)
theorem ok_tail (F : FnP K "tail" "Write.tail" m_Write_tail f fd) (E : Env P w K mg base) : FnOk P w K mg base (L2.CX P w) 1 f fd ["self"] (spD K (sGet 1)) := by
  refine fn_d F sc_m_Write_tail (fun I ds P R h => by obtain ⟨fs, d, rfl, _⟩ := h; rfl) fun cdv A outer s H EE hr tk po I ds Q R h => ?_
  obtain ⟨fs, d, rfl, hd, q⟩ := h
  exact s_one (s_retP (pv_sl E.k_Write.sc E.s_Write_behind (pv_v 0) hd) q)
theorem ok_weq (F : FnP K "__eq__" "Write.__eq__" m_Write_eq f fd) (E : Env P w K mg base) : FnOk P w K mg base (L2.CX P w) 1 f fd ["self", "other"] (spD K sWEq) := by
  refine fn_d F sc_m_Write_eq (fun I ds P R h => by obtain ⟨k, t, l, e, ⟨k', t', l', e', rfl, _⟩ | ⟨d, ty, rfl, _⟩⟩ := h <;> rfl) fun cdv A outer s H EE hr tk po I ds Q R h => ?_
  obtain ⟨k, t, l, e, h⟩ := h
  rcases h with ⟨k', t', l', e', rfl, q⟩ | ⟨d, ty, rfl, hty, q⟩
  · refine s_cons (s_ifF (ptn (k := true) (pt_v (pv_cb (SlX.call_isiSl (.ref (cW K))) E.b_isinstance (va_cons (pv_v 1) (va_cons (pv_gref E.g_Write) va_nil)) (pn_isiSl E.k_Write.sc E.k_Write.si E.k_Write.kW)))) (s_nil ?_))
    refine s_cons (s_ifP (b := (!decide (k = k') || !decide (t = t'))) (ptw (ww_or (pt_cmp op_ne (pv_sl E.k_Write.sc E.s_Write_mode (pv_v 0) rfl) (pv_sl E.k_Write.sc E.s_Write_mode (pv_v 1) rfl) (neV_str k k')) fun _ => ww_or1 (pt_cmp op_ne (pv_sl E.k_Write.sc E.s_Write_signs (pv_v 0) rfl) (pv_sl E.k_Write.sc E.s_Write_signs (pv_v 1) rfl) (neV_str t t')))) (fun e1 => ?_) fun e1 => s_nil ?_)
    · refine s_one (s_retP pv_bl ?_)
      have e2 : wEq k t l e k' t' l' e' = false := by
        unfold wEq
        rcases Bool.or_eq_true_iff.mp e1 with h | h
        · simp only [Bool.not_eq_true'] at h; rw [h]; rfl
        · simp only [Bool.not_eq_true'] at h; rw [h]; simp
      rw [e2] at q
      exact q
    · obtain ⟨h1, h2⟩ := Bool.or_eq_false_iff.mp e1
      have e2 : wEq k t l e k' t' l' e' = (decide (l = l') && decide (e = e')) := by
        unfold wEq
        simp only [Bool.not_eq_false'] at h1 h2
        rw [h1, h2]; rfl
      rw [e2] at q
      exact s_one (s_retP (pv_andB (pv_cmp op_eq (pv_sl E.k_Write.sc E.s_Write_ahead (pv_v 0) rfl) (pv_sl E.k_Write.sc E.s_Write_ahead (pv_v 1) rfl) (eqV_str l l')) fun _ => pv_one (pv_cmp op_eq (pv_sl E.k_Write.sc E.s_Write_behind (pv_v 0) rfl) (pv_sl E.k_Write.sc E.s_Write_behind (pv_v 1) rfl) (eqV_str e e'))) q)
  · exact s_cons (s_ifT (ptn (k := false) (pt_v (pv_cb call_isi E.b_isinstance (va_cons (pv_v 1) (va_cons (pv_gref E.g_Write) va_nil)) (pn_isiO hty (E.k_Write.kT _ (tyD_in hty)))))) (s_one (s_retP pv_bl q)))
end
abbrev psW : List Str := ["self", "kind", "text", "lead", "tail"]
section
variable {P : Program} {w : World} {K : PySem.W.Frag} {mg : Str → Option Value} {base : Heap}
theorem D_is_text (E : Env P w K mg base) : Def P w K mg base "is_text" 1 ["value"] [] sIsText := mk_f_is_text E fun fd F => ok_is_text F E
theorem D_is_one_of (E : Env P w K mg base) : Def P w K mg base "is_one_of" 1 ["value", "words"] [] sIsOne := mk_f_is_one_of E fun fd F => ok_is_one_of F E
theorem M_wInit (E : Env P w K mg base) : ∃ fI : FuncData, FnOk P w K mg base (L2.CX P w) 3 (He.ma K (cW K) "__init__") fI psW (spD K sWInit) ∧ (∃ g, KBn K fI psW 3 ["lead", "tail"] g fun vs zs => vs ++ zs) ∧ (∃ g, KBn K fI psW 3 ["tail", "lead"] g fun vs zs => vs ++ zs.reverse) ∧
    ∃ g, KBn K fI psW 3 [] g fun vs _ => vs ++ [V.str "", V.str ""] := by
  obtain ⟨fI, F3⟩ := E.has _ in_m_Write_init
  obtain ⟨_, b1⟩ := FunD.kbinds0 (ps := psW) F3 3 ["lead", "tail"] [] (fun us _ ws => us ++ ws) (by simp [He.DefD.kws, dM, d_m_Write_init]) (fun q hq => by simp at hq) (fun r1 _ r3 => r1.append r3) fun D doc pm an cdv ct us mv ws h1 h2 h3 => by
    match us, mv, ws, h1, h2, h3 with
    | [_, _, _], [], [_, _], _, _, _ => rfl
  obtain ⟨_, b2⟩ := FunD.kbinds0 (ps := psW) F3 3 ["tail", "lead"] [] (fun us _ ws => us ++ ws.reverse) (by simp [He.DefD.kws, dM, d_m_Write_init]) (fun q hq => by simp at hq) (fun r1 _ r3 => r1.append r3.reverse) fun D doc pm an cdv ct us mv ws h1 h2 h3 => by
    match us, mv, ws, h1, h2, h3 with
    | [_, _, _], [], [_, _], _, _, _ => rfl
  obtain ⟨_, b0⟩ := FunD.kbinds0 (ps := psW) F3 3 [] [("lead", V.str ""), ("tail", V.str "")] (fun us ms _ => us ++ ms) (by simp [He.DefD.kws, dM, d_m_Write_init]) (fun q hq => by simpa [He.DefD.kws, dM, d_m_Write_init, He.Dv.v] using hq) (fun r1 r2 _ => r1.append r2) fun D doc pm an cdv ct us mv ws h1 h2 h3 => by
    match us, mv, ws, h1, h2, h3 with
    | [_, _, _], [_, _], [], _, _, _ => exact ⟨_, _, _, _, _, _, rfl, rfl, _, _, _, _, _, _, rfl, rfl, rfl⟩
  exact ⟨fI, ok_wInit F3 E (D_is_text E) (D_is_one_of E), ⟨_, b1⟩, ⟨_, b2⟩, ⟨_, b0⟩⟩
theorem M_kind (E : Env P w K mg base) : FnR P w K mg base (L2.CX P w) 1 (gtr K (cW K) "kind") (spD K (sGet 2)) := mk_m_Write_kind E fun fd F => ok_kind F E
theorem M_text (E : Env P w K mg base) : FnR P w K mg base (L2.CX P w) 1 (gtr K (cW K) "text") (spD K (sGet 3)) := mk_m_Write_text E fun fd F => ok_text F E
theorem M_lead (E : Env P w K mg base) : FnR P w K mg base (L2.CX P w) 1 (gtr K (cW K) "lead") (spD K (sGet 0)) := mk_m_Write_lead E fun fd F => ok_lead F E
theorem M_tail (E : Env P w K mg base) : FnR P w K mg base (L2.CX P w) 1 (gtr K (cW K) "tail") (spD K (sGet 1)) := mk_m_Write_tail E fun fd F => ok_tail F E
theorem M_weq (E : Env P w K mg base) : FnR P w K mg base (L2.CX P w) 1 (He.ma K (cW K) "__eq__") (spD K sWEq) := mk_m_Write_eq E fun fd F => ok_weq F E
end
structure GoodW (k t l e : Str) : Prop where
  gk : k ∈ kinds
  gl : l ∈ leads
  ge : e ∈ tails
  gr : k = "reply" → l = ""
  ga : k = "ask" → e = ""
  gn : k = "ask" ∨ k = "reply" → 0 < t.length
  gs : ∀ c ∈ t.cps.toList, c ∈ SIGNS.cps.toList
theorem strOk_of {t : Str} (h : ∀ c ∈ t.cps.toList, c ∈ SIGNS.cps.toList) : PyData.strOk t = true := by
  unfold PyData.strOk
  rw [← Array.all_toList]
  refine List.all_eq_true.mpr fun c hc => ?_
  have k : ∀ c ∈ SIGNS.cps.toList, (decide (c < 1114112)) = true := by decide +kernel
  exact k c (h c hc)
theorem len_of {xs : List Str} {n : Nat} (h : xs.all (fun x => decide (x.length ≤ n)) = true) {x : Str} (hx : x ∈ xs) : x.length ≤ n := of_decide_eq_true (List.all_eq_true.mp h x hx)
theorem sok_of {xs : List Str} (h : xs.all (fun x => PyData.strOk x) = true) {x : Str} (hx : x ∈ xs) : PyData.strOk x = true := List.all_eq_true.mp h x hx
section
variable {k t l e : Str}
theorem GoodW.none (g : GoodW k t l e) (h : t.length ≤ 40) : wFault (.str k) (.str t) (.str l) (.str e) = none := by
  have h1 : isOneD (.str k) kinds = true := decide_eq_true g.gk
  have h2 : isTextD (.str t) = true := by
    show (decide (t.length ≤ 40) && t.cps.toList.all fun c => decide (c ∈ SIGNS.cps.toList)) = true
    rw [decide_eq_true h, Bool.true_and]
    exact List.all_eq_true.mpr fun c hc => decide_eq_true (g.gs c hc)
  have h3 : isOneD (.str l) leads = true := decide_eq_true g.gl
  have h4 : isOneD (.str e) tails = true := decide_eq_true g.ge
  unfold wFault
  rw [h1, h2, h3, h4, if_neg (by simp), if_neg, if_neg, if_neg]
  · simp only [isOneT, Bool.not_true, Bool.false_or, Bool.and_eq_true, Bool.not_eq_true', decide_eq_false_iff_not, decide_eq_true_eq, not_and]
    exact fun h5 h6 => h5 (g.ga h6)
  · simp only [isOneT, Bool.not_true, Bool.false_or, Bool.and_eq_true, Bool.not_eq_true', decide_eq_false_iff_not, decide_eq_true_eq, not_and]
    exact fun h5 h6 => h5 (g.gr h6)
  · simp only [isOneT, isOneD, Bool.not_true, Bool.false_or, Bool.and_eq_true, decide_eq_true_eq, not_and]
    intro h5 h6
    have h7 := g.gn (by simpa using h6)
    rw [h5] at h7
    exact absurd h7 (by decide)
theorem GoodW.okk (g : GoodW k t l e) : okV (.str k) := ⟨⟨_, rfl⟩, fun s z => by cases z; exact len_of (by decide +kernel) g.gk⟩
theorem GoodW.okl (g : GoodW k t l e) : okV (.str l) := ⟨⟨_, rfl⟩, fun s z => by cases z; exact len_of (by decide +kernel) g.gl⟩
theorem GoodW.oke (g : GoodW k t l e) : okV (.str e) := ⟨⟨_, rfl⟩, fun s z => by cases z; exact len_of (by decide +kernel) g.ge⟩
theorem GoodW.okt (h : t.length ≤ 40) : okV (.str t) := ⟨⟨_, rfl⟩, fun s z => by cases z; omega⟩
theorem GoodW.bare (g : GoodW k t l e) : GoodW k t "" "" := ⟨g.gk, by decide +kernel, by decide +kernel, fun _ => rfl, fun _ => rfl, g.gn, g.gs⟩
theorem GoodW.okEq (g : GoodW k t l e) : okEq (.tup [.str k, .str t, .str l, .str e]) = true := by
  have e0 : PyData.canLay0 (pyD (.tup [.str k, .str t, .str l, .str e])) = (PyData.strOk k && (PyData.strOk t && (PyData.strOk l && (PyData.strOk e && true)))) := rfl
  have e1 : PyData.depth (pyD (.tup [.str k, .str t, .str l, .str e])) = 1 := rfl
  show (true && (PyData.canLay0 (pyD (.tup [.str k, .str t, .str l, .str e])) && decide (PyData.depth (pyD (.tup [.str k, .str t, .str l, .str e])) ≤ 64))) = true
  rw [e0, e1, sok_of (xs := kinds) (by decide +kernel) g.gk, strOk_of g.gs, sok_of (xs := leads) (by decide +kernel) g.gl, sok_of (xs := tails) (by decide +kernel) g.ge]
  rfl
end
section
variable {X : Cx} {I : Iv X.K} {a b c d e : Expr} {δ : DEnv} {pos p q1 q2 : Pos} {k t l e' : Str}
theorem pv_write (E : Env X.prog X.w X.K X.mg X.base) (hr : Room 4 X.A) (ha : PV X I a δ (.str k)) (hb : PV X I b δ (.str t)) (hl : PV X I c δ (.str l)) (he : PV X I d δ (.str e')) (g : GoodW k t l e') (h : t.length ≤ 40) (hg : Gl X "Write" := by rfl)
    (hall : (backToKw pos (keywordEach [⟨some "lead", c, q1⟩, ⟨some "tail", d, q2⟩] X.env)).all (·.1.isSome) = true := by rfl) (hks : (backToKw pos (keywordEach [⟨some "lead", c, q1⟩, ⟨some "tail", d, q2⟩] X.env)).filterMap (·.1) = (["lead", "tail"] : List Str) := by rfl)
    (h1 : starEach [a, b] X.env = (false, eval a X.env) :: starEach [b] X.env := by rfl) (h2 : starEach [b] X.env = (false, eval b X.env) :: starEach [] X.env := by rfl)
    (hpl : ((backTo pos (starEach [a, b] X.env)).any (·.1) || (backToKw pos (keywordEach [⟨some "lead", c, q1⟩, ⟨some "tail", d, q2⟩] X.env)).any (·.1.isNone)) = false := by rfl) : PV X I (.Call (.Name "Write" p) [a, b] [⟨some "lead", c, q1⟩, ⟨some "tail", d, q2⟩] pos) δ (wD X.K k t l e') := fun W R P pp => by
  obtain ⟨fI, F, ⟨_, b1⟩, _, _⟩ := M_wInit E
  refine EvX.weak (ev_makeSl (fun ds zs => ds ++ zs) takesF E.m_Write F hr E.g_Write b1 (fun r1 r2 => r1.append r2) (ea_cons (ha.ev (ea_cons (hb.ev (ea_nil (ek_cons (hl.ev (ek_cons (he.ev (ek_nil ⟨rfl, rfl, fun y dy na => ?_⟩))))))) h2)) h1) hg (by decide) hall hks h1 hpl)
  refine ⟨y, dy, I, .str k, .str t, .str l, .str e', rfl, rfl, g.okk, GoodW.okt h, g.okl, g.oke, ?_⟩
  rw [g.none h]
  exact ⟨rfl, [.str l, .str e', .str k, .str t], rfl, pp⟩
theorem pv_wkind (E : Env X.prog X.w X.K X.mg X.base) (hr : Room 2 X.A) (ha : PV X I a δ (wD X.K k t l e')) (hb : attributeBase a "kind" X.env (eval a X.env) = eval a X.env := by rfl) : PV X I (.Attribute a "kind" pos) δ (.str k) := pv_prop E.k_Write.sc E.p_Write_kind (M_kind E) hr ha (fun P p => ⟨_, _, rfl, rfl, p⟩) hb
theorem pv_wtext (E : Env X.prog X.w X.K X.mg X.base) (hr : Room 2 X.A) (ha : PV X I a δ (wD X.K k t l e')) (hb : attributeBase a "text" X.env (eval a X.env) = eval a X.env := by rfl) : PV X I (.Attribute a "text" pos) δ (.str t) := pv_prop E.k_Write.sc E.p_Write_text (M_text E) hr ha (fun P p => ⟨_, _, rfl, rfl, p⟩) hb
theorem pv_wlead (E : Env X.prog X.w X.K X.mg X.base) (hr : Room 2 X.A) (ha : PV X I a δ (wD X.K k t l e')) (hb : attributeBase a "lead" X.env (eval a X.env) = eval a X.env := by rfl) : PV X I (.Attribute a "lead" pos) δ (.str l) := pv_prop E.k_Write.sc E.p_Write_lead (M_lead E) hr ha (fun P p => ⟨_, _, rfl, rfl, p⟩) hb
theorem pv_wtail (E : Env X.prog X.w X.K X.mg X.base) (hr : Room 2 X.A) (ha : PV X I a δ (wD X.K k t l e')) (hb : attributeBase a "tail" X.env (eval a X.env) = eval a X.env := by rfl) : PV X I (.Attribute a "tail" pos) δ (.str e') := pv_prop E.k_Write.sc E.p_Write_tail (M_tail E) hr ha (fun P p => ⟨_, _, rfl, rfl, p⟩) hb
end
end LK
set_option Elab.async false
set_option linter.all false
set_option maxRecDepth 100000
set_option maxHeartbeats 4000000
namespace DL
open PySem PySem.Spec PyProof.Rows L2
abbrev TsA := Addr → Value → Option Addr → TS
structure AsC (X : Cx) (hd : ExceptHandler) (q : Value × Nat × TsA) : Prop where
  e : ∃ (x n : Str) (b0 : Stmt) (su : List Stmt) (p1 p2 : Pos), hd = .ExceptHandler (some (.Name x p1)) (some n) (b0 :: su) p2 ∧ Names X x q.1 ∧ X.N[q.2.1]? = some n ∧ X.env.kindOf n = some .local ∧
    ∀ (p : Addr) (o : Obj) (C : Value) (dd : Option Addr) (pn : List (Addr × Obj)), Zc C dd o → (∃ fv, o.data = .fields fv) → PSs (X.suite p ((p, o) :: pn)) (b0 :: su) (q.2.2 p C dd)
inductive AsAll (X : Cx) : List ExceptHandler → List (Value × Nat × TsA) → Prop
  | nil : AsAll X [] []
  | cons {h : ExceptHandler} {q : Value × Nat × TsA} {hs : List ExceptHandler} {l : List (Value × Nat × TsA)} : AsC X h q → AsAll X hs l → AsAll X (h :: hs) (q :: l)
section
variable {X : Cx} {sts : List Stmt} {h0 : ExceptHandler} {hds : List ExceptHandler} {l : List (Value × Nat × TsA)} {pos : Pos} {tb : WX → TS} {Wo : WX}
end
inductive ClsAll (X : Cx) : List ExceptHandler → List (Value × Nat × List Stmt) → Prop
  | nil : ClsAll X [] []
  | cons {x n : Str} {c : Value} {i : Nat} {b0 : Stmt} {su : List Stmt} {p1 p2 : Pos} {hs : List ExceptHandler} {m : List (Value × Nat × List Stmt)} (nm : Names X x c) (r : ClsAll X hs m) (hi : X.N[i]? = some n := by rfl) (hln : X.env.kindOf n = some .local := by rfl) : ClsAll X (.ExceptHandler (some (.Name x p1)) (some n) (b0 :: su) p2 :: hs) ((c, i, b0 :: su) :: m)
def tsA (X : Cx) (sts : List Stmt) : TsA := fun a cls d D σ H => ∀ (oe : Obj) (pn : List (Addr × Obj)), Zc cls d oe → (∃ vs, oe.data = .fields vs) → wpB (X.suite a ((a, oe) :: pn)) sts D σ H
theorem ClsAll.as {X : Cx} : ∀ {hs : List ExceptHandler} {m : List (Value × Nat × List Stmt)}, ClsAll X hs m → AsAll X hs (m.map fun q => (q.1, q.2.1, tsA X q.2.2))
  | _, _, .nil => .nil
  | _, _, .cons nm r hi hln => .cons ⟨⟨_, _, _, _, _, _, rfl, nm, hi, hln, fun p o C dd pn hz hf => ⟨fun pins s σ H D J q => (q o pn hz hf).run pins s J⟩⟩⟩ r.as
section
variable {X : Cx} {δ : DEnv} {I : Iv X.K} {W : WX} {κ : Ko X.K} {body : List Stmt} {h0 : ExceptHandler} {hds : List ExceptHandler} {m : List (Value × Nat × List Stmt)} {pos : Pos}
end
end DL
set_option Elab.async false
set_option linter.all false
set_option maxRecDepth 100000
set_option maxHeartbeats 4000000
namespace L2
open PySem PySem.Spec PyProof.Rows NdefX LamX
def cellO (c a : Addr) : HO := .ext fun h => h.IsCell c (some (.ref a))
abbrev CLs := List (Addr × Addr)
def clT (H : Hp) (cs : CLs) : Hp := fun b => match cs.lookup b with
  | some a => some (cellO b a)
  | none => H b
def clU (H : Hp) (cs : CLs) : Hp := fun b => match cs.lookup b with
  | some _ => none
  | none => H b
section
variable {P : Program} {w : World} {H H' : Hp} {h h' : Heap} {cs : CLs} {fs ex : List Addr} {b : Addr}
theorem clT_off (e : cs.lookup b = none) : clT H cs b = H b := by unfold clT; rw [e]
theorem clU_off (e : cs.lookup b = none) : clU H cs b = H b := by unfold clU; rw [e]
theorem clU_on {a : Addr} (e : cs.lookup b = some a) : clU H cs b = none := by unfold clU; rw [e]
theorem clU_some {o : HO} (e : clU H cs b = some o) : H b = some o ∧ cs.lookup b = none := by
  cases q : cs.lookup b with
  | none => rw [clU_off q] at e; exact ⟨e, rfl⟩
  | some a => rw [clU_on q] at e; cases e
theorem clU_none (e : H b = none) : clU H cs b = none := by
  cases q : cs.lookup b with
  | none => rw [clU_off q]; exact e
  | some a => exact clU_on q
theorem off_of {o : HO} (hc : ∀ b a, cs.lookup b = some a → H b = none) (e : H b = some o) : cs.lookup b = none := by
  cases q : cs.lookup b with
  | none => rfl
  | some a => rw [hc b a q] at e; cases e
theorem HOk.opened (x : HOk P w H h) (hc : ∀ b a, cs.lookup b = some a → H b = some (cellO b a)) : HOk P w (clU H cs) h := fun b o e => by
  obtain ⟨e1, _⟩ := clU_some e
  have off : ∀ {c : Addr} {u : HO}, H c = some u → (∀ a, u ≠ cellO c a) → clU H cs c = some u := fun {c u} q ne => by
    cases z : cs.lookup c with
    | none => rw [clU_off z]; exact q
    | some a => rw [hc c a z] at q; exact absurd (Option.some.inj q).symm (ne a)
  exact (x b o e1).stay (fun _ _ _ z => z) (fun _ z => off z fun a e => nomatch e) fun _ _ z => off z fun a e => nomatch e
theorem Un.back (u : Un fs ex (clU H cs) H' h h') (hc : ∀ b a, cs.lookup b = some a → H b = some (cellO b a)) (hx : ∀ b a, cs.lookup b = some a → b ∉ ex) (ho : ∀ b a, cs.lookup b = some a → ∃ o, h.get? b = some o) : Un fs ex H (clT H' cs) h h' := by
  have n : ∀ {b a : Addr}, cs.lookup b = some a → H' b = none := fun {b a} q => by
    obtain ⟨o, e⟩ := ho b a q
    exact u.free b o e (clU_on q) (hx b a q)
  have back : ∀ {c : Addr} {o : HO}, H c = some o → (∀ a, o ≠ cellO c a) → clU H cs c = some o := fun {c o} q ne => by
    cases z : cs.lookup c with
    | none => rw [clU_off z]; exact q
    | some a => rw [hc c a z] at q; exact absurd (Option.some.inj q).symm (ne a)
  have off : ∀ {c : Addr} {o : HO}, H' c = some o → clT H' cs c = some o := fun {c o} q => (clT_off (off_of (fun b a z => n z) q)).trans q
  refine ⟨fun b o e z => u.keep b o e (clU_none z), fun b o e z => u.slot b o e (clU_none z), fun b o e z x => ?_, u.there, fun b xs e => off (u.tups b xs (back e fun a z => nomatch z)), fun b o v e => off (u.frzs b o v (back e fun a z => nomatch z)), fun b ps e => ?_⟩
  · cases q : cs.lookup b with
    | none => rw [clT_off q]; exact u.free b o e (clU_none z) x
    | some a => rw [hc b a q] at z; cases z
  · obtain ⟨more, q⟩ := u.tbls b ps (back e fun a z => nomatch z)
    exact ⟨more, off q⟩
end
section
variable {P : Program} {w : World} {K : PySem.W.Frag} {mg : Str → Option Value} {base : Heap} {A : Around} {outer : List Env} {s s' : Shared} {H : Hp} {cs : CLs}
theorem Env0.opened (e : Env0 P w K mg base A outer s H) (hc : ∀ b a, cs.lookup b = some a → H b = some (cellO b a)) : Env0 P w K mg base A outer s (clU H cs) :=
  ⟨e.frames, e.mod, fun b o q => ⟨(e.bs b o q).1, clU_none (e.bs b o q).2⟩, e.bsz, e.funs, fun b q => clU_none (e.frf b q), e.hok.opened hc, e.bare⟩
end
end L2
set_option Elab.async false
set_option linter.all false
set_option maxRecDepth 100000
set_option maxHeartbeats 4000000
namespace L2
open PySem PySem.Spec PyProof.Rows NdefX LamX
section
variable {X : Cx} {pins : List (Addr × Obj)} {z : L2.St} {H : Hp} {s : Shared}
end
def TabA (G : Hp) (q : Str) (ps : Array Value) : Prop := TriplesOk ps.toList ∧ ∀ (pos : Pos) (cv : Value), codeAmong pos ps.toList = some cv → ∃ d, cv = .ref d ∧ G d = some (CodeO d q)
theorem TabA.nil {G : Hp} {q : Str} : TabA G q #[] := ⟨True.intro, fun pos cv h => nomatch (show codeAmong pos [] = some cv from h)⟩
theorem TabA.mono {G G' : Hp} {q : Str} {ps : Array Value} (t : TabA G q ps) (s : ∀ b o, G b = some o → G' b = some o) : TabA G' q ps := ⟨t.1, fun pos cv h => by
  obtain ⟨d, e, hd⟩ := t.2 pos cv h
  exact ⟨d, e, s _ _ hd⟩⟩
theorem TabA.add {G G' : Hp} {q : Str} {ps : Array Value} {pos : Pos} {d : Addr} (t : TabA G q ps) (s : ∀ b o, G b = some o → G' b = some o) (hd : G' d = some (CodeO d q)) : TabA G' q (ps ++ #[rawInt pos.line, rawInt pos.col, .ref d]) := by
  have eL : (ps ++ #[rawInt pos.line, rawInt pos.col, .ref d]).toList = ps.toList ++ [rawInt pos.line, rawInt pos.col, .ref d] := by simp
  refine ⟨by rw [eL]; exact PySem.TriplesOk_snoc _ _ _ _ t.1, fun p cv h => ?_⟩
  rw [eL] at h
  rcases among_app2 _ t.1 h with k | ⟨k, _, _⟩
  · exact (t.mono s).2 p cv k
  · exact ⟨d, k, hd⟩
end L2
set_option Elab.async false
set_option linter.all false
set_option maxRecDepth 100000
set_option maxHeartbeats 4000000
namespace DL
open PySem PySem.Spec PyProof.Rows L2
def putN (kds : List (NestedKey × D)) (k : NestedKey) : List (NestedKey × D) := if (getN kds k).isSome then kds else kds ++ [(k, .bl true)]
def AllT (kds : List (NestedKey × D)) : Prop := ∀ p ∈ kds, p.2 = .bl true
theorem AllT.put {kds : List (NestedKey × D)} {k : NestedKey} (h : AllT kds) : AllT (putN kds k) := by
  unfold putN
  split
  · exact h
  · intro p hp
    rcases List.mem_append.mp hp with hp | hp
    · exact h p hp
    · rw [List.mem_singleton.mp hp]
theorem getN_mem {kds : List (NestedKey × D)} {k : NestedKey} {d : D} (h : getN kds k = some d) : ∃ p ∈ kds, p.2 = d := by
  unfold getN at h
  obtain ⟨p, hp, e⟩ := Option.map_eq_some_iff.mp h
  exact ⟨p, List.mem_of_find?_eq_some hp, e⟩
theorem MR.all {K : PySem.W.Frag} {G : Hp} {k : NestedKey} {u : Value} (hu : RelV (.bl true) u) : ∀ {kds : List (NestedKey × D)} {xs : L2.MX}, AllT kds → MR K G kds xs → MR K G kds (xs.map (putAt k u))
  | [], _, _, h => by rw [show _ = [] from h]; rfl
  | p :: r, _, t, ⟨a, v, u', rest, e, h1, h2, h3, h4, h5⟩ => by
    have hr := MR.all (k := k) hu (fun q hq => t q (List.mem_cons_of_mem _ hq)) h5
    have e1 := t p List.mem_cons_self
    subst e
    rw [List.map_cons]
    unfold putAt
    by_cases hk : p.1 = k
    · rw [if_pos hk]
      exact ⟨a, .bl true, u, _, rfl, h1, h2, hu, by rw [e1]; rfl, hr⟩
    · rw [if_neg hk]
      exact ⟨a, v, u', _, rfl, h1, h2, h3, h4, hr⟩
section
variable {X : Cx} {W : WX} {κ : Ko X.K} {kx tg iter c e : Expr} {scope : Scope} {δ : DEnv} {I : Iv X.K} {pos : Pos} {p : Addr} {sts : List Stmt}
end
def iKeys (P : Program) (w : World) (K : PySem.W.Frag) (q : Addr) (F : KF) (kds : List (NestedKey × D)) : Iv K := iObj K q (fun G o => o = keysO P w q F ∧ MR K G kds F.xs) fun _ _ _ s ⟨h1, h2⟩ => ⟨h1, h2.mono s⟩
structure KeI {K : PySem.W.Frag} (P : Program) (w : World) (I : Iv K) (q : Addr) (F : KF) (kds : List (NestedKey × D)) : Prop where
  h : ∀ (G H : Hp), Same G H → Hd I G H → H q = some (keysO P w q F) ∧ MR K G kds F.xs
section
variable {P : Program} {w : World} {K : PySem.W.Frag} {q : Addr} {F : KF} {kds : List (NestedKey × D)} {I J : Iv K}
theorem KeI.wk (h : KeI P w I q F kds) (k : Wk J I) : KeI P w J q F kds := ⟨fun G H s hd => h.h G H s (hd.wk k)⟩
theorem KeI.m (c : Rc K) : KeI P w (c.fill (iKeys P w K q F kds)) q F kds := ⟨fun G H s hd => by
  obtain ⟨o, ho, e, r⟩ := hd.inner.ph
  subst e
  exact ⟨ho, r⟩⟩
end
section
variable {X : Cx} {W : WX} {R : Rx X.K} {κ : Ko X.K} {tg iter : Expr} {δ : DEnv} {I : Iv X.K} {q : Addr} {F : KF} {kds : List (NestedKey × D)} {sts : List Stmt} {PP : List D → (Iv X.K → Prop) → Iv X.K → Prop}
end
end DL
set_option Elab.async false
set_option linter.all false
set_option maxRecDepth 100000
set_option maxHeartbeats 4000000
namespace DL
open PySem PySem.Spec PyProof.Rows L2
structure WkI (X : Cx) (tg iter : Expr) (δ : DEnv) (I : Iv X.K) (ds : List D) (Ok : Iv X.K → Prop) : Prop where
  ok : Ok I
  h : ∀ (W : WX) (R : Rx X.K) (PP : List D → (Iv X.K → Prop) → Iv X.K → Prop), PP ds Ok I → EvIR X W R tg iter δ I PP
section
variable {X : Cx} {W : WX} {R : Rx X.K} {κ : Ko X.K} {elt tg iter c e : Expr} {scope : Scope} {body : List Stmt} {δ : DEnv} {I : Iv X.K} {pos p2 : Pos} {p : Addr} {ds : List D} {Ok : Iv X.K → Prop}
end
end DL
set_option Elab.async false
set_option linter.all false
set_option maxRecDepth 100000
set_option maxHeartbeats 4000000
namespace DL
open PySem PySem.Spec PyProof.Rows L2 NdefX LamX
def iFnO (K : PySem.W.Frag) (f : Addr) (F : NF) : Iv K := iObj K f (fun G o => o = FnO f F ∧ G F.c = some (CodeO F.c F.qual)) fun _ _ _ s ⟨h1, h2⟩ => ⟨h1, s _ _ h2⟩
section
variable {X : Cx} {W : WX} {R : Rx X.K} {κ : Ko X.K} {δ : DEnv} {I : Iv X.K}
end
section
variable {P : Program} {w : World} {K : PySem.W.Frag} {mg : Str → Option Value} {base : Heap}
end
end DL
set_option Elab.async false
set_option linter.all false
set_option maxRecDepth 100000
set_option maxHeartbeats 4000000
namespace L2
open PySem PySem.Spec PyProof.Rows NdefX LamX
structure CloOk (F : NF) (fr : List Str) (cs : CLs) (as : List Addr) : Prop where
  len : as.length = fr.length
  all : ∀ y c, F.cl.lookup y = some c → ∃ a, cs.lookup c = some a
  inj : ∀ x y c, F.cl.lookup x = some c → F.cl.lookup y = some c → x = y
  has : ∀ (i : Nat) (y : Str), fr[i]? = some y → ∃ c a, F.cl.lookup y = some c ∧ cs.lookup c = some a ∧ as[i]? = some a
section
variable {X : Cx} {F : NF} {ps fr : List Str} {i j k : Nat} {x : Str} {cs : CLs} {as : List Addr} {sp : List (Option V) → Sp} {t : TA} {e : Expr} {es : List Expr} {p pos : Pos}
end
end L2
namespace DL
open PySem PySem.Spec PyProof.Rows L2 NdefX LamX
def iCells (K : PySem.W.Frag) (cs : CLs) : Iv K := ⟨fun b => ∃ a, cs.lookup b = some a, fun G H => ∀ b a, cs.lookup b = some a → H b = some (cellO b a), fun G G' H H' s k h b a e => (k b ⟨a, e⟩).trans (h b a e), fun G H h b ⟨a, e⟩ => by rw [h b a e]; exact fun z => nomatch z⟩
structure FoI {K : PySem.W.Frag} (I : Iv K) (f : Addr) (F : NF) : Prop where
  h : ∀ G H, Same G H → Hd I G H → H f = some (FnO f F) ∧ H F.c = some (CodeO F.c F.qual) ∧ I.F f
theorem FoI.m {K : PySem.W.Frag} {f : Addr} {F : NF} (c : Rc K) : FoI (c.fill (iFnO K f F)) f F := ⟨fun G H s h => by
  obtain ⟨o, ho, e, g⟩ := h.inner.ph
  subst e
  exact ⟨ho, s _ _ g, fill_in c f rfl⟩⟩
section
variable {X : Cx} {W : WX} {R : Rx X.K} {P : D → Iv X.K → Prop} {δ : DEnv} {I : Iv X.K} {F : NF} {f : Addr} {ps fr : List Str} {i j k : Nat} {x : Str} {S : Spec X.K} {e : Expr} {es : List Expr} {p pos : Pos}
end
end DL
set_option Elab.async false
set_option linter.all false
set_option maxRecDepth 100000
set_option maxHeartbeats 4000000
namespace L2
open PySem PySem.Spec PyProof.Rows NdefX LamX
section
variable {P : Program} {w : World} {K : PySem.W.Frag} {mg : Str → Option Value} {base : Heap} {x qual : Str} {params : Arguments} {body : List Stmt} {scope : Scope} {dvs : List V} {kws : List (Str × V)} {f : Addr} {fd : FuncData}
end
end L2
set_option Elab.async false
set_option linter.all false
set_option maxRecDepth 100000
set_option maxHeartbeats 4000000
namespace L2
open PySem PySem.Spec PyProof.Rows NdefX LamX
end L2
namespace DL
open PySem PySem.Spec PyProof.Rows L2 NdefX LamX
structure CloD (X : Cx) (j : Nat) (δ : DEnv) (I : Iv X.K) (Q : D → Iv X.K → Prop) : Prop where
  h : ∃ (f : Addr) (F : NF) (fr : List Str) (js : List Nat) (as : List Addr), δ[j]? = some (some (.adr f)) ∧ FoI I f F ∧ (X.Ok → Caps X F.cl fr js) ∧ fr.Nodup ∧ (∀ y c, F.cl.lookup y = some c → y ∈ fr) ∧ js.map (fun j => δ[j]?) = as.map (fun a => some (some (.adr a))) ∧ ∀ cs, CloOk F fr cs as → cs.lookup F.c = none → Q (.adr f) (I.and (iCells X.K cs))
section
variable {P : Program} {w : World} {K : PySem.W.Frag} {mg : Str → Option Value} {base : Heap} {x qual y : Str} {params : Arguments} {a b : Stmt} {scope : Scope} {dvs : List V} {kws : List (Str × V)} {f0 : Addr} {fd : FuncData} {p p2 : Pos}
end
end DL
set_option Elab.async false
set_option linter.all false
set_option maxRecDepth 100000
set_option maxHeartbeats 4000000
namespace L2
open PySem PySem.Spec PyProof.Rows NdefX LamX
def LaO (f : Addr) (F : NF) (be : Expr) : HO := .ext fun h => ∃ (od : Option Addr) (sl : Array (Option Value)) (pm ctv : Value), h.get? f = some (⟨.type "function", od, .func (PySem.W.kla_fn F.name F.qual F.params be F.scope F.cl pm (.ref F.c) ctv), sl⟩ : Obj)
section
variable {X : Cx} {pins : List (Addr × Obj)} {z : L2.St} {H : Hp} {s : Shared}
end
structure LOk (P : Program) (w : World) (K : PySem.W.Frag) (mg : Str → Option Value) (base : Heap) (CX : CXT) (k : Nat) (f : Addr) (F : NF) (be : Expr) (ps : List Str) (sp : Sp) : Prop where
  len : ∀ vs H Q E, sp vs H Q E → vs.length = ps.length
  run : ∀ (A : Around) (outer : List Env) (s : Shared) (H : Hp) (us : List Value) (vs : List V) (Q : VK) (E : XK), Room k A → Env0 P w K mg base A outer s H → H f = some (LaO f F be) → H F.c = some (CodeO F.c F.qual) →
    Vals vs us → sp vs H Q E → codeAny (model P w) A (.call (.ref f) ⟨us, []⟩) (CR CX outer P w H s Q E) s
section
variable {CX : CXT} {P : Program} {w : World} {K : PySem.W.Frag} {mg : Str → Option Value} {base : Heap} {N ps : List Str} {F : NF} {be : Expr} {f : Addr} {k j : Nat} {sp : Sp}
end
section
variable {X : Cx} {F : NF} {be : Expr} {ps fr : List Str} {i j k : Nat} {x : Str} {cs : CLs} {as : List Addr} {sp : Sp} {spn : List (Option V) → Sp} {t : TEw} {e : Expr} {p pos : Pos}
end
end L2
set_option Elab.async false
set_option linter.all false
set_option maxRecDepth 100000
set_option maxHeartbeats 4000000
namespace DL
open PySem PySem.Spec PyProof.Rows L2 NdefX LamX
structure wpN (X : Cx) (e : Expr) (σ : L2.St) (H : Hp) (Q : V → L2.St → Hp → Prop) : Prop where
  run : ∀ (pins : List (Addr × Obj)) (s : Shared), Inv X pins σ H s → wpAny (model X.prog X.w) X.A (eval e X.env) (EPw X pins Q) X.xe s
section
variable {X : Cx} {e : Expr} {t : TEw} {σ : L2.St} {H : Hp}
theorem pewC : PEw X e (wpN X e) := ⟨fun pins s σ H Q I h => h.run pins s I⟩
theorem wpN_of (h : PEw X e t) {Q : V → L2.St → Hp → Prop} (q : t σ H Q) : wpN X e σ H Q := ⟨fun pins s I => h.run pins s σ H Q I q⟩
end
def KvN (K : PySem.W.Frag) (Q : V → L2.St → Hp → Prop) (G : Hp) (P : D → DEnv → Iv K → Prop) : Prop := ∀ (v : V) (d : D) (δ : DEnv) (σ : L2.St) (G' H' : Hp) (I' : Iv K), Same G G' → Same G' H' → Hd I' G' H' → EnvR K G' δ σ → Rep K G' d v → P d δ I' → Q v σ H'
theorem KvN.mono {K : PySem.W.Frag} {Q : V → L2.St → Hp → Prop} {G G1 : Hp} {P : D → DEnv → Iv K → Prop} (s : Same G G1) (h : KvN K Q G P) : KvN K Q G1 P := fun v d δ σ G' H' I' s1 => h v d δ σ G' H' I' (s.trans s1)
def EvN (X : Cx) (W : WX) (R : Rx X.K) (e : Expr) (δ : DEnv) (I : Iv X.K) (P : D → DEnv → Iv X.K → Prop) : Prop := ∀ (σ : L2.St) (G H : Hp) (Q : V → L2.St → Hp → Prop), EnvR X.K G δ σ → Same G H → Hd I G H → Kx X.K W σ G R → KvN X.K Q G P → wpN X e σ H Q
structure LaI {K : PySem.W.Frag} (I : Iv K) (f : Addr) (F : NF) (be : Expr) : Prop where
  h : ∀ G H, Same G H → Hd I G H → H f = some (LaO f F be) ∧ H F.c = some (CodeO F.c F.qual)
def iLaO (K : PySem.W.Frag) (f : Addr) (F : NF) (be : Expr) : Iv K := iObj K f (fun G o => o = LaO f F be ∧ G F.c = some (CodeO F.c F.qual)) fun _ _ _ s ⟨h1, h2⟩ => ⟨h1, s _ _ h2⟩
theorem LaI.m {K : PySem.W.Frag} {f : Addr} {F : NF} {be : Expr} (c : Rc K) : LaI (c.fill (iLaO K f F be)) f F be := ⟨fun G H s h => by
  obtain ⟨o, ho, e, g⟩ := h.inner.ph
  subst e
  exact ⟨ho, s _ _ g⟩⟩
theorem LaI.andL {K : PySem.W.Frag} {I J : Iv K} {f : Addr} {F : NF} {be : Expr} (h : LaI I f F be) : LaI (I.and J) f F be := ⟨fun G H s hd => h.h G H s hd.left⟩
theorem LaI.andR {K : PySem.W.Frag} {I J : Iv K} {f : Addr} {F : NF} {be : Expr} (h : LaI J f F be) : LaI (I.and J) f F be := ⟨fun G H s hd => h.h G H s hd.right⟩
section
variable {X : Cx} {W : WX} {R : Rx X.K} {P : D → DEnv → Iv X.K → Prop} {δ : DEnv} {I : Iv X.K} {F : NF} {be : Expr} {f : Addr} {ps fr : List Str} {i k : Nat} {x x' : Str} {S : Spec X.K} {e : Expr} {p pos : Pos}
theorem en_named (i : Nat) (h : EvX X W R e δ I fun d I1 => P d (δ.set i (some d)) I1) (hN : X.N.Nodup := by assumption) (hi : X.N[i]? = some x' := by rfl) (hx : Loc X.env.scope x' := by first | exact Or.inl rfl | exact Or.inr rfl)
    (hf : X.fn x' = true ∨ X.env.scope.names.lookup x' = some .local := by first | exact .inl rfl | exact .inr rfl | assumption) : EvN X W R (.NamedExpr (.Name x' p) e pos) δ I P := fun σ G H Q hE s hI qx q =>
  wpN_of (pew_named hN hi hx (pew_of peC) hf) (h σ G H _ hE s hI qx fun v d G1 H1 I1 s1 t1 h1 r1 p => q v d _ _ G1 H1 I1 s1 t1 h1 ((hE.mono s1).set r1) r1 p)
end
section
variable {X : Cx} {W : WX} {R : Rx X.K} {P : D → Iv X.K → Prop} {κ : Ko X.K} {δ : DEnv} {I : Iv X.K} {c : Expr} {sts els : List Stmt} {pos : Pos}
end
section
variable {P : Program} {w : World} {K : PySem.W.Frag} {mg : Str → Option Value} {base : Heap}
end
end DL
set_option Elab.async false
set_option linter.all false
set_option maxRecDepth 100000
set_option maxHeartbeats 4000000
namespace DL
open PySem PySem.Spec PyProof.Rows L2
def nonB : D → Bool
  | .non => true
  | _ => false
theorem rep_non {K : PySem.W.Frag} {G : Hp} : ∀ {d : D} {v : V}, Rep K G d v → decide (v = .non) = nonB d
  | .non, _, h => by rw [show _ = V.non from h]; rfl
  | .bl _, _, h => by rw [show _ = V.bl _ from h]; rfl
  | .int _, _, h => by rw [show _ = V.int _ from h]; rfl
  | .str _, _, h => by rw [show _ = V.str _ from h]; rfl
  | .ty _, _, h => by rw [show _ = V.ty _ from h]; rfl
  | .adr _, _, h => by rw [show _ = V.ref _ from h]; rfl
  | .tup _, _, ⟨a, vs, h1, h2, h3⟩ => by rw [h1]; rfl
  | .lst _, _, ⟨a, vs, h1, h2, h3⟩ => by rw [h1]; rfl
  | .lsf _, _, ⟨a, vs, h1, h2, h3⟩ => by rw [h1]; rfl
  | .slo _ _, _, ⟨a, dx, vs, h1, h2, h3⟩ => by rw [h1]; rfl
  | .exc _ _ _ _ _, _, ⟨h1, vs, h2, h3⟩ => by rw [h1]; rfl
  | .dic _ _, _, ⟨a, od, vs, h1, h2, h4, h3⟩ => by rw [h1]; rfl
  | .tub _, _, ⟨a, od, vs, h1, h2, h4, h3⟩ => by rw [h1]; rfl
section
variable {X : Cx} {I : Iv X.K} {e : Expr} {δ : DEnv} {d : D} {pos p : Pos} {j : Nat}
end
end DL
set_option Elab.async false
set_option linter.all false
set_option maxRecDepth 100000
set_option maxHeartbeats 4000000
namespace DL
open PySem PySem.Spec PyProof.Rows L2
section
variable {X : Cx} {W : WX} {R : Rx X.K} {a : Expr} {lo hi : Option Expr} {δ : DEnv} {I : Iv X.K} {pos p2 : Pos} {P : D → Iv X.K → Prop}
end
theorem PVI.is {X : Cx} {I : Iv X.K} {tg iter : Expr} {δ : DEnv} {ds es : List D} (h : PVI X I tg iter δ ds) (q : ds = es) : PVI X I tg iter δ es := q ▸ h
section
variable {X : Cx} {I : Iv X.K} {e : Expr} {δ : DEnv} {d : D} {pos p : Pos} {j : Nat}
end
end DL
set_option Elab.async false
set_option linter.all false
set_option maxRecDepth 100000
set_option maxHeartbeats 1000000
namespace DL
open PySem PySem.Spec PyProof.Rows L2
section
variable {X : Cx} {W : WX} {κ : Ko X.K} {δ : DEnv} {I : Iv X.K} {a : Expr} {sts els : List Stmt} {pos p p2 : Pos} {j : Nat}
theorem s_ifNn (h : EvN X W (κ.r δ) a δ I fun d δ1 I1 => (nonB d = true → SX X W sts δ1 I1 κ) ∧ (nonB d = false → SX X W els δ1 I1 κ)) : S1 X W (.If (.Compare a [.Is] [.Constant .none j p] p2) sts els pos) δ I κ := fun σ G H E hE s hI k =>
  PS.wp (ps_ifW (ptw_cmp op_isN pewC pe_non (by rfl)) pssC pssC) (h σ G H _ hE s hI (k.kx hE) fun v d δ1 σ1 G3 H3 I3 s3 t3 h3 e3 r3 ⟨pt, pf⟩ => by
    refine ⟨rfl, ?_⟩
    rw [rep_non r3]
    cases hn : nonB d with
    | true => exact ⟨true, rfl, pt hn σ1 G3 H3 E e3 t3 h3 (k.mono s3)⟩
    | false => exact ⟨false, rfl, pf hn σ1 G3 H3 E e3 t3 h3 (k.mono s3)⟩)
end
end DL
namespace LK
open PySem PySem.Spec PyProof.Rows L2 DL
abbrev smallL : List Nat := (Str.ofString "abcdefghijklmnopqrstuvwxyz").cps.toList
def tkD (s t : Str) (c : Nat) : D := .tup [.str s, .str t, .int c]
def TokAt (z : Str) (i : Nat) (t : D) (j : Nat) : Prop :=
  (i < j ∧ j ≤ z.length ∧ (∀ k, i ≤ k → k < j → ∃ c, z.cps.toList[k]? = some c ∧ c ∈ smallL) ∧ (∀ c, z.cps.toList[j]? = some c → c ∉ smallL) ∧ t = tkD "word" (cutS z (some (i : Int)) (some (j : Int))) (i + 1)) ∨
  (j = i + 1 ∧ j ≤ z.length ∧ z.cps.toList[i]? = some 58 ∧ t = tkD "mark" ⟨#[58]⟩ (i + 1)) ∨
  (∃ m x, j = m + 1 ∧ j ≤ z.length ∧ i < m ∧ z.cps.toList[i]? = some 39 ∧ (∀ k, i < k → k < m → ∃ c, z.cps.toList[k]? = some c ∧ c ≠ 39) ∧ z.cps.toList[m]? = some 39 ∧ cutS z (some (m : Int)) (some ((m + 2 : Nat) : Int)) ≠ "''" ∧
    x = cutS z (some ((i + 1 : Nat) : Int)) (some (m : Int)) ∧ x.length ≤ 40 ∧ (∀ c ∈ x.cps.toList, c ∈ SIGNS.cps.toList) ∧ noOcc x "''" "'" = true ∧ t = tkD "text" x (i + 1))
inductive Toks (z : Str) : Nat → List D → Prop where
  | done {i : Nat} (h : i = z.length) : Toks z i []
  | space {i : Nat} {ts : List D} (h : z.cps.toList[i]? = some 32) (r : Toks z (i + 1) ts) : Toks z i ts
  | tok {i j : Nat} {t : D} {ts : List D} (h : TokAt z i t j) (r : Toks z j ts) : Toks z i (t :: ts)
theorem rdq_one {c : Nat} : decide ((⟨#[c]⟩ : Str) = "'") = decide (c = 39) := by
  by_cases h : c = 39
  · subst h; decide
  · have : (⟨#[c]⟩ : Str) ≠ "'" := fun e => h (by
      have h2 : [c] = [39] := (congrArg (fun s : Str => s.cps.toList) e).trans (by decide)
      simpa using h2)
    simp [h, this]
theorem rds_one {c : Nat} : decide ((⟨#[c]⟩ : Str) = " ") = decide (c = 32) := by
  by_cases h : c = 32
  · subst h; decide
  · have : (⟨#[c]⟩ : Str) ≠ " " := fun e => h (by
      have h2 : [c] = [32] := (congrArg (fun s : Str => s.cps.toList) e).trans (by decide)
      simpa using h2)
    simp [h, this]
section
variable {P : Program} {w : World} {K : PySem.W.Frag} {mg : Str → Option Value} {base : Heap}
end
end LK
set_option Elab.async false
set_option linter.all false
set_option maxRecDepth 100000
set_option maxHeartbeats 1000000
namespace LK
open PySem PySem.Spec PyProof.Rows L2 DL
abbrev dblQ (l : List Nat) : List Nat := StrLaws.dbl 39 l
inductive Tk where
  | word (w : Str) | text (x : Str) | sign (c : Nat) | opn (w : List Nat)
def Tk.cps : Tk → List Nat
  | .word w => w.cps.toList
  | .text x => 39 :: (dblQ x.cps.toList ++ [39])
  | .sign c => [c]
  | .opn w => 39 :: w
def goodX (x : Str) : Bool := decide (x.length ≤ 40) && x.cps.toList.all fun c => decide (c ∈ SIGNS.cps.toList)
def Tk.sort : Tk → Str
  | .word _ => "word"
  | .text x => if goodX x = true then "text" else "wrong"
  | .sign c => if c = 58 ∨ c = 59 then "mark" else "wrong"
  | .opn _ => "wrong"
def Tk.txt : Tk → Str
  | .word w => w
  | .text x => x
  | .sign c => ⟨#[c]⟩
  | .opn _ => ""
def Tk.d (t : Tk) (col : Nat) : D := tkD t.sort t.txt col
def Tk.Ok : Tk → Prop
  | .word w => w.cps.toList ≠ [] ∧ ∀ c ∈ w.cps.toList, c ∈ smallL
  | .text _ => True
  | .sign c => c ∉ smallL ∧ c ≠ 39 ∧ c ≠ 32
  | .opn w => 39 ∉ w
def Tk.Stop : Tk → List Nat → Prop
  | .word _, r => ∀ c, r.head? = some c → c ∉ smallL
  | .text _, r => r.head? ≠ some 39
  | .sign _, _ => True
  | .opn _, r => r = []
inductive Lay : Nat → List Nat → List D → Prop where
  | done {i : Nat} : Lay i [] []
  | space {i : Nat} {r : List Nat} {ts : List D} (h : Lay (i + 1) r ts) : Lay i (32 :: r) ts
  | tok {i : Nat} {r : List Nat} {ts : List D} (t : Tk) (ok : t.Ok) (st : t.Stop r) (h : Lay (i + t.cps.length) r ts) : Lay i (t.cps ++ r) (t.d (i + 1) :: ts)
theorem Tk.ne {t : Tk} (h : t.Ok) : ∃ c r, t.cps = c :: r ∧ c ≠ 32 := by
  cases t with
  | word w =>
    obtain ⟨h1, h2⟩ := h
    cases e : w.cps.toList with
    | nil => exact absurd e h1
    | cons c r =>
      refine ⟨c, r, e, fun z => ?_⟩
      have := h2 c (by rw [e]; exact List.mem_cons_self ..)
      rw [z] at this
      exact absurd this (by decide)
  | text x => exact ⟨39, _, rfl, by decide⟩
  | sign c => exact ⟨c, [], rfl, h.2.2⟩
  | opn w => exact ⟨39, w, rfl, by decide⟩
theorem Tk.pos {t : Tk} (h : t.Ok) : 1 ≤ t.cps.length := by
  obtain ⟨c, r, e, _⟩ := Tk.ne h
  rw [e]; simp
theorem lay_len {i : Nat} {r : List Nat} {ts : List D} (h : Lay i r ts) : ts.length ≤ r.length := by
  induction h with
  | done => exact Nat.le_refl _
  | space _ ih => simp only [List.length_cons]; omega
  | tok t ok _ _ ih =>
    have := Tk.pos ok
    simp only [List.length_cons, List.length_append]; omega
theorem dblQ_cons (k : Nat) (r : List Nat) : dblQ (k :: r) = if k = 39 then 39 :: 39 :: dblQ r else k :: dblQ r := by
  show (if k = 39 then k :: k :: StrLaws.dbl 39 r else k :: StrLaws.dbl 39 r) = _
  by_cases h : k = 39
  · subst h; rfl
  · rw [if_neg h, if_neg h]
theorem dblQ_len (l : List Nat) : (dblQ l).length ≤ 2 * l.length := by
  induction l with
  | nil => exact Nat.le_refl _
  | cons k r ih =>
    rw [dblQ_cons]
    split <;> simp only [List.length_cons] <;> omega
theorem dblQ_ge (l : List Nat) : l.length ≤ (dblQ l).length := by
  induction l with
  | nil => exact Nat.le_refl _
  | cons k r ih =>
    rw [dblQ_cons]
    split <;> simp only [List.length_cons] <;> omega
theorem undbl (l : List Nat) : StrLaws.replL [39, 39] [39] (dblQ l) = l := by
  induction l with
  | nil => exact StrLaws.replL_nil
  | cons k r ih =>
    rw [dblQ_cons]
    by_cases h : k = 39
    · subst h
      rw [if_pos rfl, StrLaws.replL_hit (by simp) (by rfl)]
      show [39] ++ StrLaws.replL [39, 39] [39] (dblQ r) = _
      rw [ih]; rfl
    · rw [if_neg h, StrLaws.replL_miss (fun z => by
        cases hr : dblQ r with
        | nil => rw [hr] at z; simp at z
        | cons a b => rw [hr] at z; simp at z; exact h z.1), ih]
theorem repl_und {y x : Str} (h : y.cps.toList = dblQ x.cps.toList) : Txt.replace y "''" "'" = x := str_ext (by
  have e := StrLaws.replace_list (x := y) (y := "''") (z := "'") (by decide)
  rw [e, h]
  exact undbl _)
theorem repl_dbl (x : Str) : (Txt.replace x "'" "''").cps.toList = dblQ x.cps.toList := StrLaws.replace_double x 39
theorem cutS_take {z : Str} {a n : Nat} (ha : a ≤ z.length) : (cutS z (some (a : Int)) (some ((a + n : Nat) : Int))).cps.toList = (z.cps.toList.drop a).take n := by
  unfold cutS
  rw [HT.sIx_nat, HT.sIx_nat, Nat.min_eq_left ha]
  show (z.cps.toList.drop a).take _ = _
  have e : z.cps.toList.length = z.length := (str_len z).symm
  rcases Nat.le_total (a + n) z.length with h | h
  · rw [Nat.min_eq_left h, Nat.add_sub_cancel_left]
  · rw [Nat.min_eq_right h, List.take_of_length_le (by rw [List.length_drop]; omega), List.take_of_length_le (by rw [List.length_drop]; omega)]
theorem at_drop {l r : List Nat} {i c : Nat} (h : l.drop i = c :: r) : l[i]? = some c ∧ l.drop (i + 1) = r := by
  have e : (l.drop i)[0]? = some c := by rw [h]; rfl
  rw [List.getElem?_drop] at e
  refine ⟨by simpa using e, ?_⟩
  rw [← List.drop_drop, h]; rfl
theorem drop_lt {l r : List Nat} {i c : Nat} (h : l.drop i = c :: r) : i < l.length := by
  have := congrArg List.length h
  rw [List.length_drop, List.length_cons] at this
  omega
end LK
set_option Elab.async false
set_option linter.all false
set_option maxRecDepth 100000
set_option maxHeartbeats 1000000
namespace LK
open PySem PySem.Spec PyProof.Rows L2 DL
abbrev cC (K : PySem.W.Frag) : Addr := He.ga K "Cast"
structure Wr where
  k : Str
  t : Str
  l : Str
  e : Str
deriving DecidableEq
def wr4 (w : Wr) : D := .tup [.str w.k, .str w.t, .str w.l, .str w.e]
abbrev wrD (K : PySem.W.Frag) (w : Wr) : D := wD K w.k w.t w.l w.e
structure GoodR (w : Wr) : Prop where
  g : GoodW w.k w.t w.l w.e
  h : w.t.length ≤ 40
inductive Th where
  | wr (w : Wr)
  | ot (d : D)
def Th.d (K : PySem.W.Frag) : Th → D
  | .wr w => wrD K w
  | .ot d => d
def Th.ok : Th → Prop
  | .wr w => w.k ∈ kinds
  | .ot d => ∃ t, tyD d = some t
def Th.kind : Th → Str
  | .wr w => w.k
  | .ot _ => ""
inductive Wv where
  | ls (ths : List Th)
  | tp (ths : List Th)
  | ot (d : D)
def Wv.d (K : PySem.W.Frag) : Wv → D
  | .ls ths => .lst (ths.map (Th.d K))
  | .tp ths => .tup (ths.map (Th.d K))
  | .ot d => d
def Wv.ths : Wv → List Th
  | .ls ths => ths
  | .tp ths => ths
  | .ot _ => []
def Wv.ok : Wv → Prop
  | .ls ths => (∀ x ∈ ths, x.ok) ∧ ths.length ≤ 1000
  | .tp ths => (∀ x ∈ ths, x.ok) ∧ ths.length ≤ 1000
  | .ot d => ∃ t, tyD d = some t ∧ t ≠ "list" ∧ t ≠ "tuple"
def kindBad (ks : List Str) (k : Str) (i : Nat) : Bool :=
  decide (k = "") || (decide (k = "ask") && !decide ((ks.drop (i + 1)).take 1 = (["reply"] : List Str))) || (decide (k = "reply") && !decide ((ks.take i).drop ((ks.take i).length - 1) = (["ask"] : List Str)))
def kindFault (ks : List Str) : Option Nat := ks.zipIdx.findSome? fun p => if kindBad ks p.1 p.2 = true then some p.2 else none
def lookThs (ths : List Th) : Option (Option Nat) := if 1 ≤ ths.length ∧ ths.length ≤ 8 then (kindFault (ths.map Th.kind)).map some else some none
def lookFault : Wv → Option (Option Nat)
  | .ls ths => lookThs ths
  | .tp ths => lookThs ths
  | .ot _ => some none
def nD : Option Nat → D
  | none => .non
  | some i => .int i
def isNameS (s : Str) : Bool := decide (1 ≤ s.length) && decide (s.length ≤ 8) && s.cps.toList.all fun c => decide (c ∈ (Str.ofString "abcdefghijklmnopqrstuvwxyz").cps.toList)
def sIsName {K : PySem.W.Frag} : Spec K := fun I ds P _ => ∃ s : Str, ds = [.str s] ∧ s.length ≤ 100000 ∧ P (.bl (isNameS s)) I
def xCast (K : PySem.W.Frag) (n : Str) (o : Option Nat) : List (Str × D) := [("number", nD o), ("name", .str n)]
def sLook {K : PySem.W.Frag} : Spec K := fun I ds P R => ∃ (n : Str) (v : Wv), ds = [.str n, v.d K] ∧ v.ok ∧ match lookFault v with
  | none => P .non I
  | some o => R (He.ga K "InvalidCast") (xCast K n o) I
theorem okW_kind : (["say", "ask", "reply", "show", ""] : List Str).all (fun x => PyData.strOk x) = true := by decide +kernel
theorem kind_mem {x : Th} (h : x.ok) : x.kind ∈ (["say", "ask", "reply", "show", ""] : List Str) := by
  cases x with
  | wr w =>
    have h : w.k ∈ kinds := h
    simp only [List.mem_cons, List.not_mem_nil, or_false] at h ⊢
    show w.k = _ ∨ _
    rcases h with h | h | h | h <;> simp [Th.kind, h]
  | ot d => simp [Th.kind]
theorem okS_map {ws : List Str} (h : ∀ x ∈ ws, PyData.strOk x = true) : okEq (.lst (ws.map D.str)) = true := (OkD.lst (n := 0) (OkD.map fun x hx => .str (h x hx))).okEq (by decide)
theorem kind_at {ks : List Str} {p r : List (Str × Nat)} {x : Str × Nat} (e : ks.zipIdx = p ++ x :: r) (hp : ∀ y ∈ p, kindBad ks y.1 y.2 = false) (hx : kindBad ks x.1 x.2 = true) : kindFault ks = some x.2 := by
  unfold kindFault
  rw [e]
  exact findSome_hit (fun y hy => by rw [hp y hy]; rfl) (by rw [if_pos hx])
theorem kind_none {ks : List Str} (hp : ∀ y ∈ ks.zipIdx, kindBad ks y.1 y.2 = false) : kindFault ks = none := by
  unfold kindFault
  rw [List.findSome?_eq_none_iff]
  intro y hy
  rw [hp y hy]; rfl
theorem vi_wv {X : Cx} {I : Iv X.K} {tg iter : Expr} {δ : DEnv} {v : Wv} (hn : ∀ d, v ≠ .ot d) (hp : PV X I iter δ (v.d X.K)) : PVI X I tg iter δ (v.ths.map (Th.d X.K)) := by
  cases v with
  | ls ths' => exact vi_lst hp
  | tp ths' => exact vi_tup hp
  | ot d => exact absurd rfl (hn d)
section
variable {P : Program} {w : World} {K : PySem.W.Frag} {mg : Str → Option Value} {base : Heap}
theorem D_is_name (E : Env P w K mg base) : Def P w K mg base "is_name" 1 ["value"] [] sIsName := mk_f_is_name E fun fd F => by
  refine fn_d F sc_f_is_name (fun I ds P R h => by obtain ⟨d, rfl, _⟩ := h; rfl) fun cdv A outer s H EE hr tk po I ds Q R h => ?_
  obtain ⟨z, rfl, hz, q⟩ := h
  have nd := sc_f_is_name.nd
  refine s_cons (s_ifP (ptw (ww_orF (ptn (k := true) (pt_v (pv_cb call_isi E.b_isinstance (va_cons (pv_v 0) (va_cons (pv_gty (n := "str") E.b_str) va_nil)) (pn_isiT (t := "str") rfl)))) (ww_or1 (ptn (pt_chn op_le op_le pv_int (pv_len E.b_len (pv_w 0 rfl) hz) p2_le (pv_gint E.c_MOST_NAME) p2_le))))) (fun e => ?_) fun e => s_nil ?_)
  · refine s_one (s_retP pv_bl ?_)
    have e2 : isNameS z = false := by
      unfold isNameS
      simp only [Bool.not_eq_true', Bool.and_eq_false_iff, decide_eq_false_iff_not] at e ⊢
      omega
    rw [← e2]; exact q
  · have el : D.lst ((z.cps.toList.map fun c => decide (c ∈ (Str.ofString "abcdefghijklmnopqrstuvwxyz").cps.toList)).map D.bl) = .lst (z.cps.toList.map fun c => .bl (decide (c ∈ (Str.ofString "abcdefghijklmnopqrstuvwxyz").cps.toList))) := by rw [List.map_map]; rfl
    refine s_one (s_retP (pv_cb (cr_all rfl) E.b_all (va_cons (((pv_lcTM (xs := z.cps.toList) (g := fun c => D.str ⟨#[c]⟩) (fun c => .bl (decide (c ∈ (Str.ofString "abcdefghijklmnopqrstuvwxyz").cps.toList))) [("sign", 1)] (fun c => [some (.str z), some (.str ⟨#[c]⟩)]) (vi_str (pv_v 0)) (by rw [Array.length_toList]; exact Nat.le_trans hz (by decide)) (fun d s H C cl fp => bind_name 1) fun c hc J s H C cl fp => pv_cmp op_signIn (pv_v 1) (pv_gstr E.c_LETTERS) p2_signIn)).is el.symm) va_nil) pn_all) ?_)
    have e2 : isNameS z = (z.cps.toList.map fun c => decide (c ∈ (Str.ofString "abcdefghijklmnopqrstuvwxyz").cps.toList)).all id := by
      unfold isNameS
      simp only [Bool.not_eq_false', Bool.and_eq_true, decide_eq_true_eq] at e
      rw [decide_eq_true (show 1 ≤ z.length by omega), decide_eq_true (show z.length ≤ 8 by omega), List.all_map]
      rfl
    rw [← e2]; exact q
theorem D_look (E : Env P w K mg base) : Def P w K mg base "look_at_writes" 3 ["name", "writes"] [] sLook := mk_f_look_at_writes E fun fd F => by
  refine fn_d F sc_f_look_at_writes (fun I ds P R h => by obtain ⟨n, v, rfl, _⟩ := h; rfl) fun cdv A outer s H EE hr tk po I ds Q R h => ?_
  obtain ⟨n, v, rfl, hv, q⟩ := h
  have nd := sc_f_look_at_writes.nd
  have hu := hr.units
  have hr2 : Room 2 _ := hr
  -- no list, no tuple
  have hty : ∃ t, tyD (v.d K) = some t ∧ ((∃ d, v = .ot d ∧ kitB t "list" = some false ∧ kitB t "tuple" = some false) ∨ ((∀ d, v ≠ .ot d) ∧ ∃ b1 b2, kitB t "list" = some b1 ∧ kitB t "tuple" = some b2 ∧ (b1 || b2) = true)) := by
    cases v with
    | ls ths => exact ⟨_, rfl, .inr ⟨(fun d e => nomatch e), true, false, by decide +kernel, by decide +kernel, rfl⟩⟩
    | tp ths => exact ⟨_, rfl, .inr ⟨(fun d e => nomatch e), false, true, by decide +kernel, by decide +kernel, rfl⟩⟩
    | ot d =>
      obtain ⟨t, ht, h1, h2⟩ := hv
      refine ⟨t, ht, .inl ⟨d, rfl, ?_⟩⟩
      have := tyD_in ht
      have k : ∀ u : String, tyNs.contains u = true → u ≠ "list" → u ≠ "tuple" → kitB u "list" = some false ∧ kitB u "tuple" = some false := by
        intro u hu a b
        have hu := List.contains_iff_mem.mp hu
        simp only [List.mem_cons, List.not_mem_nil, or_false] at hu
        rcases hu with rfl | rfl | rfl | rfl | rfl | rfl | rfl
        · exact ⟨by decide +kernel, by decide +kernel⟩
        · exact ⟨by decide +kernel, by decide +kernel⟩
        · exact ⟨by decide +kernel, by decide +kernel⟩
        · exact ⟨by decide +kernel, by decide +kernel⟩
        · exact absurd rfl b
        · exact absurd rfl a
        · exact ⟨by decide +kernel, by decide +kernel⟩
      exact k t this h1 h2
  obtain ⟨t, ht, hc⟩ := hty
  rcases hc with ⟨d, rfl, k1, k2⟩ | ⟨hn, b1, b2, k1, k2, kb⟩
  · refine s_cons (s_ifT (ptw (ww_orT (ptn (k := false) (pt_v (pv_cb call_isiTT E.b_isinstance (va_cons (pv_v 1) (va_cons (pv_tup (va_cons (pv_gty (n := "list") E.b_list) (va_cons (pv_gty (n := "tuple") E.b_tuple) va_nil))) va_nil)) (pn_isiT2 ht (kit2 k1 k2))))))) ?_)
    exact s_one (s_rz (hr := hr2) tk E.x_InvalidCast E.ini_InvalidCast (ea_cons ((pv_v 0).ev (ea_cons (pv_non.ev (ea_nil ⟨rfl, by simp, q⟩))))))
  obtain ⟨ths, hths, hl0, hok, hL, hF⟩ : ∃ ths : List Th, v.ths = ths ∧ itemsD (v.d K) = some (ths.map (Th.d K)) ∧ (∀ x ∈ ths, x.ok) ∧ ths.length ≤ 1000 ∧ lookFault v = lookThs ths := by
    cases v with
    | ls ths => exact ⟨ths, rfl, rfl, hv.1, hv.2, rfl⟩
    | tp ths => exact ⟨ths, rfl, rfl, hv.1, hv.2, rfl⟩
    | ot d => exact absurd rfl (hn d)
  have hlen : ∃ C, LenC (v.d K) ths.length C ∧ C := by
    cases v with
    | ls ths' => subst hths; exact ⟨True, by have := (inferInstance : LenC (.lst (ths'.map (Th.d K))) _ _); rwa [List.length_map] at this, trivial⟩
    | tp ths' => subst hths; exact ⟨True, by have := (inferInstance : LenC (.tup (ths'.map (Th.d K))) _ _); rwa [List.length_map] at this, trivial⟩
    | ot d => exact absurd rfl (hn d)
  obtain ⟨CC, LC, cc⟩ := hlen
  refine s_cons (s_ifP (ptw (ww_orF (ptn (k := true) (pt_v (pv_cb call_isiTT E.b_isinstance (va_cons (pv_v 1) (va_cons (pv_tup (va_cons (pv_gty (n := "list") E.b_list) (va_cons (pv_gty (n := "tuple") E.b_tuple) va_nil))) va_nil)) (pn_isiT2 ht (by rw [← kb]; exact kit2 k1 k2))))) (ww_or1 (ptn (pt_chn op_le op_le pv_int (pv_len E.b_len (pv_w 1 rfl) cc) p2_le (pv_gint E.c_MOST_WRITES) p2_le))))) (fun e => ?_) fun e => s_nil ?_)
  · have e2 : lookFault v = some none := by
      rw [hF]
      unfold lookThs
      rw [if_neg]
      simp only [Bool.not_eq_true', Bool.and_eq_false_iff, decide_eq_false_iff_not] at e
      omega
    rw [e2] at q
    exact s_one (s_rz (hr := hr2) tk E.x_InvalidCast E.ini_InvalidCast (ea_cons ((pv_v 0).ev (ea_cons (pv_non.ev (ea_nil ⟨rfl, by simp, q⟩))))))
  have hsz : 1 ≤ ths.length ∧ ths.length ≤ 8 := by
    simp only [Bool.not_eq_false', Bool.and_eq_true, decide_eq_true_eq] at e
    omega
  have hF2 : lookFault v = (kindFault (ths.map Th.kind)).map some := by rw [hF]; unfold lookThs; rw [if_pos hsz]
  clear hF
  -- the kinds
  have ekk : D.lst (ths.map fun x => D.str x.kind) = .lst ((ths.map Th.kind).map D.str) := by rw [List.map_map]; rfl
  refine s_cons (s_setLc 2 [("write", 6)] (lcM (xs := ths) (g := Th.d K) (fun x => .str x.kind) [("write", 6)] (fun x => [some (.str n), some (v.d K), none, none, none, none, some (x.d K)]) (by rw [← hths]; exact vi_wv hn (pv_v 1)) (by omega) (fun d s H C cl fp => bind_name 6) (fun x hx J s H C cl fp => ?_) ?_))
  · cases x with
    | wr w0 => exact pv_if (k := true) (pt_v (pv_cb (SlX.call_isiSl (.ref (cW K))) E.b_isinstance (va_cons (pv_v (d := wrD K w0) 6) (va_cons (pv_gref E.g_Write) va_nil)) (pn_isiSl E.k_Write.sc E.k_Write.si E.k_Write.kW))) (fun _ => pv_wkind E (hr.mono (by decide)) (pv_v (d := wrD K w0) 6)) (fun z => nomatch z)
    | ot d =>
      obtain ⟨ty, hty⟩ := hok _ hx
      exact pv_if (k := false) (pt_v (pv_cb call_isi E.b_isinstance (va_cons (pv_v (d := d) 6) (va_cons (pv_gref E.g_Write) va_nil)) (pn_isiO hty (E.k_Write.kT _ (tyD_in hty))))) (fun z => nomatch z) (fun _ => pv_str)
  rw [ekk]
  -- each
  have hks : ∀ x ∈ ths.map Th.kind, PyData.strOk x = true := fun x hx => by
    obtain ⟨y, hy, rfl⟩ := List.mem_map.mp hx
    exact List.all_eq_true.mp okW_kind _ (kind_mem (hok y hy))
  have hkl : (ths.map Th.kind).length ≤ 8 := by rw [List.length_map]; exact hsz.2
  clear ekk hok
  generalize ths.map Th.kind = ks at *
  refine s_one (s_forT (xs := ks.zipIdx) (g := fun p => .tup [.int p.2, .str p.1]) po (by rw [← enumD_map]; exact vi_enumL E.b_enumerate (pv_v 2)) (fun p δ' I' => I' = I ∧ (∀ y ∈ p, kindBad ks y.1 y.2 = false) ∧ DLe δ' [some (.str n), some (v.d K), some (.lst (ks.map D.str)), none, none, none, none]) ⟨rfl, (fun y hy => nomatch hy), .of rfl rfl⟩ ?_ ?_)
  · rintro p ⟨k, i⟩ r δ' I' e ⟨rfl, hp, hle⟩
    refine ⟨_, [3, 4], (bind_tup (bs_cons (bind_name 3) (bs_cons (bind_name 4) bs_nil))).le hle, ?_⟩
    have e1 : (↑i + 1 : Int) = ((i + 1 : Nat) : Int) := rfl
    have e2 : (↑i + 2 : Int) = ((i + 2 : Nat) : Int) := rfl
    have a1 : eqD (.lst (cutD (ks.map D.str) (some (↑i + 1)) (some (↑i + 2)))) (.lst [.str "reply"]) = decide ((ks.drop (i + 1)).take 1 = (["reply"] : List Str)) := by
      rw [e1, e2, cut_mid, show i + 2 - (i + 1) = 1 by omega, ← List.map_drop, ← List.map_take, eqD_lst]
      exact Bool.eq_iff_iff.mpr ((Inj.str.eqs _ ["reply"]).trans (by simp))
    have a2 : eqD (.lst (cutD (cutD (ks.map D.str) none (some (i : Int))) (some (-1)) none)) (.lst [.str "ask"]) = decide ((ks.take i).drop ((ks.take i).length - 1) = (["ask"] : List Str)) := by
      rw [cut_take, cut_last, ← List.map_take, List.length_map, ← List.map_drop, eqD_lst]
      exact Bool.eq_iff_iff.mpr ((Inj.str.eqs _ ["ask"]).trans (by simp))
    have o1 : okEq (.lst (cutD (ks.map D.str) (some (↑i + 1)) (some (↑i + 2)))) = true := by
      rw [e1, e2, cut_mid, ← List.map_drop, ← List.map_take]
      exact okS_map fun x hx => hks x (List.mem_of_mem_drop (List.mem_of_mem_take hx))
    have o2 : okEq (.lst (cutD (cutD (ks.map D.str) none (some (i : Int))) (some (-1)) none)) = true := by
      rw [cut_take, cut_last, ← List.map_take, ← List.map_drop]
      exact okS_map fun x hx => hks x (List.mem_of_mem_take (List.mem_of_mem_drop hx))
    refine s_cons (s_setP 5 (pv_andB (pv_eq hu (pv_w 4 rfl) (pv_gstr E.c_ASK) trivial) fun _ => pv_one (pv_ne hu (pv_slL (pv_w 2 rfl) (vo_some (pv_op op_add (pv_w 3 rfl) pv_int p2_add)) (vo_some (pv_op op_add (pv_w 3 rfl) pv_int p2_add))) (pv_lst (va_cons (pv_gstr E.c_REPLY) va_nil)) ⟨o1, by decide +kernel⟩)) ?_)
    refine s_one (s_ifP (ptw (ww_or (pt_eq hu (pv_w 4 rfl) pv_str trivial) fun _ => ww_or (pt_v (pv_w 5 rfl)) fun _ => ww_or1 (ptw (ww_and (pt_eq hu (pv_w 4 rfl) (pv_gstr E.c_REPLY) trivial) fun _ => ww_and1 (pt_ne hu (pv_slL (pv_slL (pv_w 2 rfl) vo_none (vo_some (pv_w 3 rfl))) (vo_some (pv_neg pv_int)) vo_none) (pv_lst (va_cons (pv_gstr E.c_ASK) va_nil)) ⟨o2, by decide +kernel⟩))))) (fun e3 => ?_) fun e3 => s_nil ?_)
    · rw [a1, a2, ← Bool.or_assoc] at e3
      refine s_one (s_rz (hr := hr2) tk E.x_InvalidCast E.ini_InvalidCast (ea_cons ((pv_v 0).ev (ea_cons ((pv_v 3).ev (ea_nil ⟨rfl, by simp, ?_⟩))))))
      rw [hF2, kind_at e hp e3] at q
      exact q
    · rw [a1, a2, ← Bool.or_assoc] at e3
      refine ⟨rfl, fun y hy => ?_, .of rfl rfl⟩
      rcases List.mem_append.mp hy with h | h
      · exact hp y h
      · rw [List.mem_singleton.mp h]; exact e3
  · rintro δ' I' ⟨rfl, hp, hle⟩
    rw [hF2, kind_none hp] at q
    exact q
end
end LK
set_option Elab.async false
set_option linter.all false
set_option maxRecDepth 100000
set_option maxHeartbeats 1000000
namespace LK
open PySem PySem.Spec PyProof.Rows L2 DL
def nameFault (p : Str × Wv) : Option (Str × Option Nat) := if isNameS p.1 = true then (lookFault p.2).map fun o => (p.1, o) else some (p.1, none)
def castFault (ws : List (Str × Wv)) : Option (Str × Option Nat) := if 1 ≤ ws.length ∧ ws.length ≤ 6 then (sortW ws).findSome? nameFault else some ("", none)
abbrev wksD (K : PySem.W.Frag) (ws : List (Str × Wv)) : D := dicT ws (·.1) (fun p => p.2.d K)
abbrev ctbD (K : PySem.W.Frag) (ws : List (Str × Wv)) : D := dicT (sortW ws) (·.1) (fun p => .tup (p.2.ths.map (Th.d K)))
structure WksOk (ws : List (Str × Wv)) : Prop where
  nd : (ws.map (·.1)).Nodup
  ok : ∀ p ∈ ws, p.2.ok
  ln : ∀ p ∈ ws, p.1.length ≤ 100000
  sz : ws.length ≤ 50
def sCInit {K : PySem.W.Frag} : Spec K := fun I ds P R => ∃ (x dx : Addr) (J : Iv K) (ws : List (Str × Wv)), ds = [.adr x, wksD K ws] ∧ I = J.and (iSl K x (cC K) dx []) ∧ WksOk ws ∧ match castFault ws with
  | none => P .non (J.and (iSl K x (cC K) dx [some (ctbD K ws)]))
  | some no => R (He.ga K "InvalidCast") (xCast K no.1 no.2) I
theorem names_D (ws : List (Str × Wv)) : (sortS (ws.map (·.1))).map D.str = (sortW ws).map fun p => D.str p.1 := by
  rw [← sortW_names, List.map_map]; rfl
theorem kb0 {K : PySem.W.Frag} {x qual : Str} {params : Arguments} {body : List Stmt} {scope : Scope} {kws : List (Str × V)} {f : Addr} {fd : FuncData} {ps : List Str} (F : FunD K x qual params body scope [] kws f fd) (n : Nat) (hn : ps.length = n)
    (h : ∀ (kV doc pm : Value) (an : Option Addr) (cdv ct : Value) (us : List Value), us.length = ps.length → bindArgs (PySem.W.fnOf x qual params body scope .none kV doc pm an cdv ct) ⟨us, []⟩ = pure (ps.zip us)) : KBn K fd ps n [] (fun us _ => us) (fun vs _ => vs) :=
  ⟨fun s us ws _ l1 l2 => F.bindsA h s us (by rw [l1, hn]), fun r1 _ => r1⟩
section
variable {P : Program} {w : World} {K : PySem.W.Frag} {mg : Str → Option Value} {base : Heap}
theorem M_cInit (E : Env P w K mg base) : ∃ fd, FnOk P w K mg base (L2.CX P w) 4 (He.ma K (cC K) "__init__") fd ["self", "works"] (spD K sCInit) ∧ ∃ g, KBn K fd ["self", "works"] 2 [] g fun vs _ => vs := by
  obtain ⟨fd, F⟩ := E.has _ in_m_Cast_init
  have F : FunD K "__init__" "Cast.__init__" (defArgs m_Cast_init) (defBody m_Cast_init) (defScope m_Cast_init) [] [] (He.ma K (cC K) "__init__") fd := F
  have b0 := kb0 (ps := ["self", "works"]) F 2 rfl fun _ _ _ _ _ _ us hl => match us, hl with | [_, _], _ => rfl
  refine ⟨fd, ?_, _, b0⟩
  refine fn_d F sc_m_Cast_init (fun I ds P R h => by obtain ⟨x, dx, J, ws, rfl, _⟩ := h; rfl) fun cdv A outer s H EE hr tk po I ds Q R h => ?_
  obtain ⟨x, dx, J, ws, rfl, rfl, o, q⟩ := h
  have nd := sc_m_Cast_init.nd
  have hu := hr.units
  have hu1 := hr.u1
  have hr1 : Room 1 _ := hr.mono (by decide)
  have hr2 : Room 2 _ := hr.mono (by decide)
  have hl : (ws.map fun x => ((.inr x.1 : Key), x.2.d K)).length = ws.length := by simp
  refine s_cons (s_ifP (ptn (pt_chn op_le op_le pv_int (pv_len E.b_len (pv_w (d := wksD K ws) 1 rfl) trivial) p2_le (pv_gint E.c_MOST_WORKS) p2_le)) (fun e => ?_) fun e => s_nil ?_)
  · have e2 : castFault ws = some (("" : Str), none) := by
      unfold castFault
      rw [if_neg]
      rw [hl] at e
      simp only [Bool.not_eq_true', Bool.and_eq_false_iff, decide_eq_false_iff_not] at e
      omega
    rw [e2] at q
    exact s_one (s_rz (hr := hr2) tk E.x_InvalidCast E.ini_InvalidCast (ea_cons (pv_str.ev (ea_cons (pv_non.ev (ea_nil ⟨rfl, by simp, q⟩))))))
  have hsz : 1 ≤ ws.length ∧ ws.length ≤ 6 := by
    rw [hl] at e
    simp only [Bool.not_eq_false', Bool.and_eq_true, decide_eq_true_eq] at e
    omega
  have hF : castFault ws = (sortW ws).findSome? nameFault := by unfold castFault; rw [if_pos hsz]
  rw [hF] at q
  have hsub : ∀ p ∈ sortW ws, p ∈ ws := fun p hp => (sortW_perm ws).mem_iff.mp hp
  have hsl : (sortW ws).length ≤ 6 := by rw [(sortW_perm ws).length_eq]; exact hsz.2
  have hnd2 := sortW_nd o.nd
  have hgo : ∀ p ∈ sortW ws, getG (ws.map fun x => ((.inr x.1 : Key), x.2.d K)) (.inr p.1) = some (p.2.d K) := fun p hp => get_dicT (k := fun x : Str × Wv => x.1) (v := fun x => x.2.d K) o.nd (hsub p hp)
  have hnm := names_D ws
  unfold ctbD at q
  generalize hSW : sortW ws = sw at *
  refine s_cons (s_forT (xs := sw) (g := fun p => D.str p.1) po (by rw [← hnm]; exact vi_lst (pv_sortedS E.b_sorted (pv_listD E.b_list (pv_v 1)) (by rw [List.length_map]; omega))) (fun p δ' I' => I' = J.and (iSl K x (cC K) dx []) ∧ (∀ y ∈ p, nameFault y = none) ∧ DLe δ' [some (.adr x), some (wksD K ws), none]) ⟨rfl, (fun y hy => nomatch hy), .of rfl rfl⟩ ?_ ?_)
  · rintro p ⟨n, v⟩ r δ' I' e2 ⟨rfl, hp, hle⟩
    have hm : (n, v) ∈ sw := by rw [e2]; simp
    have hw := hsub _ hm
    refine ⟨_, [2], (bind_name 2).le hle, ?_⟩
    refine s_cons (s_ifP (ptn (pt_v (pv_def (D_is_name E) hr1 (va_cons (pv_v 2) va_nil) fun P pp => ⟨n, rfl, o.ln _ hw, pp⟩))) (fun e3 => ?_) fun e3 => s_nil ?_)
    · refine s_one (s_rz (hr := hr2) tk E.x_InvalidCast E.ini_InvalidCast (ea_cons ((pv_v 2).ev (ea_cons (pv_non.ev (ea_nil ⟨rfl, by simp, ?_⟩))))))
      have e4 : nameFault (n, v) = some (n, none) := by
        unfold nameFault
        rw [if_neg (by simpa using e3)]
      rw [e2, findSome_hit hp e4] at q
      exact q
    · have e3' : isNameS n = true := by simpa using e3
      refine s_one (s_expr (ev_def tk (D_look E) hr (ea_cons ((pv_v 2).ev (ea_cons ((pv_dget hu1 (.inl rfl) (pv_v 1) (pv_v 2) rfl (hgo _ hm)).ev (ea_nil ⟨n, v, rfl, o.ok _ hw, ?_⟩)))))))
      have e4 : nameFault (n, v) = (lookFault v).map fun o => (n, o) := by
        unfold nameFault
        rw [if_pos e3']
      cases hh : lookFault v with
      | none =>
        refine ⟨rfl, fun y hy => ?_, .of rfl rfl⟩
        rcases List.mem_append.mp hy with h | h
        · exact hp y h
        · rw [List.mem_singleton.mp h, e4, hh]; rfl
      | some oo =>
        rw [hh] at e4
        rw [e2, findSome_hit hp e4] at q
        exact q
  · rintro δ' I' ⟨rfl, hp, hle⟩
    refine SX.le hle ?_
    have e5 : sw.findSome? nameFault = none := List.findSome?_eq_none_iff.mpr hp
    rw [e5] at q
    have hths : ∀ p ∈ sw, p.2.d K = .lst (p.2.ths.map (Th.d K)) ∨ p.2.d K = .lsf (p.2.ths.map (Th.d K)) ∨ p.2.d K = .tup (p.2.ths.map (Th.d K)) := fun p hpm => by
      have hf := hp p hpm
      unfold nameFault at hf
      split at hf
      · cases hv : p.2 with
        | ls ths => exact .inl rfl
        | tp ths => exact .inr (.inr rfl)
        | ot d => rw [hv] at hf; cases hf
      · cases hf
    refine s_one (s_slot (.r J .here) E.k_Cast.sc E.s_Cast_table (pv_v 0) (pv_dcT (xs := sw) (g := fun p => D.str p.1) (fun p => .inr p.1) (fun p => .tup (p.2.ths.map (Th.d K))) [("name", 2)] (fun p => [some (.adr x), some (wksD K ws), some (.str p.1)]) (by rw [← hnm]; exact vi_lst (pv_sortedS E.b_sorted (pv_listD E.b_list (pv_v 1)) (by rw [List.length_map]; omega))) (by omega) (fun p s H C cl fp => bind_name 2) (fun p hp J s H C cl fp => pv_v 2) (fun p hp J s H C cl fp => pv_tuple E.b_tuple (pv_dget hu1 (.inl rfl) (pv_v 1) (pv_v 2) rfl (hgo _ hp)) (hths p hp)) ?_) ?_)
    · exact nodup_key hnd2
    · exact q
end
end LK
set_option Elab.async false
set_option linter.all false
set_option maxRecDepth 100000
set_option maxHeartbeats 1000000
namespace LK
open PySem PySem.Spec PyProof.Rows L2 DL
abbrev Tb := List (Str × List Wr)
structure RowOk (ws : List Wr) : Prop where
  g : ∀ w ∈ ws, GoodR w
  n : 1 ≤ ws.length
  m : ws.length ≤ 8
  k : kindFault (ws.map (·.k)) = none
structure TbOk (t : Tb) : Prop where
  nd : (t.map (·.1)).Nodup
  nm : ∀ p ∈ t, isNameS p.1 = true
  row : ∀ p ∈ t, RowOk p.2
  n : 1 ≤ t.length
  m : t.length ≤ 6
def rowD (K : PySem.W.Frag) (ws : List Wr) : D := .tup (ws.map (wrD K))
abbrev tbD (K : PySem.W.Frag) (t : Tb) : D := dicT t (·.1) (fun p => rowD K p.2)
def cD (K : PySem.W.Frag) (t : Tb) : D := .slo (cC K) [tbD K t]
def lsW (ws : List Wr) : Wv := .ls (ws.map .wr)
def tpW (ws : List Wr) : Wv := .tp (ws.map .wr)
theorem ths_map (K : PySem.W.Frag) (ws : List Wr) : (ws.map Th.wr).map (Th.d K) = ws.map (wrD K) := by rw [List.map_map]; rfl
theorem kinds_map (ws : List Wr) : (ws.map Th.wr).map Th.kind = ws.map (·.k) := by rw [List.map_map]; rfl
theorem lsW_d (K : PySem.W.Frag) (ws : List Wr) : (lsW ws).d K = .lst (ws.map (wrD K)) := by show D.lst _ = _; rw [ths_map]
theorem isName_len {s : Str} (h : isNameS s = true) : 1 ≤ s.length ∧ s.length ≤ 8 := by
  unfold isNameS at h
  simp only [Bool.and_eq_true, decide_eq_true_eq] at h
  exact ⟨h.1.1, h.1.2⟩
structure PassW (f : Str × List Wr → Wv) : Prop where
  h : ∀ p, f p = lsW p.2 ∨ f p = tpW p.2
theorem PassW.look {f : Str × List Wr → Wv} (h : PassW f) {p : Str × List Wr} (r : RowOk p.2) : lookFault (f p) = none := by
  have e : lookThs (p.2.map Th.wr) = none := by
    unfold lookThs
    rw [List.length_map, if_pos ⟨r.n, r.m⟩, kinds_map, r.k]; rfl
  rcases h.h p with h | h <;> rw [h] <;> exact e
theorem PassW.ths {f : Str × List Wr → Wv} (h : PassW f) (p : Str × List Wr) : (f p).ths = p.2.map Th.wr := by
  rcases h.h p with h | h <;> rw [h] <;> rfl
theorem TbOk.sort {t : Tb} (h : TbOk t) : TbOk (sortW t) :=
  have m : ∀ {p}, p ∈ sortW t → p ∈ t := fun hp => (sortW_perm t).mem_iff.mp hp
  ⟨sortW_nd h.nd, fun p hp => h.nm p (m hp), fun p hp => h.row p (m hp), by rw [(sortW_perm t).length_eq]; exact h.n, by rw [(sortW_perm t).length_eq]; exact h.m⟩
theorem map_fst {α β : Type} (f : Str × α → β) (t : List (Str × α)) : (t.map fun p => (p.1, f p)).map (·.1) = t.map (·.1) := by rw [List.map_map]; rfl
theorem sortW_map' {α β : Type} (f : Str × α → β) {ws : List (Str × α)} (nd : (ws.map (·.1)).Nodup) : sortW (ws.map fun p => (p.1, f p)) = (sortW ws).map fun p => (p.1, f p) := by
  refine (sortW_uniq (by rw [map_fst]; exact nd) ?_ ((sortW_perm ws).map _)).symm
  exact List.pairwise_map.mpr (sortW_pw ws)
section
variable {K : PySem.W.Frag} {t : Tb} {f : Str × List Wr → Wv}
theorem TbOk.wks (h : TbOk t) (hf : PassW f) : WksOk (t.map fun p => (p.1, f p)) := by
  refine ⟨by rw [map_fst]; exact h.nd, fun q hq => ?_, fun q hq => ?_, by rw [List.length_map]; have := h.m; omega⟩
  · obtain ⟨p, hp, rfl⟩ := List.mem_map.mp hq
    have r := h.row p hp
    have hall : (∀ x ∈ p.2.map Th.wr, x.ok) ∧ (p.2.map Th.wr).length ≤ 1000 := ⟨fun x hx => by
      obtain ⟨w, hw, rfl⟩ := List.mem_map.mp hx
      exact (r.g w hw).g.gk, by rw [List.length_map]; have := r.m; omega⟩
    show (f p).ok
    rcases hf.h p with e | e <;> rw [e] <;> exact hall
  · obtain ⟨p, hp, rfl⟩ := List.mem_map.mp hq
    have := isName_len (h.nm p hp)
    show p.1.length ≤ _
    omega
theorem TbOk.none (h : TbOk t) (hf : PassW f) : castFault (t.map fun p => (p.1, f p)) = none := by
  unfold castFault
  rw [List.length_map, if_pos ⟨h.n, h.m⟩, List.findSome?_eq_none_iff]
  intro q hq
  obtain ⟨p, hp, rfl⟩ := List.mem_map.mp ((sortW_perm _).mem_iff.mp hq)
  unfold nameFault
  rw [if_pos (h.nm p hp), hf.look (h.row p hp)]; rfl
theorem TbOk.ctb (h : TbOk t) (hf : PassW f) : ctbD K (t.map fun p => (p.1, f p)) = tbD K (sortW t) := by
  unfold ctbD
  rw [sortW_map' f h.nd]
  show dicD (List.map _ (List.map _ _)) = dicD _
  rw [List.map_map]
  refine congrArg dicD (List.map_congr_left fun p hp => ?_)
  show (_, D.tup (((f p).ths).map (Th.d K))) = _
  rw [hf.ths, ths_map]; rfl
theorem wks_D (t : Tb) (f : Str × List Wr → Wv) : wksD K (t.map fun p => (p.1, f p)) = dicT t (·.1) fun p => (f p).d K := by
  show dicD (List.map _ (List.map _ _)) = dicD _
  rw [List.map_map]; rfl
end
theorem passL : PassW fun p => lsW p.2 := ⟨fun _ => .inl rfl⟩
section
variable {X : Cx} {W : WX} {R : Rx X.K} {I : Iv X.K} {e : Expr} {δ : DEnv} {P : D → Iv X.K → Prop} {pos p : Pos} {t : Tb}
theorem ev_cast (E : Env X.prog X.w X.K X.mg X.base) (tk : Takes X W) (hr : Room 5 X.A) (h : EvX X W R e δ I fun d I1 => ∃ ws, d = wksD X.K ws ∧ WksOk ws ∧ match castFault ws with
    | none => P (.slo (cC X.K) [ctbD X.K ws]) I1
    | some no => R (He.ga X.K "InvalidCast") (xCast X.K no.1 no.2) I1)
    (hg : Gl X "Cast" := by rfl) (hall : (backToKw pos (keywordEach [] X.env)).all (·.1.isSome) = true := by rfl) (hks : (backToKw pos (keywordEach [] X.env)).filterMap (·.1) = ([] : List Str) := by rfl)
    (h1 : starEach [e] X.env = (false, eval e X.env) :: starEach [] X.env := by rfl) (hpl : ((backTo pos (starEach [e] X.env)).any (·.1) || (backToKw pos (keywordEach [] X.env)).any (·.1.isNone)) = false := by rfl) : EvX X W R (.Call (.Name "Cast" p) [e] [] pos) δ I P := by
  obtain ⟨fI, F, g, b1⟩ := M_cInit E
  refine ev_makeSl (ks := []) (fun ds _ => ds) tk E.m_Cast F hr E.g_Cast b1 (fun r1 _ => r1) (ea_cons (h.imp fun d I1 hh => ?_) h1) hg (by decide) hall hks h1 hpl
  obtain ⟨ws, rfl, o, q⟩ := hh
  refine ea_nil (ek_nil ⟨rfl, rfl, fun y dy na => ⟨y, dy, I1, ws, rfl, rfl, o, ?_⟩⟩)
  cases hf : castFault ws with
  | none =>
    rw [hf] at q
    exact ⟨rfl, [ctbD X.K ws], rfl, q⟩
  | some no =>
    rw [hf] at q
    exact ⟨_, rfl, q⟩
theorem pv_castG (E : Env X.prog X.w X.K X.mg X.base) (hr : Room 5 X.A) (o : TbOk t) {f : Str × List Wr → Wv} (hf : PassW f) (h : PV X I e δ (dicT t (·.1) fun p => (f p).d X.K))
    (hg : Gl X "Cast" := by rfl) (hall : (backToKw pos (keywordEach [] X.env)).all (·.1.isSome) = true := by rfl) (hks : (backToKw pos (keywordEach [] X.env)).filterMap (·.1) = ([] : List Str) := by rfl)
    (h1 : starEach [e] X.env = (false, eval e X.env) :: starEach [] X.env := by rfl) (hpl : ((backTo pos (starEach [e] X.env)).any (·.1) || (backToKw pos (keywordEach [] X.env)).any (·.1.isNone)) = false := by rfl) : PV X I (.Call (.Name "Cast" p) [e] [] pos) δ (cD X.K (sortW t)) := fun W R P pp => by
  refine EvX.weak (ev_cast E takesF hr (h.ev ⟨_, (wks_D t f).symm, o.wks hf, ?_⟩) hg hall hks h1 hpl)
  rw [o.none hf]
  show P (.slo _ [ctbD X.K _]) I
  rw [o.ctb hf]
  exact pp
theorem pv_castL (E : Env X.prog X.w X.K X.mg X.base) (hr : Room 5 X.A) (o : TbOk t) (h : PV X I e δ (dicT t (·.1) fun p => .lst (p.2.map (wrD X.K))))
    (hg : Gl X "Cast" := by rfl) (hall : (backToKw pos (keywordEach [] X.env)).all (·.1.isSome) = true := by rfl) (hks : (backToKw pos (keywordEach [] X.env)).filterMap (·.1) = ([] : List Str) := by rfl)
    (h1 : starEach [e] X.env = (false, eval e X.env) :: starEach [] X.env := by rfl) (hpl : ((backTo pos (starEach [e] X.env)).any (·.1) || (backToKw pos (keywordEach [] X.env)).any (·.1.isNone)) = false := by rfl) : PV X I (.Call (.Name "Cast" p) [e] [] pos) δ (cD X.K (sortW t)) :=
  pv_castG E hr o passL (h.is (by simp only [lsW_d])) hg hall hks h1 hpl
end
end LK
set_option Elab.async false
set_option linter.all false
set_option maxRecDepth 100000
set_option maxHeartbeats 1000000
namespace LK
open PySem PySem.Spec PyProof.Rows L2 DL
section
variable {P : Program} {w : World} {K : PySem.W.Frag} {mg : Str → Option Value} {base : Heap}
end
section
variable {X : Cx} {W : WX} {R : Rx X.K} {P : D → Iv X.K → Prop} {I : Iv X.K} {a b c : Expr} {δ : DEnv} {pos p q1 : Pos} {k t l e' : Str}
end
end LK
set_option Elab.async false
set_option linter.all false
set_option maxRecDepth 100000
set_option maxHeartbeats 1000000
namespace LK
open PySem PySem.Spec PyProof.Rows L2 DL
structure Scr (α : Type) where
  up : List (List α)
  cur : List α
  jo : List Bool
  co : Nat
section
variable {α : Type} {w : Nat} {e x : α} {s : Scr α} {b : Bool} {wd : Str} {xs : List α}
def Scr.rows (s : Scr α) : List (List α) := s.up ++ [s.cur]
def sNew (w : Nat) (e : α) : Scr α := ⟨[], List.replicate w e, [false], 0⟩
def sDown (w : Nat) (e : α) (b : Bool) (s : Scr α) : Scr α := ⟨s.up ++ [s.cur], List.replicate w e, s.jo ++ [b], 0⟩
def sErase (e : α) (s : Scr α) : Scr α := { s with cur := s.cur.take s.co ++ List.replicate (s.cur.length - s.co) e }
def sWord1 (wd : Str) (s : Scr α) : Scr α := if wd = "return" ∨ wd = "wipe" then { s with co := 0 } else s
def sWord2 (e : α) (wd : Str) (s : Scr α) : Scr α := if wd = "wipe" ∨ wd = "erase" then sErase e s else s
def sWord3 (w : Nat) (e : α) (wd : Str) (s : Scr α) : Scr α := if wd = "newline" ∨ (wd = "fresh" ∧ 0 < s.co) then sDown w e false s else s
def sWord (w : Nat) (e : α) (wd : Str) (s : Scr α) : Scr α := sWord3 w e wd (sWord2 e wd (sWord1 wd s))
def sWrap (w : Nat) (e : α) (s : Scr α) : Scr α := if s.co = w then sDown w e true s else s
def sPut1 (x : α) (s : Scr α) : Scr α := { s with cur := s.cur.set s.co x, co := s.co + 1 }
def sPut (w : Nat) (e : α) (s : Scr α) (x : α) : Scr α := sPut1 x (sWrap w e s)
def sType (w : Nat) (e : α) (s : Scr α) (xs : List α) : Scr α := xs.foldl (sPut w e) s
def lineAt (jo : List Bool) : Nat := jo.length - 1 - (jo.reverse.takeWhile id).length
def sAbove (w : Nat) (e : α) (s : Scr α) (xs : List α) : Scr α :=
  { s with up := s.up.take (lineAt s.jo) ++ (sType w e (sNew w e) xs).rows ++ s.up.drop (lineAt s.jo), jo := s.jo.take (lineAt s.jo) ++ (sType w e (sNew w e) xs).jo ++ s.jo.drop (lineAt s.jo) }
structure SOk (w : Nat) (s : Scr α) : Prop where
  w1 : 1 ≤ w
  w99 : w ≤ 99
  cl : s.cur.length = w
  ul : ∀ r ∈ s.up, r.length = w
  jl : s.jo.length = s.up.length + 1
  j0 : s.jo[0]? = some false
  cw : s.co ≤ w
theorem SOk.new (h1 : 1 ≤ w) (h2 : w ≤ 99) : SOk w (sNew w e) := ⟨h1, h2, by simp [sNew], (fun r hr => nomatch hr), rfl, rfl, Nat.zero_le _⟩
theorem SOk.down (h : SOk w s) : SOk w (sDown w e b s) := ⟨h.w1, h.w99, by simp [sDown], fun r hr => by
  rcases List.mem_append.mp hr with hr | hr
  · exact h.ul r hr
  · rw [List.mem_singleton.mp hr]; exact h.cl, by simp [sDown, h.jl], by
  show (s.jo ++ [b])[0]? = _
  rw [List.getElem?_append_left (by rw [h.jl]; omega)]; exact h.j0, Nat.zero_le _⟩
theorem SOk.erase (h : SOk w s) : SOk w (sErase e s) := ⟨h.w1, h.w99, by
  show (s.cur.take s.co ++ List.replicate (s.cur.length - s.co) e).length = w
  rw [List.length_append, List.length_take, List.length_replicate]
  have := h.cl
  have := h.cw
  omega, h.ul, h.jl, h.j0, h.cw⟩
theorem SOk.word1 (h : SOk w s) : SOk w (sWord1 wd s) := by
  unfold sWord1
  split
  · exact ⟨h.w1, h.w99, h.cl, h.ul, h.jl, h.j0, Nat.zero_le _⟩
  · exact h
theorem SOk.word2 (h : SOk w s) : SOk w (sWord2 e wd s) := by
  unfold sWord2
  split
  · exact h.erase
  · exact h
theorem SOk.word (h : SOk w s) : SOk w (sWord w e wd s) := by
  unfold sWord sWord3
  split
  · exact h.word1.word2.down
  · exact h.word1.word2
theorem SOk.wrap (h : SOk w s) : SOk w (sWrap w e s) ∧ (sWrap w e s).co < w := by
  unfold sWrap
  have := h.cw
  have := h.w1
  split
  · exact ⟨h.down, by show 0 < w; omega⟩
  · exact ⟨h, by omega⟩
theorem SOk.put1 (h : SOk w s) (hc : s.co < w) : SOk w (sPut1 x s) := ⟨h.w1, h.w99, by show (s.cur.set s.co x).length = w; rw [List.length_set]; exact h.cl, h.ul, h.jl, h.j0, hc⟩
theorem SOk.put (h : SOk w s) : SOk w (sPut w e s x) := h.wrap.1.put1 h.wrap.2
theorem SOk.type : ∀ {xs : List α} {s : Scr α}, SOk w s → SOk w (sType w e s xs)
  | [], _, h => h
  | x :: xs, s, h => SOk.type (xs := xs) (s := sPut w e s x) h.put
theorem lineAt_lt (h : SOk w s) : lineAt s.jo ≤ s.up.length := by unfold lineAt; have := h.jl; omega
theorem SOk.above (h : SOk w s) : SOk w (sAbove w e s xs) := by
  have ho : SOk w (sType w e (sNew w e) xs) := SOk.type (SOk.new h.w1 h.w99)
  have hl := lineAt_lt h
  refine ⟨h.w1, h.w99, h.cl, fun r hr => ?_, ?_, ?_, h.cw⟩
  · rcases List.mem_append.mp hr with hr | hr
    · rcases List.mem_append.mp hr with hr | hr
      · exact h.ul r (List.mem_of_mem_take hr)
      · rcases List.mem_append.mp hr with hr | hr
        · exact ho.ul r hr
        · rw [List.mem_singleton.mp hr]; exact ho.cl
    · exact h.ul r (List.mem_of_mem_drop hr)
  · show (s.jo.take _ ++ _ ++ s.jo.drop _).length = (s.up.take _ ++ _ ++ s.up.drop _).length + 1
    have h1 := ho.jl
    have h2 := h.jl
    unfold Scr.rows
    simp only [List.length_append, List.length_take, List.length_drop, List.length_cons, List.length_nil]
    omega
  · show (s.jo.take (lineAt s.jo) ++ _ ++ s.jo.drop _)[0]? = _
    rw [List.append_assoc]
    by_cases h0 : lineAt s.jo = 0
    · rw [h0, List.take_zero, List.nil_append, List.getElem?_append_left (by rw [ho.jl]; omega)]
      exact ho.j0
    · rw [List.getElem?_append_left (by rw [List.length_take, h.jl]; omega), List.getElem?_take_of_lt (by omega)]
      exact h.j0
end
section
variable {α : Type} (K : PySem.W.Frag) (bl bj : Addr) (qs : List Addr) (q : Addr) (g : α → D) (s : Scr α)
end
section
variable {α : Type} {K : PySem.W.Frag} {bl bj a q : Addr} {qs : List Addr} {g : α → D} {s : Scr α} {e : α} {c : Rc K} {I : Iv K}
end
end LK
set_option Elab.async false
set_option linter.all false
set_option maxRecDepth 100000
set_option maxHeartbeats 1000000
namespace LK
open PySem PySem.Spec PyProof.Rows L2 DL
def isPlainW (w : Wr) : Bool := decide (w.k = "say") && (decide (w.l = "") && decide (w.e = "newline"))
def kAt (ws : List Wr) (k : Nat) : Str := (ws[k]?.map (·.k)).getD ""
def gapsR (p : Str × List Wr) : List (Str × Nat) := ((List.range (p.2.length - 1)).filter fun k => !decide (kAt p.2 k = "ask")).map fun k => (p.1, k)
def gapsT (t : Tb) : List (Str × Nat) := t.flatMap gapsR
def linesR (p : Str × List Wr) : List (Str × Nat) := (p.2.zipIdx.filter fun q => isPlainW q.1).map fun q => (p.1, q.2)
def linesT (t : Tb) : List (Str × Nat) := t.flatMap linesR
def pairD (q : Str × Nat) : D := .tup [.str q.1, .int q.2]
def sNames {K : PySem.W.Frag} : Spec K := fun I ds P _ => ∃ t, ds = [cD K t] ∧ P (.tub (t.map fun p => .str p.1)) I
section
variable {K : PySem.W.Frag} {t : Tb} {p : Str × List Wr}
end
section
variable {P : Program} {w : World} {K : PySem.W.Frag} {mg : Str → Option Value} {base : Heap}
theorem M_names (E : Env P w K mg base) : FnR P w K mg base (L2.CX P w) 1 (gtr K (cC K) "names") (spD K sNames) := mk_m_Cast_names E fun fd F => by
  refine fn_d F sc_m_Cast_names (fun I ds P R h => by obtain ⟨t, rfl, _⟩ := h; rfl) fun cdv A outer s H EE hr tk po I ds Q R h => ?_
  obtain ⟨t, rfl, q⟩ := h
  exact s_one (s_retP (pv_tupleD E.b_tuple (pv_sl E.k_Cast.sc E.s_Cast_table (pv_v 0) rfl)) q)
end
section
variable {X : Cx} {W : WX} {R : Rx X.K} {I : Iv X.K} {e : Expr} {δ : DEnv} {P : D → Iv X.K → Prop} {pos apos : Pos} {t : Tb}
theorem pv_cnames (E : Env X.prog X.w X.K X.mg X.base) (hr : Room 2 X.A) (ha : PV X I e δ (cD X.K t)) (hb : attributeBase e "names" X.env (eval e X.env) = eval e X.env := by rfl) : PV X I (.Attribute e "names" pos) δ (.tub (t.map fun p => .str p.1)) :=
  pv_prop E.k_Cast.sc E.p_Cast_names (M_names E) hr ha (fun P p => ⟨t, rfl, p⟩) hb
end
end LK
set_option Elab.async false
set_option linter.all false
set_option maxRecDepth 100000
set_option maxHeartbeats 1000000
namespace LK
open PySem PySem.Spec PyProof.Rows L2 DL
theorem isName_ok {s : Str} (h : isNameS s = true) : PyData.strOk s = true := by
  unfold isNameS at h
  have h2 := (Bool.and_eq_true_iff.mp h).2
  unfold PyData.strOk
  rw [← Array.all_toList]
  refine List.all_eq_true.mpr fun c hc => ?_
  have k : ∀ c ∈ (Str.ofString "abcdefghijklmnopqrstuvwxyz").cps.toList, (decide (c < 1114112)) = true := by decide +kernel
  exact k c (of_decide_eq_true (List.all_eq_true.mp h2 c hc))
theorem gapsR_fst {p : Str × List Wr} {q : Str × Nat} (h : q ∈ gapsR p) : q.1 = p.1 := by
  unfold gapsR at h
  obtain ⟨k, _, rfl⟩ := List.mem_map.mp h; rfl
theorem TbOk.gapOk {t : Tb} (o : TbOk t) : ∀ q ∈ gapsT t, PyData.strOk q.1 = true := fun q hq => by
  obtain ⟨p, hp, hq⟩ := List.mem_flatMap.mp hq
  rw [gapsR_fst hq]; exact isName_ok (o.nm p hp)
section
variable {X : Cx} {W : WX} {R : Rx X.K} {I : Iv X.K} {e : Expr} {δ : DEnv} {P : D → Iv X.K → Prop} {pos apos : Pos} {t : Tb}
end
end LK
set_option Elab.async false
set_option linter.all false
set_option maxRecDepth 100000
set_option maxHeartbeats 1000000
namespace LK
open PySem PySem.Spec PyProof.Rows L2 DL
def rowOf (t : Tb) (n : Str) : Option (List Wr) := (t.find? fun p => decide (p.1 = n)).map (·.2)
theorem rowOf_some {t : Tb} (nd : (t.map (·.1)).Nodup) {p : Str × List Wr} (hp : p ∈ t) : rowOf t p.1 = some p.2 := by
  unfold rowOf
  cases h : t.find? fun q => decide (q.1 = p.1) with
  | none => exact absurd (List.find?_eq_none.mp h p hp) (by simp)
  | some q =>
    have h1 := List.mem_of_find?_eq_some h
    have h2 : q.1 = p.1 := by simpa using List.find?_some h
    rw [nd_inj nd h1 hp h2]; rfl
theorem rowOf_mem {t : Tb} {n : Str} {ws : List Wr} (h : rowOf t n = some ws) : (n, ws) ∈ t := by
  unfold rowOf at h
  cases e : t.find? fun q => decide (q.1 = n) with
  | none => rw [e] at h; cases h
  | some q =>
    rw [e] at h
    have h1 := List.mem_of_find?_eq_some e
    have h2 : q.1 = n := by simpa using List.find?_some e
    cases h
    rw [← h2]; exact h1
theorem rowOf_none {t : Tb} {n : Str} : rowOf t n = none ↔ n ∉ t.map (·.1) := by
  unfold rowOf
  rw [Option.map_eq_none_iff, List.find?_eq_none]
  constructor
  · intro h hn
    obtain ⟨p, hp, e⟩ := List.mem_map.mp hn
    exact h p hp (by simpa using e)
  · intro h p hp e
    exact h (List.mem_map.mpr ⟨p, hp, by simpa using e⟩)
theorem tb_getO {K : PySem.W.Frag} {t : Tb} (nd : (t.map (·.1)).Nodup) (n : Str) : getG (t.map fun x => ((.inr x.1 : Key), rowD K x.2)) (.inr n) = (rowOf t n).map (rowD K) := by
  cases h : rowOf t n with
  | none => exact getN_dicT (k := fun x : Str × List Wr => x.1) (v := fun x => rowD K x.2) (rowOf_none.mp h)
  | some ws => exact get_dicT (k := fun x : Str × List Wr => x.1) (v := fun x => rowD K x.2) nd (rowOf_mem h)
def total (t : Tb) : Nat := (t.map fun p => p.2.length).sum
def sGetI {K : PySem.W.Frag} : Spec K := fun I ds P R => ∃ t n, ds = [cD K t, .str n] ∧ (t.map (·.1)).Nodup ∧ match rowOf t n with
  | some ws => P (rowD K ws) I
  | none => R (He.ga K "UnknownWork") [("name", .str n)] I
section
variable {P : Program} {w : World} {K : PySem.W.Frag} {mg : Str → Option Value} {base : Heap}
theorem M_cget (E : Env P w K mg base) : FnR P w K mg base (L2.CX P w) 3 (He.ma K (cC K) "__getitem__") (spD K sGetI) := mk_m_Cast_getitem E fun fd F => by
  refine fn_d F sc_m_Cast_getitem (fun I ds P R h => by obtain ⟨t, n, rfl, _⟩ := h; rfl) fun cdv A outer s H EE hr tk po I ds Q R h => ?_
  obtain ⟨t, n, rfl, nd, q⟩ := h
  have hu1 := hr.u1
  have hr2 : Room 2 _ := hr
  have hg := tb_getO (K := K) nd n
  have ht : ∀ {I : Iv K} {p1 p2 : Pos}, PV (cxOf (L2.CX P w) P w K mg base ["self", "name"] "Cast.__getitem__" (defScope m_Cast_getitem) (He.ma K (cC K) "__getitem__") cdv A outer s H EE) I (.Attribute (.Name "self" p1) "table" p2) (dstart ["self", "name"] [cD K t, .str n]) (tbD K t) := pv_sl E.k_Cast.sc E.s_Cast_table (pv_v 0) rfl
  cases hh : rowOf t n with
  | none =>
    rw [hh] at q hg
    refine s_cons (s_ifP (pt_dnin hu1 (.inl rfl) (pv_v 1) ht rfl) (fun e => ?_) fun e => ?_)
    · exact s_one (s_rz (hr := hr2) tk E.x_UnknownWork E.ini_UnknownWork (ea_cons ((pv_v 1).ev (ea_nil ⟨rfl, by simp, q⟩))))
    · rw [hg] at e; cases e
  | some ws =>
    rw [hh] at q hg
    refine s_cons (s_ifP (pt_dnin hu1 (.inl rfl) (pv_v 1) ht rfl) (fun e => ?_) fun e => s_nil ?_)
    · rw [hg] at e; cases e
    · exact s_one (s_retP (pv_dget hu1 (.inl rfl) ht (pv_v 1) rfl hg) q)
end
section
variable {X : Cx} {W : WX} {R : Rx X.K} {I : Iv X.K} {a b : Expr} {δ : DEnv} {P : D → Iv X.K → Prop} {pos p : Pos} {t : Tb} {n : Str} {ws : List Wr}
theorem pv_cget (E : Env X.prog X.w X.K X.mg X.base) (hr : Room 4 X.A) (nd : (t.map (·.1)).Nodup) (ha : PV X I a δ (cD X.K t)) (hb : PV X I b δ (.str n)) (hw : rowOf t n = some ws)
    (hsl : ∀ v i, subscripted b true v i = runValue (.builtin "lifetime.subscript" ⟨[v, i], []⟩) := by intro _ _; with_unfolding_all rfl) : PV X I (.Subscript a b pos) δ (rowD X.K ws) := fun W R P pp =>
  EvX.weak (ev_subOwn takesF E.h_Cast_getitem.f E.h_Cast_getitem.i E.fn_Cast_getitem (M_cget E) hr (ha.ev (hb.ev ⟨insD_slo, t, n, rfl, nd, by rw [hw]; exact pp⟩)) hsl)
theorem pv_cgetT (E : Env X.prog X.w X.K X.mg X.base) (hr : Room 4 X.A) (nd : (t.map (·.1)).Nodup) (ha : PV X I a δ (cD X.K t)) (hb : PV X I b δ (.str n)) (hw : rowOf t n = some ws)
    (hsl : ∀ v i, subscripted b true v i = runValue (.builtin "lifetime.subscript" ⟨[v, i], []⟩) := by intro _ _; with_unfolding_all rfl) : PV X I (.Subscript a b pos) δ (.tup (ws.map (wrD X.K))) := pv_cget E hr nd ha hb hw hsl
end
end LK
set_option Elab.async false
set_option linter.all false
set_option maxRecDepth 100000
set_option maxHeartbeats 1000000
namespace LK
open PySem PySem.Spec PyProof.Rows L2 DL
abbrev cO (K : PySem.W.Frag) : Addr := He.ga K "Course"
abbrev nmT (t : Tb) : List Str := t.map (·.1)
abbrev coF (K : PySem.W.Frag) (t : Tb) (hs : List (Str × Nat)) (q : Addr) : List (Str × D) := [("troupe", cD K t), ("titles", .tub ((nmT t).map D.str)), ("holds", .tup (hs.map pairD)), ("many", .adr q)]
def cAt (cs : List Nat) (i : Nat) : Nat := (cs[i]?).getD 0
def readyS (t : Tb) (cs : List Nat) (b : Str) : List Str := (((nmT t).zipIdx.filter fun p => decide (cAt cs p.2 < ((rowOf t p.1).getD []).length)).map (·.1)).filter fun n => decide (b = "") || decide (b = n)
def afterC (t : Tb) (cs : List Nat) (n : Str) : List Nat := cs.set ((nmT t).idxOf n) (cAt cs ((nmT t).idxOf n) + 1)
def afterB (t : Tb) (hs : List (Str × Nat)) (cs : List Nat) (n : Str) : Str := if (n, cAt cs ((nmT t).idxOf n)) ∈ hs then n else ""
structure CoI {K : PySem.W.Frag} (I : Iv K) (x : Addr) (t : Tb) (hs : List (Str × Nat)) : Prop where
  ex : ∃ (c : Rc K) (dx q : Addr), I = c.fill (iIns K x (cO K) dx (coF K t hs q))
theorem TbOk.tot {t : Tb} (o : TbOk t) : total t ≤ 48 := by
  have h : ∀ {s : Tb}, (∀ p ∈ s, p ∈ t) → total s ≤ 8 * s.length := by
    intro s
    induction s with
    | nil => intro _; simp [total]
    | cons p s ih =>
      intro h
      have h1 := (o.row p (h p (by simp))).m
      have h2 := ih fun q hq => h q (by simp [hq])
      show p.2.length + total s ≤ 8 * (s.length + 1)
      omega
  have := h (s := t) fun p hp => hp
  have := o.m
  omega
section
variable {P : Program} {w : World} {K : PySem.W.Frag} {mg : Str → Option Value} {base : Heap}
end
end LK
set_option Elab.async false
set_option linter.all false
set_option maxRecDepth 100000
set_option maxHeartbeats 1000000
namespace LK
open PySem PySem.Spec PyProof.Rows L2 DL
def st0 (t : Tb) : List Nat × Str := (List.replicate t.length 0, "")
structure Whole (t : Tb) (ns : List Str) : Prop where
  sub : ∀ n ∈ ns, n ∈ nmT t
  cnt : ∀ p ∈ t, ns.count p.1 = p.2.length
def posOf (ns : List Str) (n : Str) : List Nat := (ns.zipIdx.filter fun p => decide (p.1 = n)).map (·.2)
def brk (ns : List Str) (q : Str × Nat) : Bool := decide ((posOf ns q.1).getD q.2 0 + 1 < (posOf ns q.1).getD (q.2 + 1) 0)
end LK
set_option Elab.async false
set_option linter.all false
set_option maxRecDepth 100000
set_option maxHeartbeats 1000000
namespace LK
open PySem PySem.Spec PyProof.Rows L2 DL
section
variable {X : Cx} {W : WX} {R : Rx X.K} {I : Iv X.K} {o a b e : Expr} {δ : DEnv} {P : D → Iv X.K → Prop} {pos apos p : Pos} {t : Tb} {hs : List (Str × Nat)} {x : Addr} {cs : List Nat} {n : Str}
theorem CoI.ins {m : Str} (h : CoI I x t hs) (hm : ∀ q : Addr, (coF X.K t hs q).lookup m = none := by intro _; rfl) : InsD (cO X.K) m (.adr x) I := by
  obtain ⟨c, dx, q, rfl⟩ := h.ex
  exact insD_ins c (hm q)
end
theorem ready_nm {t : Tb} {cs : List Nat} {b n : Str} (h : n ∈ readyS t cs b) : n ∈ nmT t := by
  unfold readyS at h
  obtain ⟨h, _⟩ := List.mem_filter.mp h
  obtain ⟨p, hp, rfl⟩ := List.mem_map.mp h
  exact List.mem_of_getElem? (mem_zipIdx (x := p.1) (i := p.2) (List.mem_filter.mp hp).1)
section
variable {P : Program} {w : World} {K : PySem.W.Frag} {mg : Str → Option Value} {base : Heap}
end
end LK
set_option Elab.async false
set_option linter.all false
set_option maxRecDepth 100000
set_option maxHeartbeats 1000000
namespace LK
open PySem PySem.Spec PyProof.Rows L2 DL
def cntS (t : Tb) (hs : List (Str × Nat)) : Nat → List Nat → Str → Nat
  | 0, cs, _ => if cs.sum = total t then 1 else 0
  | n + 1, cs, b => if cs.sum = total t then 1 else ((readyS t cs b).map fun m => cntS t hs n (afterC t cs m) (afterB t hs cs m)).sum
def cnt (t : Tb) (hs : List (Str × Nat)) (cs : List Nat) (b : Str) : Nat := cntS t hs (total t - cs.sum) cs b
structure VS (t : Tb) (cs : List Nat) (b : Str) : Prop where
  len : cs.length = t.length
  le : ∀ i p, t[i]? = some p → cAt cs i ≤ p.2.length
  bd : b = "" ∨ b ∈ nmT t
def keyOf (cs : List Nat) (b : Str) : NestedKey := .tup [.tup (cs.map fun n : Nat => .num n), .text b]
theorem keyOf_inj {cs ds : List Nat} {b e : Str} (h : keyOf cs b = keyOf ds e) : cs = ds ∧ b = e := by
  unfold keyOf at h
  injection h with h
  injection h with h1 h2
  injection h1 with h1
  injection h2 with h2
  injection h2 with h2
  refine ⟨?_, h2⟩
  clear h2
  induction cs generalizing ds with
  | nil => cases ds with
    | nil => rfl
    | cons _ _ => cases h1
  | cons c cs ih => cases ds with
    | nil => cases h1
    | cons d ds =>
      injection h1 with h3 h4
      injection h3 with h3
      rw [ih h4]
      congr 1; omega
structure MemoOk (t : Tb) (hs : List (Str × Nat)) (kds : List (NestedKey × D)) : Prop where
  nd : (kds.map (·.1)).Nodup
  at_ : ∀ p ∈ kds, ∃ cs b, VS t cs b ∧ p = (keyOf cs b, .int (cnt t hs cs b))
def Grow (kds kds' : List (NestedKey × D)) (m : Nat) : Prop := ∀ p ∈ kds', p ∈ kds ∨ ∃ cs b, p.1 = keyOf cs b ∧ m ≤ cs.sum
theorem sum_le_rows : ∀ (cs rs : List Nat), cs.length = rs.length → (∀ (i : Nat) (c r : Nat), cs[i]? = some c → rs[i]? = some r → c ≤ r) → cs.sum ≤ rs.sum
  | [], [], _, _ => Nat.le_refl _
  | c :: cs, r :: rs, hl, h => by
    rw [List.sum_cons, List.sum_cons]
    have h1 := h 0 c r rfl rfl
    have h2 := sum_le_rows cs rs (by simpa using hl) fun i c r hc hr => h (i + 1) c r (by simpa using hc) (by simpa using hr)
    omega
  | [], _ :: _, hl, _ => by simp at hl
  | _ :: _, [], hl, _ => by simp at hl
theorem sum_set1 : ∀ (cs : List Nat) (i : Nat), i < cs.length → (cs.set i (cAt cs i + 1)).sum = cs.sum + 1
  | c :: cs, 0, _ => by
    show (c + 1) + cs.sum = c + cs.sum + 1
    omega
  | c :: cs, i + 1, h => by
    have ih := sum_set1 cs i (by simpa using h)
    have e : cAt (c :: cs) (i + 1) = cAt cs i := by unfold cAt; simp
    rw [e]
    show c + (cs.set i (cAt cs i + 1)).sum = c + cs.sum + 1
    omega
theorem VS.sum {t : Tb} {cs : List Nat} {b : Str} (v : VS t cs b) : cs.sum ≤ total t := by
  unfold total
  refine sum_le_rows cs _ (by rw [List.length_map]; exact v.len) fun i c r hc hr => ?_
  rw [List.getElem?_map] at hr
  cases e : t[i]? with
  | none => rw [e] at hr; cases hr
  | some p =>
    rw [e] at hr
    have := v.le i p e
    unfold cAt at this
    rw [hc] at this
    cases hr
    exact this
theorem VS.start (t : Tb) : VS t (st0 t).1 (st0 t).2 := by
  refine ⟨by unfold st0; simp, fun i p hp => ?_, .inl rfl⟩
  unfold st0 cAt
  show ((List.replicate t.length 0)[i]?).getD 0 ≤ _
  rw [List.getElem?_replicate]
  split <;> simp
theorem ready_at {t : Tb} (o : TbOk t) {cs : List Nat} {b m : Str} (hm : m ∈ readyS t cs b) : ∃ i p, t[i]? = some p ∧ p.1 = m ∧ (nmT t).idxOf m = i ∧ cAt cs i < p.2.length := by
  unfold readyS at hm
  obtain ⟨h, _⟩ := List.mem_filter.mp hm
  obtain ⟨⟨n, i⟩, hp, rfl⟩ := List.mem_map.mp h
  obtain ⟨hz, hc⟩ := List.mem_filter.mp hp
  have hg := mem_zipIdx hz
  have hg2 := hg
  rw [List.getElem?_map] at hg
  cases e : t[i]? with
  | none => rw [e] at hg; cases hg
  | some p =>
    rw [e] at hg
    have en : p.1 = n := Option.some.inj hg
    refine ⟨i, p, e, en, ?_, ?_⟩
    · have hl := (List.getElem?_eq_some_iff.mp hg2).1
      have hv := (List.getElem?_eq_some_iff.mp hg2).2
      have nd : (nmT t).Nodup := o.nd
      have hi := List.idxOf_lt_length_of_mem (List.mem_of_getElem? hg2)
      have e2 : (nmT t)[(nmT t).idxOf n] = n := List.getElem_idxOf hi
      exact (List.getElem_inj nd).mp (e2.trans hv.symm)
    · have hw : rowOf t n = some p.2 := by rw [← en]; exact rowOf_some o.nd (List.mem_of_getElem? e)
      have hc : decide (cAt cs i < ((rowOf t n).getD []).length) = true := hc
      rw [hw] at hc
      exact of_decide_eq_true hc
theorem VS.after {t : Tb} (o : TbOk t) {hs : List (Str × Nat)} {cs : List Nat} {b m : Str} (v : VS t cs b) (hm : m ∈ readyS t cs b) : VS t (afterC t cs m) (afterB t hs cs m) ∧ (afterC t cs m).sum = cs.sum + 1 := by
  obtain ⟨i, p, hp, e1, e2, hlt⟩ := ready_at o hm
  have hi : i < cs.length := by rw [v.len]; exact (List.getElem?_eq_some_iff.mp hp).1
  unfold afterC
  rw [e2]
  refine ⟨⟨by rw [List.length_set]; exact v.len, fun j r hr => ?_, ?_⟩, sum_set1 cs i hi⟩
  · unfold cAt
    rw [List.getElem?_set]
    by_cases hj : i = j
    · subst hj
      rw [if_pos rfl, if_pos hi]
      rw [hp] at hr
      cases hr
      exact hlt
    · rw [if_neg hj]
      exact v.le j r hr
  · unfold afterB
    split
    · exact .inr (ready_nm hm)
    · exact .inl rfl
theorem nodup_len {α : Type} : ∀ {l m : List α}, l.Nodup → (∀ x ∈ l, x ∈ m) → l.length ≤ m.length
  | [], _, _, _ => Nat.zero_le _
  | x :: l, m, nd, h => by
    classical
    obtain ⟨h1, h2⟩ := List.nodup_cons.mp nd
    have hx := h x (by simp)
    have h3 := nodup_len (l := l) (m := m.erase x) h2 fun y hy => (List.mem_erase_of_ne (fun e => h1 (by rw [← e]; exact hy))).mpr (h y (by simp [hy]))
    have h4 := List.length_erase_of_mem hx
    have h5 := List.length_pos_of_mem hx
    rw [List.length_cons]; omega
def allCs : List Nat → List (List Nat)
  | [] => [[]]
  | r :: rs => (List.range (r + 1)).flatMap fun k => (allCs rs).map (k :: ·)
theorem allCs_mem : ∀ (cs rs : List Nat), cs.length = rs.length → (∀ (i : Nat) (c r : Nat), cs[i]? = some c → rs[i]? = some r → c ≤ r) → cs ∈ allCs rs
  | [], [], _, _ => by simp [allCs]
  | c :: cs, r :: rs, hl, h => by
    have h1 := h 0 c r rfl rfl
    have h2 := allCs_mem cs rs (by simpa using hl) fun i c r hc hr => h (i + 1) c r (by simpa using hc) (by simpa using hr)
    exact List.mem_flatMap.mpr ⟨c, List.mem_range.mpr (by omega), List.mem_map.mpr ⟨cs, h2, rfl⟩⟩
  | [], _ :: _, hl, _ => by simp at hl
  | _ :: _, [], hl, _ => by simp at hl
theorem sum_const {α : Type} (n : Nat) : ∀ l : List α, (l.map fun _ => n).sum = l.length * n
  | [] => by simp
  | _ :: l => by rw [List.map_cons, List.sum_cons, sum_const n l, List.length_cons, Nat.succ_mul]; omega
theorem allCs_len : ∀ (rs : List Nat), (∀ r ∈ rs, r ≤ 3) → (allCs rs).length ≤ 4 ^ rs.length
  | [], _ => Nat.le_refl _
  | r :: rs, h => by
    have h1 := h r (by simp)
    have h2 := allCs_len rs fun r hr => h r (by simp [hr])
    show ((List.range (r + 1)).flatMap fun k => (allCs rs).map (k :: ·)).length ≤ 4 ^ (rs.length + 1)
    have e : ((List.range (r + 1)).flatMap fun k => (allCs rs).map (k :: ·)).length = (r + 1) * (allCs rs).length := by
      rw [List.length_flatMap]
      simp only [List.length_map]
      rw [sum_const, List.length_range]
    rw [e, Nat.pow_succ, Nat.mul_comm (4 ^ rs.length)]
    exact Nat.mul_le_mul (by omega) h2
structure Small (t : Tb) : Prop where
  s : ∀ p ∈ t, p.2.length ≤ 3
theorem MemoOk.len {t : Tb} (o : TbOk t) (sm : Small t) {hs : List (Str × Nat)} {kds : List (NestedKey × D)} (h : MemoOk t hs kds) : kds.length < 100000 := by
  have h1 : kds.length ≤ ((allCs (t.map fun p => p.2.length)).flatMap fun cs => ((("" : Str)) :: nmT t).map (keyOf cs)).length := by
    have := nodup_len (l := kds.map (·.1)) (m := (allCs (t.map fun p => p.2.length)).flatMap fun cs => ((("" : Str)) :: nmT t).map (keyOf cs)) h.nd fun k hk => by
      obtain ⟨p, hp, rfl⟩ := List.mem_map.mp hk
      obtain ⟨cs, b, v, e⟩ := h.at_ p hp
      rw [e]
      refine List.mem_flatMap.mpr ⟨cs, allCs_mem cs _ (by rw [List.length_map]; exact v.len) fun i c r hc hr => ?_, List.mem_map.mpr ⟨b, ?_, rfl⟩⟩
      · rw [List.getElem?_map] at hr
        cases e2 : t[i]? with
        | none => rw [e2] at hr; cases hr
        | some p =>
          rw [e2] at hr
          have := v.le i p e2
          unfold cAt at this
          rw [hc] at this
          cases hr
          exact this
      · rcases v.bd with hb | hb
        · rw [hb]; simp
        · exact List.mem_cons_of_mem _ hb
    rwa [List.length_map] at this
  have h2 : ((allCs (t.map fun p => p.2.length)).flatMap fun cs => ((("" : Str)) :: nmT t).map (keyOf cs)).length = (allCs (t.map fun p => p.2.length)).length * (t.length + 1) := by
    rw [List.length_flatMap]
    simp only [List.length_map, List.length_cons]
    rw [sum_const]
  have h3 := allCs_len (t.map fun p => p.2.length) fun r hr => by
    obtain ⟨p, hp, rfl⟩ := List.mem_map.mp hr
    exact sm.s p hp
  rw [List.length_map] at h3
  have h4 : 4 ^ t.length ≤ 4 ^ 6 := Nat.pow_le_pow_right (by decide) o.m
  have h5 := o.m
  have h6 : (allCs (t.map fun p => p.2.length)).length * (t.length + 1) ≤ 4096 * 7 := Nat.mul_le_mul (Nat.le_trans h3 (Nat.le_trans h4 (by decide))) (by omega)
  rw [h2] at h1
  omega
end LK
set_option Elab.async false
set_option linter.all false
set_option maxRecDepth 100000
set_option maxHeartbeats 1000000
namespace LK
open PySem PySem.Spec PyProof.Rows L2 DL
section
variable {P : Program} {w : World} {K : PySem.W.Frag} {c : Rc K} {x dx q : Addr} {t : Tb} {hs : List (Str × Nat)} {kds : List (NestedKey × D)}
end
theorem getN_mem {kds : List (NestedKey × D)} {k : NestedKey} {d : D} (h : getN kds k = some d) : (k, d) ∈ kds := by
  unfold getN at h
  cases e : kds.find? fun p => decide (p.1 = k) with
  | none => rw [e] at h; cases h
  | some p =>
    rw [e] at h
    have h1 := List.mem_of_find?_eq_some e
    have h2 : p.1 = k := by simpa using List.find?_some e
    cases h
    rw [← h2]; exact h1
theorem getN_none {kds : List (NestedKey × D)} {k : NestedKey} (h : ∀ p ∈ kds, p.1 ≠ k) : getN kds k = none := by
  unfold getN
  rw [Option.map_eq_none_iff, List.find?_eq_none]
  intro p hp
  simpa using h p hp
theorem getN_not {kds : List (NestedKey × D)} {k : NestedKey} (h : getN kds k = none) : ∀ p ∈ kds, p.1 ≠ k := by
  unfold getN at h
  rw [Option.map_eq_none_iff, List.find?_eq_none] at h
  intro p hp e
  exact h p hp (by simpa using e)
theorem Grow.refl (kds : List (NestedKey × D)) (m : Nat) : Grow kds kds m := fun _ h => .inl h
theorem Grow.trans {a b c : List (NestedKey × D)} {m n : Nat} (h1 : Grow a b m) (h2 : Grow b c n) (hn : m ≤ n) : Grow a c m := fun p hp => by
  rcases h2 p hp with h | ⟨cs, b, e, hl⟩
  · exact h1 p h
  · exact .inr ⟨cs, b, e, by omega⟩
theorem Grow.weak {a b : List (NestedKey × D)} {m n : Nat} (h : Grow a b n) (hn : m ≤ n) : Grow a b m := fun p hp => (h p hp).imp id fun ⟨cs, b, e, hl⟩ => ⟨cs, b, e, by omega⟩
theorem MemoOk.val {t : Tb} {hs : List (Str × Nat)} {kds : List (NestedKey × D)} (h : MemoOk t hs kds) {cs : List Nat} {b : Str} {d : D} (hd : getN kds (keyOf cs b) = some d) : d = .int (cnt t hs cs b) := by
  obtain ⟨cs', b', _, e⟩ := h.at_ _ (getN_mem hd)
  obtain ⟨e1, e2⟩ := keyOf_inj (Prod.mk.inj e).1
  rw [(Prod.mk.inj e).2, e1, e2]
theorem MemoOk.add {t : Tb} {hs : List (Str × Nat)} {kds : List (NestedKey × D)} (h : MemoOk t hs kds) {cs : List Nat} {b : Str} (v : VS t cs b) (hn : getN kds (keyOf cs b) = none) : MemoOk t hs (kds ++ [(keyOf cs b, .int (cnt t hs cs b))]) := by
  refine ⟨?_, fun p hp => ?_⟩
  · rw [List.map_append, List.nodup_append]
    refine ⟨h.nd, by simp, ?_⟩
    intro k hk k' hk' e
    obtain ⟨p, hp, rfl⟩ := List.mem_map.mp hk
    simp only [List.map_cons, List.map_nil, List.mem_singleton] at hk'
    exact getN_not hn p hp (e.trans hk')
  · rcases List.mem_append.mp hp with hp | hp
    · exact h.at_ p hp
    · exact ⟨cs, b, v, List.mem_singleton.mp hp⟩
section
variable {P : Program} {w : World} {K : PySem.W.Frag} {mg : Str → Option Value} {base : Heap}
end
end LK
set_option Elab.async false
set_option linter.all false
set_option maxRecDepth 100000
set_option maxHeartbeats 1000000
namespace LK
open PySem PySem.Spec PyProof.Rows L2 DL
section
variable {P : Program} {w : World} {K : PySem.W.Frag} {mg : Str → Option Value} {base : Heap}
end
end LK
set_option Elab.async false
set_option linter.all false
set_option maxRecDepth 100000
set_option maxHeartbeats 1000000
namespace LK
open PySem PySem.Spec PyProof.Rows L2 DL
theorem Small.tot {t : Tb} (o : TbOk t) (sm : Small t) : total t ≤ 18 := by
  have h : ∀ {s : Tb}, (∀ p ∈ s, p ∈ t) → total s ≤ 3 * s.length := by
    intro s
    induction s with
    | nil => intro _; simp [total]
    | cons p s ih =>
      intro h
      have h1 := sm.s p (h p (by simp))
      have h2 := ih fun q hq => h q (by simp [hq])
      show p.2.length + total s ≤ 3 * (s.length + 1)
      omega
  have := h (s := t) fun p hp => hp
  have := o.m
  omega
theorem MemoOk.nil {t : Tb} {hs : List (Str × Nat)} : MemoOk t hs [] := ⟨List.nodup_nil, fun p hp => nomatch hp⟩
section
variable {X : Cx} {W : WX} {R : Rx X.K} {I : Iv X.K} {o a b : Expr} {δ : DEnv} {PP : D → Iv X.K → Prop} {pos apos : Pos} {c : Rc X.K} {x dx q : Addr} {t : Tb} {hs : List (Str × Nat)} {kds : List (NestedKey × D)} {cs : List Nat} {n : Str}
end
section
variable {P : Program} {w : World} {K : PySem.W.Frag} {mg : Str → Option Value} {base : Heap}
end
end LK
set_option Elab.async false
set_option linter.all false
set_option maxRecDepth 100000
set_option maxHeartbeats 1000000
namespace LK
open PySem PySem.Spec PyProof.Rows L2 DL
def allO (t : Tb) (hs : List (Str × Nat)) : Nat → List Nat → Str → List (List Str)
  | 0, cs, _ => if cs.sum = total t then [[]] else []
  | n + 1, cs, b => if cs.sum = total t then [[]] else (readyS t cs b).flatMap fun m => (allO t hs n (afterC t cs m) (afterB t hs cs m)).map (m :: ·)
def allF (t : Tb) (hs : List (Str × Nat)) (s : List Nat × Str) : List (List Str) := allO t hs (total t - s.1.sum) s.1 s.2
def stO (t : Tb) (hs : List (Str × Nat)) (ns : List Str) : List Nat × Str := ns.foldl (fun s n => (afterC t s.1 n, afterB t hs s.1 n)) (st0 t)
theorem stO_snoc {t : Tb} {hs : List (Str × Nat)} (ns : List Str) (m : Str) : stO t hs (ns ++ [m]) = (afterC t (stO t hs ns).1 m, afterB t hs (stO t hs ns).1 m) := by
  unfold stO; rw [List.foldl_append]; rfl
def prefO (t : Tb) (hs : List (Str × Nat)) : Nat → List (List Str)
  | 0 => [[]]
  | k + 1 => (prefO t hs k).flatMap fun ns => (readyS t (stO t hs ns).1 (stO t hs ns).2).map fun m => ns ++ [m]
theorem st0_sum (t : Tb) : (st0 t).1.sum = 0 := by
  unfold st0
  show (List.replicate t.length 0).sum = 0
  simp
theorem prefO_ok {t : Tb} (o : TbOk t) {hs : List (Str × Nat)} : ∀ (k : Nat) (ns : List Str), ns ∈ prefO t hs k → VS t (stO t hs ns).1 (stO t hs ns).2 ∧ (stO t hs ns).1.sum = k ∧ ns.length = k
  | 0, ns, h => by
    have e : ns = [] := by simpa [prefO] using h
    subst e
    exact ⟨VS.start t, st0_sum t, rfl⟩
  | k + 1, ns, h => by
    obtain ⟨p, hp, hn⟩ := List.mem_flatMap.mp h
    obtain ⟨m, hm, rfl⟩ := List.mem_map.mp hn
    obtain ⟨v, hsum, hl⟩ := prefO_ok o k p hp
    rw [stO_snoc]
    obtain ⟨v2, s2⟩ := v.after o (hs := hs) hm
    exact ⟨v2, by rw [s2, hsum], by simp [hl]⟩
end LK
set_option Elab.async false
set_option linter.all false
set_option maxRecDepth 100000
set_option maxHeartbeats 400000
namespace LK
open PySem PySem.Spec PyProof.Rows L2 DL
def ahead (t : Tb) (hs : List (Str × Nat)) (s : List Nat × Str) (pre : List Str) : Nat := (pre.map fun m => cnt t hs (afterC t s.1 m) (afterB t hs s.1 m)).sum
end LK
set_option Elab.async false
set_option linter.all false
set_option maxRecDepth 100000
set_option maxHeartbeats 400000
namespace LK
open PySem PySem.Spec PyProof.Rows L2 DL
end LK
set_option Elab.async false
set_option linter.all false
set_option maxRecDepth 100000
set_option maxHeartbeats 400000
namespace LK
open PySem PySem.Spec PyProof.Rows L2 DL
end LK
set_option Elab.async false
set_option linter.all false
set_option maxRecDepth 100000
set_option maxHeartbeats 400000
namespace LK
open PySem PySem.Spec PyProof.Rows L2 DL
theorem snoc_ind {α : Type} {Q : List α → Prop} (h0 : Q []) (h1 : ∀ l a, Q l → Q (l ++ [a])) (l : List α) : Q l := by
  have h : ∀ r : List α, Q r.reverse := fun r => by
    induction r with
    | nil => exact h0
    | cons a r ih => rw [List.reverse_cons]; exact h1 _ _ ih
  have := h l.reverse
  rwa [List.reverse_reverse] at this
end LK
set_option Elab.async false
set_option linter.all false
set_option maxRecDepth 100000
set_option maxHeartbeats 1000000
namespace LK
open PySem PySem.Spec PyProof.Rows L2 DL
end LK
set_option Elab.async false
set_option linter.all false
set_option maxRecDepth 100000
set_option maxHeartbeats 1000000
namespace LK
open PySem PySem.Spec PyProof.Rows L2 DL
section
variable {P : Program} {w : World} {K : PySem.W.Frag} {mg : Str → Option Value} {base : Heap} {f : Addr} {fd : FuncData}
theorem ok_mix (F : FnP K "_law_mix" "_law_mix" f_Lmix f fd) (E : Env P w K mg base) : FnOk P w K mg base (L2.CX P w) 1 f fd ["_law_script", "_law_seed"] (spD K (sMix 14)) := by
  refine fn_d F sc_f_Lmix (fun I ds P R h => by obtain ⟨ns, seed, rfl, _⟩ := h; rfl) fun cdv A outer s H EE hr tk po I ds Q R h => ?_
  obtain ⟨ns, seed, rfl, hl, q⟩ := h
  have nd := sc_f_Lmix.nd
  refine s_cons (s_setP 2 (pv_v 1) ?_)
  refine s_cons (s_for po (ei_lst ((pv_v (d := .lsf (ns.map D.int)) 0).ev ⟨_, .inr rfl, fun i δ' I' => I' = I ∧ ∃ (st : Int) (o : Option D), δ' = [some (.lsf (ns.map D.int)), some (.int seed), some (.int st), o], ⟨rfl, seed, none, rfl⟩, ?_, ?_⟩)))
  · rintro i d δ' I' hd ⟨rfl, st, o, rfl⟩
    obtain ⟨n, hn⟩ : ∃ n, d = .int n := by
      rw [List.getElem?_map] at hd
      cases e : ns[i]? with
      | none => rw [e] at hd; cases hd
      | some n => rw [e] at hd; exact ⟨n, (Option.some.inj hd).symm⟩
    subst hn
    refine ⟨_, [3], bind_name 3, ?_⟩
    refine s_one (s_setP 2 (pv_op op_modN (pv_ct call_int1 E.b_int (va_cons (pv_op op_add (pv_op op_add (pv_op op_mul (pv_v 2) pv_int (p2_mul (.inr (by decide)))) (pv_op op_modN (pv_ct call_int1 E.b_int (va_cons (pv_v 3) va_nil) pn_int) pv_int (p2_mod (by decide))) p2_add) pv_int p2_add) va_nil) pn_int) pv_int (p2_mod (by decide))) ?_)
    exact ⟨rfl, _, _, rfl⟩
  · rintro δ' I' ⟨rfl, st, o, rfl⟩
    exact s_one (s_ret (ev_reg (ev_lstMM (ea_cons ((pv_v 2).ev (ea_cons (ev_ct call_list_of E.b_list (ea_cons ((pv_v 0).ev (ea_nil (on_listM (.inr (.inl rfl)) fun b hb => ea_cons (pv_int.ev (ea_cons (pv_int.ev (ea_nil ⟨by show 4 ≤ 1000; decide, fun a ha => ⟨_, iDr_of2 hl, q a b⟩⟩)))))))))))))))
theorem modm {k : Int} {l : Nat} : ∃ j : Nat, k.fmod (if (l : Int) > 1 then (l : Int) else 1) = j ∧ (j < l ∨ (l = 0 ∧ j = 0)) := by
  by_cases h : (l : Int) > 1
  · rw [if_pos h, Int.fmod_eq_emod_of_nonneg _ (by omega)]
    have h1 := Int.emod_nonneg k (show (l : Int) ≠ 0 by omega)
    have h2 := Int.emod_lt_of_pos k (show (0 : Int) < l by omega)
    exact ⟨(k % (l : Int)).toNat, by omega, by omega⟩
  · rw [if_neg h]
    exact ⟨0, by rw [Int.fmod_one]; rfl, by omega⟩
theorem atI_nat' {α : Type} {xs : List α} {j : Nat} {x : α} (h : xs[j]? = some x) : atI xs (j : Int) = some x := by
  have hl := (List.getElem?_eq_some_iff.mp h).1
  unfold atI ixN
  rw [if_pos (by omega), if_pos (by omega)]
  simpa using h
theorem ixN_nat {n j : Nat} (h : j < n) : ixN n (j : Int) = some j := by
  unfold ixN
  rw [if_pos (by omega), if_pos (by omega)]
  simp
theorem fmod_pos {z n : Int} (h : 0 < n) : 0 ≤ z.fmod n ∧ z.fmod n < n := by
  rw [Int.fmod_eq_emod_of_nonneg _ (by omega)]
  exact ⟨Int.emod_nonneg _ (by omega), Int.emod_lt_of_pos _ h⟩
theorem ok_next (F : FnP K "_law_next" "_law_next" f_Lnext f fd) (E : Env P w K mg base) : FnOk P w K mg base (L2.CX P w) 1 f fd ["_law_h", "_law_bound"] (spD K sNext) := by
  refine fn_d F sc_f_Lnext (fun I ds P R h => by obtain ⟨a, b, c, n, rfl, _⟩ := h; rfl) fun cdv A outer s H EE hr tk po I ds Q R h => ?_
  obtain ⟨a, b, c, n, rfl, rfl, n0, n1, q⟩ := h
  have nd := sc_f_Lnext.nd
  refine iDr_open fun st k m ns hl => ?_
  have eA : ∀ st k ns, c.fill (iDrC K a b st k m ns) = (c.comp (.l .here (iLst K b (ns.map D.int)))).fill (iLst K a [.int st, .adr b, .int k, .int m]) := fun st k ns => (fill_comp (I := iLst K a [.int st, .adr b, .int k, .int m]) (.l .here (iLst K b (ns.map D.int))) c).symm
  have eB : ∀ st k ns, c.fill (iDrC K a b st k m ns) = (c.comp (.r (iLst K a [.int st, .adr b, .int k, .int m]) .here)).fill (iLst K b (ns.map D.int)) := fun st k ns => (fill_comp (I := iLst K b (ns.map D.int)) (.r (iLst K a [.int st, .adr b, .int k, .int m]) .here) c).symm
  -- the place in the script
  obtain ⟨j, hj, hjl⟩ := modm (k := k) (l := (ns.map D.int).length)
  rw [List.length_map] at hjl
  obtain ⟨z, hz, hz0⟩ : ∃ z : Int, (ns.map D.int ++ [D.int 0])[j]? = some (.int z) ∧ (ns = [] → z = 0) := by
    rcases hjl with h | ⟨h, h0⟩
    · exact ⟨ns[j], by rw [List.getElem?_append_left (by simpa using h), List.getElem?_map, List.getElem?_eq_getElem h]; rfl, fun e => by subst e; simp at h⟩
    · have e : ns = [] := List.length_eq_zero_iff.mp h
      subst e h0
      exact ⟨0, rfl, fun _ => rfl⟩
  have m0 : (if ((ns.map D.int).length : Int) > 1 then ((ns.map D.int).length : Int) else 1) ≠ 0 := by split <;> omega
  refine s_cons (s_setP (d := .int z) 2 (pv_ix ix_list (pv_op op_cat (pv_ix ix_list (pv_v 0) pv_int (p2_ixM _ (by rfl) (eA _ _ _))) (pv_lst (va_cons pv_int va_nil)) (p2_catMK _ (by rw [List.length_map]; show ns.length + 1 ≤ _; omega) (eB _ _ _))) (pv_op op_modN (pv_ct call_int1 E.b_int (va_cons (pv_ix ix_list (pv_v 0) pv_int (p2_ixM _ (by rfl) (eA _ _ _))) va_nil) pn_int) (pv_cb (call_max2 rfl) E.b_max (va_cons pv_int (va_cons (pv_cb call_len_seq E.b_len (va_cons (pv_ix ix_list (pv_v 0) pv_int (p2_ixM _ (by rfl) (eA _ _ _))) va_nil) (pn_lenM _ (eB _ _ _))) va_nil)) pn_max2) (p2_mod m0)) (p2_ixL (by rw [hj]; exact atI_nat' hz))) ?_)
  refine s_cons (s_ifP (pt_cmp op_ge (pv_v 2) (pv_op op_pow pv_int pv_int (p2_pow ⟨by decide, by decide, by decide⟩)) p2_ge) (fun e => ?_) fun e => s_nil ?_)
  · have e2 : (10 : Int) ^ (18 : Int).toNat ≤ z := by simpa using e
    have hjn : j < ns.length := by
      rcases hjl with h | ⟨h, h0⟩
      · exact h
      · have e3 : ns = [] := List.length_eq_zero_iff.mp h
        rw [hz0 e3] at e2
        exact absurd e2 (by decide)
    refine s_cons (s_setItem (d := .int (z.fdiv n)) _ (pv_ix ix_list (pv_v 0) pv_int (p2_ixM _ (by rfl) (eA _ _ _))) (pv_op op_modN (pv_ct call_int1 E.b_int (va_cons (pv_ix ix_list (pv_v 0) pv_int (p2_ixM _ (by rfl) (eA _ _ _))) va_nil) pn_int) (pv_cb call_len_seq E.b_len (va_cons (pv_ix ix_list (pv_v 0) pv_int (p2_ixM _ (by rfl) (eA _ _ _))) va_nil) (pn_lenM _ (eB _ _ _))) (p2_mod (by rw [List.length_map]; omega))) (pv_op op_fdivN (pv_v 2) (pv_v 1) (p2_fdiv ⟨by omega, by omega⟩)) (j := j) ?_ ?_ (eB _ _ _))
    · have el : (if ((ns.map D.int).length : Int) > 1 then ((ns.map D.int).length : Int) else 1) = ((ns.map D.int).length : Int) := by
        rw [List.length_map]
        split <;> omega
      rw [← el, hj]
      exact ixN_nat (by rw [List.length_map]; exact hjn)
    · refine s_one (s_ret (ev_reg (PV.ev (pv_op op_modN (pv_ct call_int1 E.b_int (va_cons (pv_v 2) va_nil) pn_int) (pv_v 1) (p2_mod (by omega))) ⟨c.fill (iDr K a b), ?_, q _ (fmod_pos n0).1 (fmod_pos n0).2⟩)))
      show DL.Sub ((c.comp (.r (iLst K a [.int st, .adr b, .int k, .int m]) .here)).fill (iLst K b ((ns.map D.int).set j (.int (z.fdiv n))))) (c.fill (iDr K a b))
      rw [← List.map_set, ← eB st k (ns.set j (z.fdiv n))]
      exact (iDr_of (by rw [List.length_set]; exact hl)).fill c
  · refine s_cons (s_setItem (d := .int ((st * 48271 + z * 69621 + 11).fmod 2147483647)) _ (pv_v 0) pv_int (pv_op op_modN (pv_ct call_int1 E.b_int (va_cons (pv_op op_add (pv_op op_add (pv_op op_mul (pv_ix ix_list (pv_v 0) pv_int (p2_ixM _ (by rfl) (eA _ _ _))) pv_int (p2_mul (.inr (by decide)))) (pv_op op_mul (pv_v 2) pv_int (p2_mul (.inr (by decide)))) p2_add) pv_int p2_add) va_nil) pn_int) pv_int (p2_mod (by decide))) (j := 0) (by rfl) ?_ (eA _ _ _))
    refine SX.eq (eA _ k ns).symm ?_
    refine s_cons (s_setItem (d := .int (k + 1)) _ (pv_v 0) pv_int (pv_op op_add (pv_ix ix_list (pv_v 0) pv_int (p2_ixM _ (by rfl) (eA _ _ _))) pv_int p2_add) (j := 2) (by rfl) ?_ (eA _ _ _))
    refine SX.eq (eA _ (k + 1) ns).symm ?_
    exact s_one (s_ret (ev_reg (PV.ev (pv_op op_modN (pv_ct call_int1 E.b_int (va_cons (pv_op op_fdivN (pv_ix ix_list (pv_v 0) pv_int (p2_ixM _ (by rfl) (eA _ _ _))) pv_int (p2_fdiv ⟨by decide, by decide⟩)) va_nil) pn_int) (pv_v 1) (p2_mod (by omega))) ⟨c.fill (iDr K a b), (iDr_of hl).fill c, q _ (fmod_pos n0).1 (fmod_pos n0).2⟩)))
end
abbrev ALPH : List Nat := [97, 98, 120, 39, 32, 48, 47, 57, 126, 122, 59, 58]
def mx (m : Int) : Int := if m < 3 then 3 else m
def sLetters {K : PySem.W.Frag} : Spec K := fun I ds P _ => ∃ (a b : Addr) (c : Rc K) (most : Int), ds = [.adr a, .int most] ∧ I = c.fill (iDr K a b) ∧ 0 ≤ most ∧ most < 10000 ∧
  ∀ s : Str, (s.length : Int) ≤ mx most → (∀ ch ∈ s.cps.toList, ch ∈ ALPH) → P (.str s) I
section
variable {P : Program} {w : World} {K : PySem.W.Frag} {mg : Str → Option Value} {base : Heap} {f : Addr} {fd : FuncData}
theorem ok_letters (F : FnP K "_law_letters" "_law_letters" f_Lletters f fd) (E : Env P w K mg base) (DN : Def P w K mg base "_law_next" 1 ["_law_h", "_law_bound"] [] sNext) : FnOk P w K mg base (L2.CX P w) 2 f fd ["_law_h", "_law_most"] (spD K sLetters) := by
  refine fn_d F sc_f_Lletters (fun I ds P R h => by obtain ⟨a, b, c, m, rfl, _⟩ := h; rfl) fun cdv A outer s H EE hr tk po I ds Q R h => ?_
  obtain ⟨a, b, c, m, rfl, rfl, m0, m1, q⟩ := h
  have nd := sc_f_Lletters.nd
  have hx : 3 ≤ mx m ∧ m ≤ mx m ∧ mx m < 10000 := by unfold mx; split <;> omega
  -- the signs
  refine s_cons (s_set 2 (ev_ix ix_list (PV.ev (pv_lst (va_cons pv_str (va_cons pv_str (va_cons pv_str (va_cons pv_str va_nil))))) (ev_nextP tk DN hr c (pv_v 0) pv_int rfl (by decide) fun k k0 k1 => o2_ixL k0 k1 fun d hd => ?_))))
  obtain ⟨sg, rfl, hsg, hsl⟩ : ∃ sg : Str, d = .str sg ∧ (∀ ch ∈ sg.cps.toList, ch ∈ ALPH) ∧ 0 < sg.cps.toList.length ∧ sg.cps.toList.length ≤ 10 := by
    simp only [List.mem_cons, List.not_mem_nil, or_false] at hd
    rcases hd with rfl | rfl | rfl | rfl <;> exact ⟨_, rfl, by decide +kernel, by decide +kernel, by decide +kernel⟩
  -- the size
  refine s_cons (s_set 3 (ev_ix ix_list (ev_lst ?_)))
  iterate 6 refine ea_cons (pv_int.ev ?_)
  refine ea_cons ((pv_v 1).ev ?_)
  refine ea_cons (ev_nextP tk DN hr c (pv_v 0) (pv_op op_add (pv_v 1) pv_int p2_add) rfl (by omega) fun j j0 j1 => ea_nil ⟨by show 8 ≤ 1000; decide, ?_⟩)
  refine ev_nextP tk DN hr c (pv_v 0) pv_int rfl (by decide) fun k k0 k1 => o2_ixL k0 k1 fun d hd => ?_
  obtain ⟨z, rfl, z0, z1⟩ : ∃ z : Int, d = D.int z ∧ 0 ≤ z ∧ z ≤ mx m := by
    simp only [List.mem_cons, List.not_mem_nil, or_false] at hd
    rcases hd with rfl | rfl | rfl | rfl | rfl | rfl | rfl | rfl <;> exact ⟨_, rfl, by omega, by omega⟩
  -- the text
  refine s_one (s_ret (ev_join (pv_str (w := "")) (ev_lc [("_law_k", 4)] nd (blkOk_by (by rfl)) (ei_range1 E.b_range ((pv_v 3).ev ⟨z, rfl, by omega, by omega, ?_⟩)))))
  refine ⟨by unfold DL.intsFrom; simp; omega, fun i ys => ∃ cs : List Nat, ys = (cs.map one).map D.str ∧ cs.length = i ∧ ∀ ch ∈ cs, ch ∈ ALPH, fun d => [some (.adr a), some (.int m), some (.str sg), some (.int z), some d], ⟨[], rfl, rfl, fun _ h => nomatch h⟩, ?_, ?_⟩
  · rintro i d ys hd ⟨cs, rfl, hcl, hca⟩
    refine ⟨fun b => b = true, fun J s H C cl fp => ⟨bind_name 4, ets_nil ⟨rfl, rfl⟩⟩, fun _ J s H C cl fp => ?_, fun e => nomatch (show false = true from e)⟩
    refine ev_ix ix_str ((pv_v 2).ev (ev_nextP takesF DN hr (.l c J) (pv_v 0) (pv_cb call_len_str E.b_len (va_cons (pv_v 2) va_nil) (pn_lenS (by rw [str_len]; omega))) rfl (by rw [str_len]; omega) fun k k0 k1 => ?_))
    obtain ⟨n, rfl⟩ : ∃ n : Nat, k = n := ⟨k.toNat, by omega⟩
    have hn : n < sg.cps.toList.length := by rw [str_len] at k1; omega
    refine p2_ixS (c := sg.cps.toList[n]) (by rw [str_len, sizeLine_eq]; omega) (atI_nat' (List.getElem?_eq_getElem hn)) _ ⟨rfl, cs ++ [sg.cps.toList[n]], ?_, by simp [hcl], ?_⟩
    · rw [List.map_append, List.map_append]; rfl
    · intro ch hch
      rcases List.mem_append.mp hch with h | h
      · exact hca ch h
      · rw [List.mem_singleton.mp h]; exact hsg _ (List.getElem_mem hn)
  · rintro ys ⟨cs, rfl, hcl, hca⟩
    have hl : cs.length = z.toNat := by rw [hcl]; unfold DL.intsFrom; simp
    refine ⟨cs.map one, rfl, ?_, ?_⟩
    · have e : ((cs.map one).map (·.length)).sum = cs.length := by
        clear hcl hca hl
        induction cs with
        | nil => rfl
        | cons c cs ih => simp only [List.map_cons, List.sum_cons, ih, List.length_cons]; show 1 + _ = _; omega
      rw [e]
      show cs.length + (cs.map one).length * 0 ≤ _
      omega
    · rw [join_ones _ rfl]
      refine q _ ?_ ?_
      · rw [str_len]; show (cs.length : Int) ≤ mx m; omega
      · exact hca
end
abbrev forms5 : List Str := ["say", "ask", "reply", "show", "line"]
structure OneOk (form : Str) (most : Int) (k t l e : Str) : Prop where
  g : GoodW k t l e
  f : k = if form = "line" then ("say" : Str) else form
  ln : form = "line" → l = "" ∧ e = "newline"
  z : ∃ z : Str, (z.length : Int) ≤ most ∧ (∀ ch ∈ z.cps.toList, ch ∈ ALPH) ∧ t = if k = "ask" then z ++ "?" else if k = "reply" then z ++ "y" else z
def sOne {K : PySem.W.Frag} : Spec K := fun I ds P _ => ∃ (a b : Addr) (c : Rc K) (form : Str) (most : Int), ds = [.adr a, .str form, .int most] ∧ I = c.fill (iDr K a b) ∧ form ∈ forms5 ∧ 0 ≤ most ∧ most < 9000 ∧
  ∀ k t l e, OneOk form (mx most) k t l e → P (.tup [.str k, .str t, .str l, .str e]) I
theorem alph_signs : ∀ c ∈ ALPH, c ∈ SIGNS.cps.toList := by decide +kernel
theorem one_q : (∀ c ∈ (Str.ofString "?").cps.toList, c ∈ SIGNS.cps.toList) ∧ (∀ c ∈ (Str.ofString "y").cps.toList, c ∈ SIGNS.cps.toList) := by decide +kernel
theorem app_signs {z y : Str} (h1 : ∀ c ∈ z.cps.toList, c ∈ ALPH) (h2 : ∀ c ∈ y.cps.toList, c ∈ SIGNS.cps.toList) : ∀ c ∈ (z ++ y).cps.toList, c ∈ SIGNS.cps.toList := fun c hc => by
  rw [str_app] at hc
  exact (List.mem_append.mp hc).elim (fun h => alph_signs c (h1 c h)) (h2 c)
theorem app_len {z y : Str} : (z ++ y).length = z.length + y.length := by rw [str_len, str_app, List.length_append, ← str_len, ← str_len]
section
variable {P : Program} {w : World} {K : PySem.W.Frag} {mg : Str → Option Value} {base : Heap} {f : Addr} {fd : FuncData}
theorem ok_one (F : FnP K "_law_one" "_law_one" f_Lone f fd) (DN : Def P w K mg base "_law_next" 1 ["_law_h", "_law_bound"] [] sNext) (DL : Def P w K mg base "_law_letters" 2 ["_law_h", "_law_most"] [] sLetters) : FnOk P w K mg base (L2.CX P w) 3 f fd ["_law_h", "_law_form", "_law_most"] (spD K sOne) := by
  refine fn_d F sc_f_Lone (fun I ds P R h => by obtain ⟨a, b, c, form, m, rfl, _⟩ := h; rfl) fun cdv A outer s H EE hr tk po I ds Q R h => ?_
  obtain ⟨a, b, c, form, m, rfl, rfl, hf, m0, m1, q⟩ := h
  have nd := sc_f_Lone.nd
  have hmx : mx m < 9000 := by unfold mx; split <;> omega
  have hr1 : Room 1 _ := hr.mono (by decide)
  refine s_cons (s_set 3 (ev_def tk DL hr (ea_cons ((pv_v 0).ev (ea_cons ((pv_v 2).ev (ea_nil ⟨a, b, c, m, rfl, rfl, m0, by omega, fun z hz hza => ?_⟩)))))))
  refine s_cons (s_set 4 (ev_pick tk DN hr1 c (pv_lst (va_cons pv_str (va_cons pv_str (va_cons pv_str (va_cons pv_str (va_cons pv_str (va_cons pv_str va_nil))))))) (pv_v 0) (pv_int.ev ⟨_, rfl, rfl, by decide, by decide, by decide⟩) rfl fun dl hl0 => ?_))
  obtain ⟨l, rfl, hl⟩ : ∃ l, dl = .str l ∧ l ∈ leads := by
    simp only [List.mem_cons, List.not_mem_nil, or_false] at hl0
    rcases hl0 with rfl | rfl | rfl | rfl | rfl | rfl <;> exact ⟨_, rfl, by decide +kernel⟩
  refine s_cons (s_set 5 (ev_pick tk DN hr1 c (pv_lst (va_cons pv_str (va_cons pv_str (va_cons pv_str (va_cons pv_str (va_cons pv_str va_nil)))))) (pv_v 0) (pv_int.ev ⟨_, rfl, rfl, by decide, by decide, by decide⟩) rfl fun de he0 => ?_))
  obtain ⟨e, rfl, he⟩ : ∃ e, de = .str e ∧ e ∈ tails := by
    simp only [List.mem_cons, List.not_mem_nil, or_false] at he0
    rcases he0 with rfl | rfl | rfl | rfl | rfl <;> exact ⟨_, rfl, by decide +kernel⟩
  have hzs : ∀ c ∈ z.cps.toList, c ∈ SIGNS.cps.toList := fun c hc => alph_signs c (hza c hc)
  refine s_cons (s_ifP (pt_cmp op_eq (pv_v 1) pv_str (eqV_str form "line")) (fun e1 => ?_) fun e1 => s_nil ?_)
  · refine s_one (s_retP (pv_tup (va_cons pv_str (va_cons (pv_v 3) (va_cons pv_str (va_cons pv_str va_nil))))) (q _ _ _ _ ⟨⟨by decide +kernel, by decide +kernel, by decide +kernel, fun h => absurd h (by decide +kernel), fun h => absurd h (by decide +kernel), fun h => absurd h (by decide +kernel), hzs⟩, ?_, fun _ => ⟨rfl, rfl⟩, z, hz, hza, ?_⟩))
    · rw [if_pos (of_decide_eq_true e1)]
    · rw [if_neg (by decide +kernel), if_neg (by decide +kernel)]
  have n1 : form ≠ "line" := of_decide_eq_false e1
  refine s_cons (s_ifP (pt_cmp op_eq (pv_v 1) pv_str (eqV_str form "ask")) (fun e2 => ?_) fun e2 => s_nil ?_)
  · have h2 : form = "ask" := of_decide_eq_true e2
    refine s_one (s_retP (pv_tup (va_cons pv_str (va_cons (pv_op op_addT (pv_v 3) pv_str (p2_addT ?_)) (va_cons (pv_v 4) (va_cons pv_str va_nil))))) (q _ _ _ _ ⟨⟨by decide +kernel, hl, by decide +kernel, fun h => absurd h (by decide +kernel), fun _ => rfl, fun _ => ?_, app_signs hza one_q.1⟩, ?_, fun h => absurd h n1, z, hz, hza, ?_⟩))
    · show z.length + 1 ≤ _; omega
    · rw [app_len]; show 0 < z.length + 1; omega
    · rw [if_neg n1, h2]
    · rw [if_pos rfl]
  have n2 : form ≠ "ask" := of_decide_eq_false e2
  refine s_cons (s_ifP (pt_cmp op_eq (pv_v 1) pv_str (eqV_str form "reply")) (fun e3 => ?_) fun e3 => s_nil ?_)
  · have h3 : form = "reply" := of_decide_eq_true e3
    refine s_one (s_retP (pv_tup (va_cons pv_str (va_cons (pv_op op_addT (pv_v 3) pv_str (p2_addT ?_)) (va_cons pv_str (va_cons (pv_v 5) va_nil))))) (q _ _ _ _ ⟨⟨by decide +kernel, by decide +kernel, he, fun _ => rfl, fun h => absurd h (by decide +kernel), fun _ => ?_, app_signs hza one_q.2⟩, ?_, fun h => absurd h n1, z, hz, hza, ?_⟩))
    · show z.length + 1 ≤ _; omega
    · rw [app_len]; show 0 < z.length + 1; omega
    · rw [if_neg n1, h3]
    · rw [if_neg (by decide +kernel), if_pos rfl]
  have n3 : form ≠ "reply" := of_decide_eq_false e3
  have hk : form ∈ kinds := by
    simp only [List.mem_cons, List.not_mem_nil, or_false] at hf ⊢
    rcases hf with h | h | h | h | h
    · exact .inl h
    · exact absurd h n2
    · exact absurd h n3
    · exact .inr (.inr (.inr h))
    · exact absurd h n1
  refine s_one (s_retP (pv_tup (va_cons (pv_v 1) (va_cons (pv_v 3) (va_cons (pv_v 4) (va_cons (pv_v 5) va_nil))))) (q _ _ _ _ ⟨⟨hk, hl, he, fun h => absurd h n3, fun h => absurd h n2, fun h => absurd h (fun h => h.elim n2 n3), hzs⟩, ?_, fun h => absurd h n1, z, hz, hza, ?_⟩))
  · rw [if_neg n1]
  · rw [if_neg n2, if_neg n3]
theorem D_mix (E : Env P w K mg base) : Def P w K mg base "_law_mix" 1 ["_law_script", "_law_seed"] [] (sMix 14) := mk_f_Lmix E fun fd F => ok_mix F E
theorem D_next (E : Env P w K mg base) : Def P w K mg base "_law_next" 1 ["_law_h", "_law_bound"] [] sNext := mk_f_Lnext E fun fd F => ok_next F E
theorem D_letters (E : Env P w K mg base) : Def P w K mg base "_law_letters" 2 ["_law_h", "_law_most"] [] sLetters := mk_f_Lletters E fun fd F => ok_letters F E (D_next E)
theorem D_one (E : Env P w K mg base) : Def P w K mg base "_law_one" 3 ["_law_h", "_law_form", "_law_most"] [] sOne := mk_f_Lone E fun fd F => ok_one F (D_next E) (D_letters E)
end
end LK
set_option Elab.async false
set_option linter.all false
set_option maxRecDepth 100000
set_option maxHeartbeats 1000000
namespace LK
open PySem PySem.Spec PyProof.Rows L2 DL
inductive Wl : List Str → Prop
  | nil : Wl []
  | one {ks : List Str} {k : Str} : Wl ks → k ∈ (["say", "show"] : List Str) → Wl (ks ++ [k])
  | two {ks : List Str} : Wl ks → Wl (ks ++ (["ask", "reply"] : List Str))
theorem kb_ext {ks zs : List Str} {k : Str} {i : Nat} (hi : i < ks.length) (h : kindBad ks k i = false) : kindBad (ks ++ zs) k i = false := by
  unfold kindBad at h ⊢
  have e1 : (ks ++ zs).take i = ks.take i := by rw [List.take_append_of_le_length (by omega)]
  rw [e1]
  simp only [Bool.or_eq_false_iff, Bool.and_eq_false_iff, Bool.not_eq_false', decide_eq_false_iff_not, decide_eq_true_eq] at h ⊢
  refine ⟨⟨h.1.1, ?_⟩, h.2⟩
  rcases h.1.2 with h | h
  · exact .inl h
  · refine .inr ?_
    rw [List.drop_append_of_le_length (by omega)]
    have e2 : ∀ ys : List Str, ys.take 1 = (["reply"] : List Str) → (ys ++ zs).take 1 = (["reply"] : List Str) := fun ys hy => by
      cases ys with
      | nil => cases hy
      | cons y ys => exact hy
    exact e2 _ h
theorem Wl.bad {ks : List Str} (h : Wl ks) : ∀ y ∈ ks.zipIdx, kindBad ks y.1 y.2 = false := by
  induction h with
  | nil => intro y hy; cases hy
  | @one ks k h hk ih =>
    rintro ⟨x, i⟩ hy
    rw [List.zipIdx_append] at hy
    rcases List.mem_append.mp hy with hy | hy
    · exact kb_ext (by have := (List.getElem?_eq_some_iff.mp (mem_zipIdx hy)).1; exact this) (ih _ hy)
    · simp only [List.zipIdx_cons, List.zipIdx_nil, List.mem_singleton, Prod.mk.injEq] at hy
      obtain ⟨hx, hi⟩ := hy
      subst hx hi
      have hk2 : x ≠ "" ∧ x ≠ "ask" ∧ x ≠ "reply" := by
        simp only [List.mem_cons, List.not_mem_nil, or_false] at hk
        rcases hk with rfl | rfl <;> exact ⟨by decide +kernel, by decide +kernel, by decide +kernel⟩
      unfold kindBad
      rw [decide_eq_false hk2.1, decide_eq_false hk2.2.1, decide_eq_false hk2.2.2]; rfl
  | @two ks h ih =>
    rintro ⟨x, i⟩ hy
    rw [List.zipIdx_append] at hy
    rcases List.mem_append.mp hy with hy | hy
    · exact kb_ext (by have := (List.getElem?_eq_some_iff.mp (mem_zipIdx hy)).1; exact this) (ih _ hy)
    · simp only [List.zipIdx_cons, List.zipIdx_nil, List.mem_cons, List.not_mem_nil, or_false, Prod.mk.injEq] at hy
      rcases hy with ⟨rfl, rfl⟩ | ⟨rfl, rfl⟩
      · unfold kindBad
        have e1 : ((ks ++ (["ask", "reply"] : List Str)).drop (0 + ks.length + 1)).take 1 = (["reply"] : List Str) := by
          rw [List.drop_append, List.drop_eq_nil_of_le (by omega), show 0 + ks.length + 1 - ks.length = 1 by omega]; rfl
        rw [e1, decide_eq_false (show ("ask" : Str) ≠ "" by decide +kernel), decide_eq_false (show ("ask" : Str) ≠ "reply" by decide +kernel)]
        simp
      · unfold kindBad
        have e1 : (ks ++ (["ask", "reply"] : List Str)).take (0 + ks.length + 1) = ks ++ (["ask"] : List Str) := by
          rw [List.take_append, List.take_of_length_le (by omega), show 0 + ks.length + 1 - ks.length = 1 by omega]; rfl
        have e2 : (ks ++ (["ask"] : List Str)).drop ((ks ++ (["ask"] : List Str)).length - 1) = (["ask"] : List Str) := by
          rw [List.length_append, List.drop_append, List.drop_eq_nil_of_le (by simp)]; simp
        rw [e1, e2, decide_eq_false (show ("reply" : Str) ≠ "" by decide +kernel), decide_eq_false (show ("reply" : Str) ≠ "ask" by decide +kernel)]
        simp
theorem Wl.fault {ks : List Str} (h : Wl ks) : kindFault ks = none := kind_none h.bad
structure RowG (most : Int) (ws : List Wr) : Prop where
  wl : Wl (ws.map (·.k))
  one : ∀ w ∈ ws, ∃ form ∈ forms5, OneOk form most w.k w.t w.l w.e
theorem OneOk.len {form : Str} {most : Int} {k t l e : Str} (o : OneOk form most k t l e) (h : most ≤ 39) : t.length ≤ 40 := by
  obtain ⟨z, h1, h2, e1⟩ := o.z
  rw [e1]
  split
  · rw [app_len, show (Str.ofString "?").length = 1 from rfl]; omega
  · split
    · rw [app_len, show (Str.ofString "y").length = 1 from rfl]; omega
    · omega
theorem RowG.ok {most : Int} {ws : List Wr} (g : RowG most ws) (hm : most ≤ 39) (n : 1 ≤ ws.length) (m : ws.length ≤ 8) : RowOk ws :=
  ⟨fun w hw => by
    obtain ⟨form, _, o⟩ := g.one w hw
    exact ⟨o.g, o.len hm⟩, n, m, g.wl.fault⟩
def Ready (most : Int) (ws : List Wr) (form : Str) : Prop := form ∈ forms5 ∧ ∀ k t l e, OneOk form most k t l e → RowG most (ws ++ [⟨k, t, l, e⟩])
theorem RowG.next {most : Int} {ws : List Wr} (g : RowG most ws) {form : Str} (hf : form ∈ (["say", "show", "line"] : List Str)) : Ready most ws form := by
  have h5 : form ∈ forms5 := by
    simp only [List.mem_cons, List.not_mem_nil, or_false] at hf ⊢
    rcases hf with h | h | h <;> simp [h]
  refine ⟨h5, fun k t l e o => ⟨?_, fun w hw => ?_⟩⟩
  · rw [List.map_append]
    refine .one g.wl ?_
    show k ∈ _
    rw [o.f]
    simp only [List.mem_cons, List.not_mem_nil, or_false] at hf
    rcases hf with rfl | rfl | rfl <;> decide +kernel
  · rcases List.mem_append.mp hw with h | h
    · exact g.one w h
    · rw [List.mem_singleton.mp h]; exact ⟨form, h5, o⟩
theorem RowG.reply {most : Int} {ws : List Wr} (g : RowG most ws) {w : Wr} (hw : OneOk "ask" most w.k w.t w.l w.e) : Ready most (ws ++ [w]) "reply" := by
  refine ⟨by decide +kernel, fun k t l e o => ⟨?_, fun v hv => ?_⟩⟩
  · rw [List.map_append, List.map_append, List.append_assoc]
    have e1 : w.k = "ask" := hw.f.trans (by decide +kernel)
    have e2 : k = "reply" := o.f.trans (by decide +kernel)
    show Wl (_ ++ [w.k, k])
    rw [e1, e2]
    exact .two g.wl
  · rcases List.mem_append.mp hv with h | h
    · rcases List.mem_append.mp h with h | h
      · exact g.one v h
      · rw [List.mem_singleton.mp h]; exact ⟨"ask", by decide +kernel, hw⟩
    · rw [List.mem_singleton.mp h]; exact ⟨"reply", by decide +kernel, o⟩
def sRow {K : PySem.W.Frag} : Spec K := fun I ds P _ => ∃ (a b : Addr) (c : Rc K) (many most : Int), ds = [.adr a, .int many, .int most] ∧ I = c.fill (iDr K a b) ∧ 0 ≤ many ∧ many ≤ 1000 ∧ 0 ≤ most ∧ most < 9000 ∧
  ∀ ws, RowG (mx most) ws → (ws.length : Int) = many → ∀ p, P (.adr p) (I.and (iLst K p (ws.map wr4)))
abbrev nm6 : List Str := ["a", "log", "who", "b", "zzzzzzzz", "cc"]
abbrev tD (t : Tb) : D := dicT t (·.1) (fun p => .lst (p.2.map wr4))
structure TabG (works : Nat) (total most : Int) (t : Tb) : Prop where
  sub : (t.map (·.1)).Sublist nm6
  n : 1 ≤ t.length
  m : t.length ≤ works
  row : ∀ p ∈ t, RowG most p.2 ∧ 1 ≤ p.2.length ∧ p.2.length ≤ 3
  tot : ((t.map fun p => p.2.length).sum : Int) ≤ total
  fa : ("a" : Str) ∈ t.map (·.1)
theorem nm6_nd : nm6.Nodup := by decide +kernel
theorem nm6_ok : ∀ s ∈ nm6, isNameS s = true := by decide +kernel
theorem TabG.nd {works : Nat} {total most : Int} {t : Tb} (g : TabG works total most t) : (t.map (·.1)).Nodup := nm6_nd.sublist g.sub
theorem TabG.ok {works : Nat} {total most : Int} {t : Tb} (g : TabG works total most t) (hm : most ≤ 39) : TbOk t :=
  ⟨g.nd, fun p hp => nm6_ok _ (g.sub.subset (List.mem_map_of_mem hp)), fun p hp => (g.row p hp).1.ok hm (g.row p hp).2.1 (by have := (g.row p hp).2.2; omega), g.n, by have := g.sub.length_le; rw [List.length_map] at this; exact this⟩
def sTable {K : PySem.W.Frag} : Spec K := fun I ds P _ => ∃ (a b : Addr) (c : Rc K) (works : Nat) (total most : Int), ds = [.adr a, .int works, .int total, .int most] ∧ I = c.fill (iDr K a b) ∧ 1 ≤ works ∧ works ≤ 6 ∧ 1 ≤ total ∧ total < 1000 ∧ 0 ≤ most ∧ most < 9000 ∧
  ∀ t, TabG works total (mx most) t → ∀ p, P (.adr p) (I.and (iDic K p (t.map fun x => (.inr x.1, .lst (x.2.map wr4)))))
def sBuilt {K : PySem.W.Frag} : Spec K := fun I ds P _ => ∃ t, ds = [tD t] ∧ TbOk t ∧ P (cD K (sortW t)) I
section
variable {P : Program} {w : World} {K : PySem.W.Frag} {mg : Str → Option Value} {base : Heap}
theorem D_rowof (E : Env P w K mg base) : Def P w K mg base "_law_rowof" 4 ["_law_h", "_law_many", "_law_most"] [] sRow := mk_f_Lrowof E fun fd F => by
  refine fn_d F sc_f_Lrowof (fun I ds P R h => by obtain ⟨a, b, c, many, most, rfl, _⟩ := h; rfl) fun cdv A outer s H EE hr tk po I ds Q R h => ?_
  obtain ⟨a, b, c, many, most, rfl, rfl, n0, n1, m0, m1, q⟩ := h
  have nd := sc_f_Lrowof.nd
  have hu := hr.units
  have hr1 : Room 1 _ := hr.mono (by decide)
  have hr3 : Room 3 _ := hr
  refine s_cons (s_set 3 (ev_lstM' va_nil (by decide) fun x => ?_))
  refine s_cons (s_whileP po (fun m δ' I' => ∃ (ws : List Wr) (o : Option D), RowG (mx most) ws ∧ (ws.length : Int) ≤ many ∧ m = (many - ws.length).toNat ∧ I' = (c.fill (iDr K a b)).and (iLst K x (ws.map wr4)) ∧ δ' = [some (.adr a), some (.int many), some (.int most), some (.adr x), o]) many.toNat ⟨[], none, ⟨.nil, fun w hw => nomatch hw⟩, by simpa using n0, by simp, rfl, rfl⟩ ?_)
  rintro m δ' I' ⟨ws, o, g, hl, rfl, rfl, rfl⟩
  refine ⟨_, DL.pt_cmp op_lt (pv_cb call_len_seq E.b_len (va_cons (pv_v 3) va_nil) (pn_lenM (.r _ .here))) (pv_v 1) p2_lt, fun hlt => ?_, fun hlt => ?_⟩
  · have hlt : (ws.length : Int) < many := by rw [List.length_map] at hlt; exact of_decide_eq_true hlt
    refine s_cons (s_set 4 (ev_pick tk (D_next E) hr1 (.l c (iLst K x (ws.map wr4))) (pv_lst (va_cons pv_str (va_cons pv_str (va_cons pv_str (va_cons pv_str (va_cons pv_str (va_cons pv_str va_nil))))))) (pv_v 0) (pv_int.ev ⟨_, rfl, rfl, by decide, by decide, by decide⟩) rfl fun d hd => ?_))
    obtain ⟨form, rfl, hf⟩ : ∃ form, d = .str form ∧ (form ∈ (["say", "show", "line"] : List Str) ∨ form = "ask") := by
      simp only [List.mem_cons, List.not_mem_nil, or_false] at hd
      rcases hd with rfl | rfl | rfl | rfl | rfl | rfl <;> exact ⟨_, rfl, by decide +kernel⟩
    refine s_cons (s_joint (fun δ2 I2 => ∃ ws2 form2, ((form2 ∈ (["say", "show", "line"] : List Str) ∨ form2 = "ask") ∧ RowG (mx most) ws2 ∨ form2 = "reply" ∧ Ready (mx most) ws2 form2) ∧ ws.length ≤ ws2.length ∧ (ws2.length : Int) + 1 ≤ many ∧ I2 = (c.fill (iDr K a b)).and (iLst K x (ws2.map wr4)) ∧ δ2 = [some (.adr a), some (.int many), some (.int most), some (.adr x), some (.str form2)]) (s_ifP (ptw (ww_and (pt_eq hu (pv_v 4) pv_str trivial) fun _ => ww_and1 (DL.pt_cmp op_le (pv_op op_add (pv_cb call_len_seq E.b_len (va_cons (pv_v 3) va_nil) (pn_lenM (.r _ .here))) pv_int p2_add) (pv_v 1) p2_le))) (fun e1 => ?_) fun e1 => s_nil ?_) ?_)
    · have e2 : (ws.length : Int) + 2 ≤ many := by
        simp only [Bool.and_eq_true, decide_eq_true_eq, List.length_map] at e1
        exact e1.2
      refine s_cons (s_append (.r _ .here) (pv_v 3) rfl (ev_def tk (D_one E) hr3 (ea_cons ((pv_v 0).ev (ea_cons (pv_str.ev (ea_cons ((pv_v 2).ev (ea_nil ⟨a, b, .l c (iLst K x (ws.map wr4)), "ask", most, rfl, rfl, by decide +kernel, m0, m1, fun k t l e ok => ⟨rfl, by rw [List.length_map]; omega, ?_⟩⟩)))))))))
      refine s_one (s_setP 4 pv_str ?_)
      refine ⟨ws ++ [⟨k, t, l, e⟩], "reply", .inr ⟨rfl, g.reply ok⟩, by simp, by rw [List.length_append]; simp only [List.length_cons, List.length_nil]; omega, ?_, rfl⟩
      show (c.fill (iDr K a b)).and (iLst K x (ws.map wr4 ++ [_])) = _
      rw [List.map_append]; rfl
    · exact ⟨ws, form, .inl ⟨hf, g⟩, Nat.le_refl _, by omega, rfl, rfl⟩
    · rintro δ2 I2 ⟨ws2, form2, hg2, hl2, hl3, rfl, rfl⟩
      refine s_cons (s_joint (fun δ3 I3 => ∃ form3, Ready (mx most) ws2 form3 ∧ I3 = (c.fill (iDr K a b)).and (iLst K x (ws2.map wr4)) ∧ δ3 = [some (.adr a), some (.int many), some (.int most), some (.adr x), some (.str form3)]) (s_ifP (pt_eq hu (pv_v 4) pv_str trivial) (fun e1 => ?_) fun e1 => s_nil ?_) ?_)
      · have e2 : form2 = "ask" := of_decide_eq_true e1
        have g2 : RowG (mx most) ws2 := by
          rcases hg2 with h | h
          · exact h.2
          · rw [e2] at h; exact absurd h.1 (by decide +kernel)
        refine s_one (s_setP 4 pv_str ?_)
        exact ⟨"line", g2.next (by decide +kernel), rfl, rfl⟩
      · have e2 : form2 ≠ "ask" := of_decide_eq_false e1
        refine ⟨form2, ?_, rfl, rfl⟩
        rcases hg2 with h | h
        · exact h.2.next (h.1.resolve_right e2)
        · exact h.2
      · rintro δ3 I3 ⟨form3, hr', rfl, rfl⟩
        refine s_one (s_append (.r _ .here) (pv_v 3) rfl (ev_def tk (D_one E) hr3 (ea_cons ((pv_v 0).ev (ea_cons ((pv_v 4).ev (ea_cons ((pv_v 2).ev (ea_nil ⟨a, b, .l c (iLst K x (ws2.map wr4)), form3, most, rfl, rfl, hr'.1, m0, m1, fun k t l e ok => ⟨rfl, by rw [List.length_map]; omega, ?_⟩⟩)))))))))
        refine ⟨(many - (ws2 ++ ([⟨k, t, l, e⟩] : List Wr)).length).toNat, ?_, ws2 ++ [⟨k, t, l, e⟩], _, hr'.2 _ _ _ _ ok, ?_, rfl, ?_, rfl⟩
        · rw [List.length_append]; simp only [List.length_cons, List.length_nil]; omega
        · rw [List.length_append]; simp only [List.length_cons, List.length_nil]; omega
        · show (c.fill (iDr K a b)).and (iLst K x (ws2.map wr4 ++ [_])) = _
          rw [List.map_append]; rfl
  · have hlt : ¬ (ws.length : Int) < many := by rw [List.length_map] at hlt; exact of_decide_eq_false hlt
    exact s_one (s_retP (pv_v 3) (q ws g (by omega) x))
end
end LK
set_option Elab.async false
set_option linter.all false
set_option maxRecDepth 100000
set_option maxHeartbeats 1000000
namespace LK
open PySem PySem.Spec PyProof.Rows L2 DL
abbrev Cell := Option (Str × Nat × Nat)
def noWr : Wr := ⟨"", "", "", ""⟩
def wrAt (t : Tb) (n : Str) (k : Nat) : Wr := ((rowOf t n).getD []).getD k noWr
structure Pg where
  s : Scr Cell
  ap : List (Str × Nat)
def thingsO (t : Tb) (n : Str) (k : Nat) : List Cell := (List.range (wrAt t n k).t.length).map fun j => some (n, k, j)
def apartB (t : Tb) (p : Pg) (n : Str) (k : Nat) : Bool := decide ((wrAt t n k).k = "reply") && (decide (p.s.co = 0) || !decide (p.s.cur[p.s.co - 1]? = some (some (n, k - 1, (wrAt t n (k - 1)).t.length - 1))))
def scrStep (t : Tb) (few : List (Str × Nat)) (w : Nat) (s : Scr Cell) (n : Str) (k : Nat) : Scr Cell := if (n, k) ∈ few then sAbove w none s (thingsO t n k) else sWord w none (wrAt t n k).e (sType w none (sWord w none (wrAt t n k).l s) (thingsO t n k))
def pgStep (t : Tb) (few : List (Str × Nat)) (w : Nat) (p : Pg) (n : Str) (k : Nat) : Pg := ⟨scrStep t few w p.s n k, if apartB t p n k = true then p.ap ++ [(n, k)] else p.ap⟩
def pg0 (w : Nat) : Pg := ⟨sNew w none, []⟩
section
variable {t : Tb} {few : List (Str × Nat)} {w : Nat} {ns : List Str} {n : Str}
def Fits (t : Tb) (ns : List Str) : Prop := ∀ (p r : List Str) (n : Str), ns = p ++ n :: r → p.count n < lenT' t n
where lenT' (t : Tb) (n : Str) : Nat := ((rowOf t n).getD []).length
theorem Fits.pre {p r : List Str} (h : Fits t (p ++ r)) : Fits t p := fun a b n e => h a (b ++ r) n (by rw [e]; simp)
theorem wr_at (o : TbOk t) {k : Nat} (h : k < Fits.lenT' t n) : ∃ ws, rowOf t n = some ws ∧ ws[k]? = some (wrAt t n k) ∧ GoodR (wrAt t n k) ∧ (n, ws) ∈ t := by
  unfold Fits.lenT' at h
  cases e : rowOf t n with
  | none => rw [e] at h; exact absurd h (Nat.not_lt_zero _)
  | some ws =>
    rw [e] at h
    have h : k < ws.length := h
    have hw : wrAt t n k = ws[k] := by
      unfold wrAt
      rw [e]
      show ws.getD k noWr = _
      rw [List.getD_eq_getElem?_getD, List.getElem?_eq_getElem h]; rfl
    have hm := rowOf_mem e
    exact ⟨ws, rfl, by rw [hw, List.getElem?_eq_getElem h], by rw [hw]; exact (o.row _ hm).g _ (List.getElem_mem h), hm⟩
theorem SOk.step {s : Scr Cell} {k : Nat} (h : SOk w s) : SOk w (scrStep t few w s n k) := by
  unfold scrStep
  split
  · exact h.above
  · exact h.word.type.word
end
end LK
set_option Elab.async false
set_option linter.all false
set_option maxRecDepth 100000
set_option maxHeartbeats 400000
namespace LK
open PySem PySem.Spec PyProof.Rows L2 DL
def ScrAll {α : Type} (Q : α → Prop) (s : Scr α) : Prop := (∀ r ∈ s.up, ∀ c ∈ r, Q c) ∧ ∀ c ∈ s.cur, Q c
section
variable {α : Type} {Q : α → Prop} {s : Scr α} {w : Nat} {e x : α} {b : Bool} {wd : Str}
theorem mem_rep {n : Nat} (he : Q e) : ∀ c ∈ List.replicate n e, Q c := fun c hc => by rw [List.eq_of_mem_replicate hc]; exact he
theorem ScrAll.new (he : Q e) : ScrAll Q (sNew w e) := ⟨(fun r hr => nomatch hr), mem_rep he⟩
theorem ScrAll.down (h : ScrAll Q s) (he : Q e) : ScrAll Q (sDown w e b s) := ⟨fun r hr => by
  rcases List.mem_append.mp hr with hr | hr
  · exact h.1 r hr
  · rw [List.mem_singleton.mp hr]; exact h.2, mem_rep he⟩
theorem ScrAll.word1 (h : ScrAll Q s) : ScrAll Q (sWord1 wd s) := by unfold sWord1; split <;> exact h
theorem ScrAll.word2 (h : ScrAll Q s) (he : Q e) : ScrAll Q (sWord2 e wd s) := by
  unfold sWord2
  split
  · refine ⟨h.1, fun c hc => ?_⟩
    rcases List.mem_append.mp hc with hc | hc
    · exact h.2 c (List.mem_of_mem_take hc)
    · exact mem_rep he c hc
  · exact h
theorem ScrAll.word (h : ScrAll Q s) (he : Q e) : ScrAll Q (sWord w e wd s) := by
  unfold sWord sWord3
  split
  · exact (h.word1.word2 he).down he
  · exact h.word1.word2 he
theorem ScrAll.put (h : ScrAll Q s) (he : Q e) (hx : Q x) : ScrAll Q (sPut w e s x) := by
  have h1 : ScrAll Q (sWrap w e s) := by
    unfold sWrap
    split
    · exact h.down he
    · exact h
  refine ⟨h1.1, fun c hc => ?_⟩
  rcases List.mem_or_eq_of_mem_set hc with hc | hc
  · exact h1.2 c hc
  · rw [hc]; exact hx
theorem ScrAll.type (he : Q e) : ∀ {xs : List α} {s : Scr α}, ScrAll Q s → (∀ x ∈ xs, Q x) → ScrAll Q (sType w e s xs)
  | [], _, h, _ => h
  | x :: xs, s, h, hx => ScrAll.type he (xs := xs) (s := sPut w e s x) (h.put he (hx x (by simp))) fun y hy => hx y (by simp [hy])
theorem ScrAll.above {xs : List α} (h : ScrAll Q s) (he : Q e) (hx : ∀ x ∈ xs, Q x) : ScrAll Q (sAbove w e s xs) := by
  have ho : ScrAll Q (sType w e (sNew w e) xs) := ScrAll.type he (ScrAll.new he) hx
  refine ⟨fun r hr => ?_, h.2⟩
  rcases List.mem_append.mp hr with hr | hr
  · rcases List.mem_append.mp hr with hr | hr
    · exact h.1 r (List.mem_of_mem_take hr)
    · rcases List.mem_append.mp hr with hr | hr
      · exact ho.1 r hr
      · rw [List.mem_singleton.mp hr]; exact ho.2
  · exact h.1 r (List.mem_of_mem_drop hr)
end
section
variable {t : Tb} {few : List (Str × Nat)} {w : Nat} {Q : Cell → Prop}
def CellIn (t : Tb) (c : Cell) : Prop := ∀ x, c = some x → x.1 ∈ nmT t ∧ x.2.1 < Fits.lenT' t x.1 ∧ x.2.2 < (wrAt t x.1 x.2.1).t.length
end
end LK
set_option Elab.async false
set_option linter.all false
set_option maxRecDepth 100000
set_option maxHeartbeats 1000000
namespace LK
open PySem PySem.Spec PyProof.Rows L2 DL
abbrev Pc := Str × Nat
def pcO (c : Cell) : Option Pc := c.map fun x => (x.1, x.2.1)
structure Rw where
  cells : List Cell
  co : Nat
  sp : Bool
def staysB (t : Tb) (p : Pc) : Bool := !decide ((wrAt t p.1 p.2).k = "show")
def lenP (t : Tb) (p : Pc) : Nat := (wrAt t p.1 p.2).t.length
def hardC (t : Tb) (c : Cell) (col : Nat) : Bool := match c with
  | none => false
  | some x => staysB t (x.1, x.2.1) || decide (col < x.2.2)
def celAt (l : List Cell) (i : Nat) : Cell := (l[i]?).getD none
def rTake (t : Tb) (col : Nat) (r : Rw) : Rw := { r with cells := r.cells.set col none, sp := r.sp || hardC t (celAt r.cells col) col }
def colsP (l : List Cell) (p : Pc) : List Nat := (l.zipIdx.filter fun q => decide (pcO q.1 = some p)).map (·.2)
def idxC (c : Cell) : Nat := match c with
  | none => 0
  | some x => x.2.2
def begunP (l : List Cell) (p : Pc) : Nat := match colsP l p with
  | [] => 0
  | c :: _ => idxC (celAt l c) - c
def tornP (t : Tb) (l : List Cell) (p : Pc) : Bool := decide ((colsP l p).length < lenP t p - begunP l p)
def addP (ps : List Pc) (c : Cell) : List Pc := match pcO c with
  | none => ps
  | some p => if p ∈ ps then ps else ps ++ [p]
def pcsR (l : List Cell) : List Pc := l.foldl addP []
def mixedR (l : List Cell) : Bool := (pcsR l).any fun p => (pcsR l).any fun q => !decide (p.1 = q.1)
def badLeave (t : Tb) (me : Pc) (wr : Bool) (l : List Cell) : Bool := mixedR l || (pcsR l).any fun p => !(wr && decide (p = me)) && (!staysB t p && tornP t l p)
def rLeave (t : Tb) (me : Pc) (wr : Bool) (r : Rw) : Rw := ⟨List.replicate r.cells.length none, 0, r.sp || badLeave t me wr r.cells⟩
def rErase (t : Tb) (r : Rw) : Rw := (List.range' r.co (r.cells.length - r.co)).foldl (fun r c => rTake t c r) r
def rWord1 (wd : Str) (r : Rw) : Rw := if wd = "return" ∨ wd = "wipe" then { r with co := 0 } else r
def rWord2 (t : Tb) (wd : Str) (r : Rw) : Rw := if wd = "wipe" ∨ wd = "erase" then rErase t r else r
def rWord3 (t : Tb) (me : Pc) (wd : Str) (r : Rw) : Rw := if wd = "newline" ∨ (wd = "fresh" ∧ 0 < r.co) then rLeave t me false r else r
def rWord (t : Tb) (me : Pc) (wd : Str) (r : Rw) : Rw := rWord3 t me wd (rWord2 t wd (rWord1 wd r))
def notAsk (t : Tb) (me : Pc) (r : Rw) : Bool := decide (r.co = 0) || !decide (r.cells[r.co - 1]? = some (some (me.1, me.2 - 1, (wrAt t me.1 (me.2 - 1)).t.length - 1)))
def rReply (t : Tb) (me : Pc) (r : Rw) : Rw := if (wrAt t me.1 me.2).k = "reply" then { r with sp := r.sp || notAsk t me r } else r
def rWrap (t : Tb) (me : Pc) (r : Rw) : Rw := if r.co = r.cells.length then rLeave t me true r else r
def rPut1 (t : Tb) (x : Cell) (r : Rw) : Rw := { cells := (rTake t r.co r).cells.set r.co x, co := r.co + 1, sp := (rTake t r.co r).sp }
def rPut (t : Tb) (me : Pc) (r : Rw) (j : Nat) : Rw := rPut1 t (some (me.1, me.2, j)) (rWrap t me r)
def rType (t : Tb) (me : Pc) (r : Rw) : Rw := (List.range (lenP t me)).foldl (rPut t me) r
def rPerf (t : Tb) (me : Pc) (r : Rw) : Rw := rWord t me (wrAt t me.1 me.2).e (rType t me (rReply t me (rWord t me (wrAt t me.1 me.2).l r)))

def isP (p : Pc) (c : Cell) : Bool := decide (pcO c = some p)
def upN (p : Pc) (s : Scr Cell) : Nat := s.up.flatten.countP (isP p)
def curN (p : Pc) (s : Scr Cell) : Nat := s.cur.countP (isP p)
theorem colsP_len (l : List Cell) (p : Pc) : (colsP l p).length = l.countP (isP p) := by
  unfold colsP
  rw [List.length_map, ← List.countP_eq_length_filter]
  have h : ∀ (l : List Cell) (k : Nat), (l.zipIdx k).countP (fun q => decide (pcO q.1 = some p)) = l.countP (isP p) := by
    intro l
    induction l with
    | nil => intro k; rfl
    | cons a l ih => intro k; rw [List.zipIdx_cons, List.countP_cons, List.countP_cons, ih]; rfl
  exact h l 0
theorem addP_mem {c : Cell} {ps : List Pc} {p : Pc} : p ∈ addP ps c ↔ p ∈ ps ∨ pcO c = some p := by
  unfold addP
  cases e : pcO c with
  | none => simp
  | some q =>
    show p ∈ (if q ∈ ps then ps else ps ++ [q]) ↔ _
    by_cases h : q ∈ ps
    · rw [if_pos h]
      constructor
      · exact .inl
      · rintro (h' | h')
        · exact h'
        · cases h'; exact h
    · rw [if_neg h, List.mem_append, List.mem_singleton]
      constructor
      · rintro (h' | h')
        · exact .inl h'
        · subst h'; exact .inr rfl
      · rintro (h' | h')
        · exact .inl h'
        · cases h'; exact .inr rfl
theorem pcs_fold : ∀ (l : List Cell) (ps : List Pc) (p : Pc), p ∈ l.foldl addP ps ↔ p ∈ ps ∨ ∃ c ∈ l, pcO c = some p
  | [], ps, p => by simp
  | c :: l, ps, p => by
    rw [List.foldl_cons, pcs_fold l, addP_mem]
    simp only [List.mem_cons, exists_eq_or_imp, or_assoc]
theorem pcs_mem {l : List Cell} {p : Pc} : p ∈ pcsR l ↔ ∃ c ∈ l, pcO c = some p := by
  unfold pcsR
  rw [pcs_fold]
  simp
theorem pcs_cnt {l : List Cell} {p : Pc} : p ∈ pcsR l ↔ 0 < l.countP (isP p) := by
  rw [pcs_mem, List.countP_pos_iff]
  exact ⟨fun ⟨c, h, e⟩ => ⟨c, h, decide_eq_true e⟩, fun ⟨c, h, e⟩ => ⟨c, h, of_decide_eq_true e⟩⟩
theorem mixed_iff {l : List Cell} : mixedR l = true ↔ ∃ c ∈ l, ∃ d ∈ l, ∃ p q, pcO c = some p ∧ pcO d = some q ∧ p.1 ≠ q.1 := by
  unfold mixedR
  simp only [List.any_eq_true, Bool.not_eq_true', decide_eq_false_iff_not, pcs_mem]
  constructor
  · rintro ⟨p, ⟨c, hc, ec⟩, q, ⟨d, hd, ed⟩, n⟩
    exact ⟨c, hc, d, hd, p, q, ec, ed, n⟩
  · rintro ⟨c, hc, d, hd, p, q, ec, ed, n⟩
    exact ⟨p, ⟨c, hc, ec⟩, q, ⟨d, hd, ed⟩, n⟩
theorem cols_hd {l : List Cell} {p : Pc} {c : Nat} {r : List Nat} (h : colsP l p = c :: r) : c < l.length ∧ pcO (celAt l c) = some p := by
  have hm : c ∈ colsP l p := by rw [h]; exact List.mem_cons_self
  unfold colsP at hm
  obtain ⟨q, hq, e⟩ := List.mem_map.mp hm
  obtain ⟨h1, h2⟩ := List.mem_filter.mp hq
  have h3 := mem_zipIdx (x := q.1) (i := q.2) h1
  rw [e] at h3
  refine ⟨(List.getElem?_eq_some_iff.mp h3).1, ?_⟩
  unfold celAt
  rw [h3]
  exact of_decide_eq_true h2

structure Good (t : Tb) (put : Pc → Nat) (s : Scr Cell) : Prop where
  le : ∀ p, put p ≤ lenP t p
  tot : ∀ p, upN p s + curN p s ≤ put p
  st : ∀ p, staysB t p = true → upN p s + curN p s = put p
  sh : ∀ p, staysB t p = false → upN p s = 0 ∨ upN p s + curN p s = put p
  at_ : ∀ (c : Nat) (x : Str × Nat × Nat), s.cur[c]? = some (some x) → x.2.2 - c = upN (x.1, x.2.1) s
  mx : ∀ r ∈ s.up, mixedR r = false
def Doom (t : Tb) (D : Pc → Prop) (s : Scr Cell) : Prop := (∃ r ∈ s.up, mixedR r = true) ∨ (∃ p, D p ∧ staysB t p = true ∧ upN p s + curN p s < lenP t p) ∨ ∃ p, D p ∧ staysB t p = false ∧ 0 < upN p s ∧ upN p s + curN p s < lenP t p
section
variable {t : Tb} {s : Scr Cell} {D : Pc → Prop} {w : Nat} {me : Pc} {put : Pc → Nat}
theorem up_flat {l : List (List Cell)} {r : List Cell} {p : Pc} : (l ++ [r]).flatten.countP (isP p) = l.flatten.countP (isP p) + r.countP (isP p) := by
  rw [List.flatten_append, List.countP_append]; simp
theorem rep_cnt {n : Nat} {p : Pc} : (List.replicate n (none : Cell)).countP (isP p) = 0 := by
  rw [List.countP_eq_zero]
  intro c hc
  rw [(List.mem_replicate.mp hc).2]
  exact Bool.false_ne_true
theorem down_up {b : Bool} {p : Pc} : upN p (sDown w none b s) = upN p s + curN p s := up_flat
theorem down_cur {b : Bool} {p : Pc} : curN p (sDown w none b s) = 0 := rep_cnt
theorem set_cnt (l : List Cell) (c : Nat) (x : Cell) (p : Pc) (h : c < l.length) : (l.set c x).countP (isP p) + (if isP p (celAt l c) = true then 1 else 0) = l.countP (isP p) + (if isP p x = true then 1 else 0) := by
  induction l generalizing c with
  | nil => exact absurd h (Nat.not_lt_zero _)
  | cons a l ih =>
    cases c with
    | zero =>
      show (x :: l).countP _ + _ = _
      rw [List.countP_cons, List.countP_cons]
      have e : celAt (a :: l) 0 = a := rfl
      rw [e]; omega
    | succ c =>
      show (a :: l.set c x).countP _ + _ = _
      rw [List.countP_cons, List.countP_cons]
      have e : celAt (a :: l) (c + 1) = celAt l c := by unfold celAt; rw [List.getElem?_cons_succ]
      rw [e]
      have := ih c (Nat.lt_of_succ_lt_succ h)
      omega
theorem Doom.down {b : Bool} (h : Doom t D s) : Doom t D (sDown w none b s) := by
  rcases h with ⟨r, hr, e⟩ | ⟨p, d, e, h⟩ | ⟨p, d, e, h1, h2⟩
  · exact .inl ⟨r, List.mem_append_left _ hr, e⟩
  · exact .inr (.inl ⟨p, d, e, by rw [down_up, down_cur]; omega⟩)
  · exact .inr (.inr ⟨p, d, e, by rw [down_up]; omega, by rw [down_up, down_cur]; omega⟩)
theorem Doom.cur {s' : Scr Cell} (h : Doom t D s) (hu : s'.up = s.up) (hc : ∀ p, D p → curN p s' ≤ curN p s) : Doom t D s' := by
  have e0 : ∀ p, upN p s' = upN p s := fun p => by unfold upN; rw [hu]
  rcases h with ⟨r, hr, e⟩ | ⟨p, d, e, h⟩ | ⟨p, d, e, h1, h2⟩
  · exact .inl ⟨r, by rw [hu]; exact hr, e⟩
  · exact .inr (.inl ⟨p, d, e, by rw [e0]; have := hc p d; omega⟩)
  · exact .inr (.inr ⟨p, d, e, by rw [e0]; exact h1, by rw [e0]; have := hc p d; omega⟩)
end
end LK
set_option Elab.async false
set_option linter.all false
set_option maxRecDepth 100000
set_option maxHeartbeats 1000000
namespace LK
open PySem PySem.Spec PyProof.Rows L2 DL
theorem sub_take {k : Nat} {p r : List Str} {x : Str} {ns : List Str} (e : nm6.take k = p ++ x :: r) (h : ns.Sublist p) : x ∉ ns ∧ (ns ++ [x]).Sublist (p ++ [x]) := by
  refine ⟨fun hx => ?_, h.append (List.Sublist.refl _)⟩
  have nd : (nm6.take k).Nodup := nm6_nd.sublist (List.take_sublist _ _)
  rw [e] at nd
  have := (List.nodup_append.mp nd).2.2 x (h.subset hx) x (by simp)
  exact this rfl
structure TabI (total most l : Int) (p : List Str) (t : Tb) : Prop where
  sub : (t.map (·.1)).Sublist p
  row : ∀ p ∈ t, RowG most p.2 ∧ 1 ≤ p.2.length ∧ p.2.length ≤ 3
  tot : ((t.map fun p => p.2.length).sum : Int) + l = total
  l0 : 0 ≤ l
  ne : p ≠ [] → t ≠ []
  fa : p ≠ [] → ("a" : Str) ∈ t.map (·.1)
theorem TabI.add {total most l : Int} {k : Nat} {p r : List Str} {x : Str} {t : Tb} (h : TabI total most l p t) (e : nm6.take k = p ++ x :: r) {ws : List Wr} (g : RowG most ws) (h1 : 1 ≤ ws.length) (h3 : ws.length ≤ 3) (hl : (ws.length : Int) ≤ l) : TabI total most (l - ws.length) (p ++ [x]) (t ++ [(x, ws)]) := by
  refine ⟨?_, fun q hq => ?_, ?_, by omega, fun _ => by simp, fun _ => ?_⟩
  · rw [List.map_append]; exact (sub_take e h.sub).2
  · rcases List.mem_append.mp hq with hq | hq
    · exact h.row q hq
    · rw [List.mem_singleton.mp hq]; exact ⟨g, h1, h3⟩
  · rw [List.map_append, List.sum_append]
    have := h.tot
    simp only [List.map_cons, List.map_nil, List.sum_cons, List.sum_nil]
    omega
  · rw [List.map_append]
    cases p with
    | nil =>
      have hx : x = "a" := by
        have e0 := congrArg (·[0]?) e
        cases k with
        | zero => simp at e
        | succ k => simp at e0; exact e0.symm
      exact List.mem_append_right _ (by rw [hx]; simp)
    | cons y ys => exact List.mem_append_left _ (h.fa (by simp))
theorem TabI.skip {total most l : Int} {p : List Str} {x : Str} {t : Tb} (h : TabI total most l p t) (t0 : 1 ≤ total) (hl : l = 0) : TabI total most l (p ++ [x]) t := by
  refine ⟨h.sub.trans (List.sublist_append_left _ _), h.row, h.tot, h.l0, fun _ e => ?_, fun _ => ?_⟩
  · have := h.tot
    rw [e] at this
    simp only [List.map_nil, List.sum_nil] at this
    omega
  · cases p with
    | nil =>
      have e := List.sublist_nil.mp h.sub
      have := h.tot
      rw [List.map_eq_nil_iff.mp e] at this
      simp only [List.map_nil, List.sum_nil] at this
      omega
    | cons y ys => exact h.fa (by simp)
section
variable {P : Program} {w : World} {K : PySem.W.Frag} {mg : Str → Option Value} {base : Heap}
theorem D_table (E : Env P w K mg base) : Def P w K mg base "_law_table" 5 ["_law_h", "_law_works", "_law_total", "_law_most"] [] sTable := mk_f_Ltable E fun fd F => by
  refine fn_d F sc_f_Ltable (fun I ds P R h => by obtain ⟨a, b, c, works, total, most, rfl, _⟩ := h; rfl) fun cdv A outer s H EE hr tk po I ds Q R h => ?_
  obtain ⟨a, b, c, works, total, most, rfl, rfl, w0, w1, t0, t1, m0, m1, q⟩ := h
  have nd := sc_f_Ltable.nd
  have hu := hr.units
  have hu1 := hr.u1
  have hr1 : Room 1 _ := hr.mono (by decide)
  have hr4 : Room 4 _ := hr
  refine s_cons (s_set 4 (ev_dnew fun x _ => ?_))
  refine s_cons (s_setP 5 (pv_v 2) ?_)
  refine s_cons (s_forE po (ei_lst (ev_slL ((pv_lst (va_cons pv_str (va_cons pv_str (va_cons pv_str (va_cons pv_str (va_cons pv_str (va_cons pv_str va_nil))))))).ev ⟨_, rfl, eo_none (eo_some (ev_op op_add (pv_int.ev (ev_nextP tk (D_next E) hr1 (.l c (iDic K x [])) (pv_v 0) (pv_v 1) rfl (by omega) fun j j0 j1 => ?_))))⟩))))
  refine p2_add _ ?_
  obtain ⟨k, rfl⟩ : ∃ k : Nat, j = k := ⟨j.toNat, by omega⟩
  have ek : (1 + (k : Int)) = ((1 + k : Nat) : Int) := by omega
  refine ⟨1 + (k : Int), rfl, _, .inl rfl, Str, nm6.take (1 + k), D.str, fun p δ' I' => ∃ (t : Tb) (l : Int) (o6 o7 : Option D), TabI total (mx most) l p t ∧ I' = (c.fill (iDr K a b)).and (iDic K x (t.map fun y => (.inr y.1, .lst (y.2.map wr4)))) ∧ δ' = [some (.adr a), some (.int works), some (.int total), some (.int most), some (.adr x), some (.int l), o6, o7], ?_, ⟨[], total, none, none, ⟨List.nil_sublist _, (fun p hp => nomatch hp), by simp, by omega, (fun h => absurd rfl h), fun h => absurd rfl h⟩, rfl, rfl⟩, ?_, ?_⟩
  · rw [ek, cut_take]; exact (List.map_take (f := D.str) (l := nm6) (i := 1 + k)).symm
  · rintro p n r δ' I' e ⟨t, l, o6, o7, g, rfl, rfl⟩
    refine ⟨_, [6], bind_name 6, ?_⟩
    refine s_one (s_ifP (DL.pt_cmp op_gt (pv_v 5) pv_int p2_gt) (fun hl => ?_) fun hl => s_nil ?_)
    · have hl : 0 < l := of_decide_eq_true hl
      refine s_cons (s_set 7 (ev_op op_add (pv_int.ev (ev_nextP tk (D_next E) hr1 (.l c (iDic K x (t.map fun y => (.inr y.1, .lst (y.2.map wr4))))) (pv_v 0) (pv_cb (call_min2 rfl) E.b_min (va_cons pv_int (va_cons (pv_v 5) va_nil)) pn_min2) rfl (by split <;> omega) fun i i0 i1 => p2_add _ ?_))))
      have h3 : 1 + i ≤ 3 ∧ 1 + i ≤ l := by split at i1 <;> omega
      refine s_cons (s_dput (y := .str n) (k := .inr n) (p := x) (kds := t.map fun y => (.inr y.1, .lst (y.2.map wr4))) hu1 (.r (c.fill (iDr K a b)) .here) (ev_freezeL (ev_def tk (D_rowof E) hr4 (ea_cons ((pv_v 0).ev (ea_cons ((pv_v 7).ev (ea_cons ((pv_v 3).ev (ea_nil ⟨a, b, .l c (iDic K x (t.map fun y => (.inr y.1, .lst (y.2.map wr4)))), 1 + i, most, rfl, rfl, by omega, by omega, m0, m1, fun ws gr hn y => ⟨y, _, _, rfl, rfl, ?_⟩⟩))))))))))
      have hfr := (sub_take e g.sub).1
      refine ⟨rfl, pv_v 4, pv_v 6, rfl, ?_, ?_⟩
      · have := g.sub.length_le
        have h2 : (nm6.take (1 + k)).length ≤ 6 := by rw [List.length_take]; exact Nat.min_le_right _ _
        rw [e, List.length_append] at h2
        rw [List.length_map] at this ⊢
        omega
      · refine s_one (s_setP 5 (pv_op op_sub (pv_v 5) (pv_v 7) p2_sub) ?_)
        refine ⟨t ++ [(n, ws)], l - (1 + i), _, _, ?_, ?_, rfl⟩
        · rw [← hn]
          exact g.add e gr (by omega) (by omega) (by omega)
        · rw [put_newT (k := fun y : Str × List Wr => y.1) (v := fun y => D.lst (y.2.map wr4)) hfr, List.map_append]; rfl
    · have hl : ¬ 0 < l := of_decide_eq_false hl
      exact ⟨t, l, _, _, g.skip t0 (by have := g.l0; omega), rfl, rfl⟩
  · rintro δ' I' ⟨t, l, o6, o7, g, rfl, rfl⟩
    refine s_one (s_retP (pv_v 4) (q t ⟨g.sub.trans (List.take_sublist _ _), ?_, ?_, g.row, ?_, g.fa (by simp)⟩ x))
    · have := g.ne (by simp)
      exact List.length_pos_iff.mpr this
    · have h1 := g.sub.length_le
      rw [List.length_map, List.length_take] at h1
      omega
    · have := g.tot
      have := g.l0
      omega
end
end LK
set_option Elab.async false
set_option linter.all false
set_option maxRecDepth 100000
set_option maxHeartbeats 1000000
namespace LK
open PySem PySem.Spec PyProof.Rows L2 DL
theorem t_get {t : Tb} {p : Str × List Wr} (nd : (t.map (·.1)).Nodup) (hp : p ∈ t) : getG (t.map fun x => ((.inr x.1 : Key), D.lst (x.2.map wr4))) (.inr p.1) = some (.lst (p.2.map wr4)) := get_dicT (k := fun x : Str × List Wr => x.1) (v := fun x => D.lst (x.2.map wr4)) nd hp
theorem nd_at {t p r : Tb} {x : Str × List Wr} (nd : (t.map (·.1)).Nodup) (e : t = p ++ x :: r) : x.1 ∉ p.map (·.1) := by
  rw [e, List.map_append] at nd
  intro hx
  exact (List.nodup_append.mp nd).2.2 _ hx _ (by simp) rfl
section
variable {P : Program} {w : World} {K : PySem.W.Frag} {mg : Str → Option Value} {base : Heap}
theorem D_built (E : Env P w K mg base) : Def P w K mg base "_law_built" 6 ["_law_t"] [] sBuilt := mk_f_Lbuilt E fun fd F => by
  refine fn_d F sc_f_Lbuilt (fun I ds P R h => by obtain ⟨t, rfl, _⟩ := h; rfl) fun cdv A outer s H EE hr tk po I ds Q R h => ?_
  obtain ⟨t, rfl, o, q⟩ := h
  have nd := sc_f_Lbuilt.nd
  have hu1 := hr.u1
  have hr4 : Room 4 _ := hr.mono (by decide)
  have hr5 : Room 5 _ := hr
  refine s_cons (s_set 1 (ev_dnew fun x _ => ?_))
  refine s_cons (s_forT (xs := t) (g := fun p => D.str p.1) po (vi_dicT (pv_v (d := tD t) 0)) (fun p δ' I' => I' = I.and (iDic K x (p.map fun y => (.inr y.1, .lst (y.2.map (wrD K))))) ∧ ∃ o2 o3, δ' = [some (tD t), some (.adr x), o2, o3]) ⟨rfl, none, none, rfl⟩ ?_ ?_)
  · rintro p y r δ' I' e ⟨rfl, o2, o3, rfl⟩
    have hy : y ∈ t := by rw [e]; simp
    have hrow := o.row y hy
    have hlen := hrow.m
    refine ⟨_, [2], bind_name 2, ?_⟩
    refine s_one (s_dput (y := .str y.1) (k := .inr y.1) (p := x) (kds := p.map fun y => (.inr y.1, .lst (y.2.map (wrD K)))) hu1 (.r I .here) (PV.ev (pv_lcTM (xs := y.2) (g := wr4) (wrD K) [("_law_one_here", 3)] (fun z => [some (tD t), some (.adr x), some (.str y.1), some (wr4 z)]) (vi_lst (pv_dget hu1 (.inl rfl) (pv_v (d := tD t) 0) (pv_v 2) rfl (t_get o.nd hy))) (by omega) (fun z s H C cl fp => bind_name 3) fun z hz J s H C cl fp => ?_) ?_))
    · have gz := hrow.g z hz
      exact pv_write E hr4 (pv_ix ix_tup (pv_w (d := wr4 z) 3 rfl) pv_int (p2_ixT rfl)) (pv_ix ix_tup (pv_w (d := wr4 z) 3 rfl) pv_int (p2_ixT rfl)) (pv_ix ix_tup (pv_w (d := wr4 z) 3 rfl) pv_int (p2_ixT rfl)) (pv_ix ix_tup (pv_w (d := wr4 z) 3 rfl) pv_int (p2_ixT rfl)) gz.g gz.h
    · refine ⟨rfl, pv_v 1, pv_v 2, rfl, ?_, ?_, _, _, rfl⟩
      · have := o.m
        rw [e, List.length_append, List.length_cons] at this
        rw [List.length_map]; omega
      · rw [put_newT (k := fun y : Str × List Wr => y.1) (v := fun y => D.lst (y.2.map (wrD K))) (nd_at o.nd e), List.map_append]; rfl
  · rintro δ' I' ⟨rfl, o2, o3, rfl⟩
    exact sx_freezeD (j := 1) rfl (s_one (s_retP (pv_castL E hr5 o (pv_v (d := dicT t (·.1) fun p => .lst (p.2.map (wrD K))) 1)) q))
end
end LK
set_option Elab.async false
set_option linter.all false
set_option maxRecDepth 100000
set_option maxHeartbeats 1000000
namespace LK
open PySem PySem.Spec PyProof.Rows L2 DL
section
variable {P : Program} {w : World} {K : PySem.W.Frag} {mg : Str → Option Value} {base : Heap}
end
end LK
set_option Elab.async false
set_option linter.all false
set_option maxRecDepth 100000
set_option maxHeartbeats 1000000
namespace LK
open PySem PySem.Spec PyProof.Rows L2 DL
theorem er_step {α : Type} {l : List α} {c k : Nat} {e : α} (h : c + k < l.length) : (l.take c ++ List.replicate k e ++ l.drop (c + k)).set (c + k) e = l.take c ++ List.replicate (k + 1) e ++ l.drop (c + (k + 1)) := by
  rw [List.drop_eq_getElem_cons h]
  have hl : (l.take c ++ List.replicate k e).length = c + k := by rw [List.length_append, List.length_take, List.length_replicate]; omega
  rw [List.set_append_right _ _ (by omega), hl, Nat.sub_self, List.replicate_succ']
  simp [Nat.add_assoc]
section
variable {P : Program} {w : World} {K : PySem.W.Frag} {mg : Str → Option Value} {base : Heap}
end
end LK
set_option Elab.async false
set_option linter.all false
set_option maxRecDepth 100000
set_option maxHeartbeats 1000000
namespace LK
open PySem PySem.Spec PyProof.Rows L2 DL
structure GoodM (t : Tb) (me : Pc) (put : Pc → Nat) (s : Scr Cell) : Prop where
  g : Good t put s
  mt : upN me s + curN me s = put me
  nx : put me - s.co = upN me s
structure RelS (t : Tb) (w : Nat) (D : Pc → Prop) (A : Prop) (me : Pc) (put : Pc → Nat) (s : Scr Cell) (r : Rw) : Prop where
  ok : SOk w s
  cl : r.cells = s.cur
  co : r.co = s.co
  gd : r.sp = false → GoodM t me put s
  dm : r.sp = true → A ∨ Doom t D s
  fr : ∀ (c : Nat) (x : Str × Nat × Nat), s.co ≤ c → s.cur[c]? = some (some x) → D (x.1, x.2.1)
  al : ∀ x : Str × Nat × Nat, some x ∈ s.cur → D (x.1, x.2.1) ∨ (x.1, x.2.1) = me
section
variable {t : Tb} {w : Nat} {D : Pc → Prop} {A : Prop} {me : Pc} {put : Pc → Nat} {s : Scr Cell} {r : Rw}
theorem isP_some {p : Pc} {x : Str × Nat × Nat} : isP p (some x) = decide ((x.1, x.2.1) = p) := by
  unfold isP pcO
  simp
theorem isP_none {p : Pc} : isP p none = false := rfl
theorem mem_at {l : List Cell} {c : Nat} {x : Cell} (h : l[c]? = some x) : x ∈ l := List.mem_of_getElem? h
theorem begun_up (g : Good t put s) {p : Pc} (h : 0 < curN p s) : begunP s.cur p = upN p s := by
  unfold begunP
  cases e : colsP s.cur p with
  | nil =>
    have h2 := colsP_len s.cur p
    rw [e] at h2
    exact absurd h (by unfold curN; rw [← h2]; exact Nat.lt_irrefl 0)
  | cons c r =>
    obtain ⟨h1, h2⟩ := cols_hd e
    show idxC (celAt s.cur c) - c = _
    have h3 : s.cur[c]? = some (celAt s.cur c) := by unfold celAt; rw [List.getElem?_eq_getElem h1]; rfl
    cases ec : celAt s.cur c with
    | none => rw [ec] at h2; cases h2
    | some x =>
      rw [ec] at h2 h3
      have e2 : (x.1, x.2.1) = p := by simpa [pcO] using h2
      rw [← e2]
      exact g.at_ c x h3
theorem torn_iff (g : Good t put s) {p : Pc} (h : 0 < curN p s) : tornP t s.cur p = true ↔ upN p s + curN p s < lenP t p := by
  unfold tornP
  rw [begun_up g h, colsP_len, decide_eq_true_iff]
  show curN p s < lenP t p - upN p s ↔ _
  omega
theorem pc_cur {p : Pc} (h : p ∈ pcsR s.cur) : 0 < curN p s ∧ ∃ x : Str × Nat × Nat, some x ∈ s.cur ∧ (x.1, x.2.1) = p := by
  refine ⟨pcs_cnt.mp h, ?_⟩
  obtain ⟨c, hc, e⟩ := pcs_mem.mp h
  cases c with
  | none => cases e
  | some x => exact ⟨x, hc, by simpa [pcO] using e⟩
theorem RelS.leave (h : RelS t w D A me put s r) {wr b : Bool} (hm : wr = false → put me = lenP t me ∨ put me = 0) : RelS t w D A me put (sDown w none b s) (rLeave t me wr r) := by
  have hl := h.cl
  have ns : ∀ x : Str × Nat × Nat, some x ∉ (sDown w none b s).cur := fun x hx => by
    have := (List.mem_replicate.mp (show some x ∈ List.replicate w none from hx)).2
    cases this
  refine ⟨h.ok.down, ?_, rfl, ?_, ?_, fun c x _ hc => absurd (mem_at hc) (ns x), fun x hx => absurd hx (ns x)⟩
  · show List.replicate r.cells.length none = List.replicate w none
    rw [hl, h.ok.cl]
  · intro hs
    have hs : (r.sp || badLeave t me wr r.cells) = false := hs
    obtain ⟨h1, h2⟩ := Bool.or_eq_false_iff.mp hs
    have gm := h.gd h1
    have g := gm.g
    rw [hl] at h2
    unfold badLeave at h2
    obtain ⟨h3, h4⟩ := Bool.or_eq_false_iff.mp h2
    have ht : ∀ p, upN p (sDown w none b s) + curN p (sDown w none b s) = upN p s + curN p s := fun p => by rw [down_up, down_cur]; rfl
    refine ⟨⟨g.le, fun p => by rw [ht]; exact g.tot p, fun p e => by rw [ht]; exact g.st p e, fun p e => ?_, fun c x hc => absurd (mem_at hc) (ns x), ?_⟩, ?_, ?_⟩
    · rw [ht, down_up]
      by_cases hc : curN p s = 0
      · rw [hc]
        have := g.sh p e
        rw [hc] at this
        exact this
      · by_cases ep : p = me
        · exact .inr (by rw [ep]; exact gm.mt)
        · have hp : p ∈ pcsR s.cur := pcs_cnt.mpr (Nat.pos_of_ne_zero hc)
          have h5 := List.any_eq_false.mp h4 p hp
          rw [decide_eq_false ep, Bool.and_false, Bool.not_false, Bool.true_and, e, Bool.not_false, Bool.true_and] at h5
          have h6 := mt (torn_iff g (Nat.pos_of_ne_zero hc)).mpr h5
          have h7 := g.tot p
          have h8 := g.le p
          exact .inr (by omega)
    · intro q hq
      rcases List.mem_append.mp hq with hq | hq
      · exact g.mx q hq
      · rw [List.mem_singleton.mp hq]; exact h3
    · rw [ht]; exact gm.mt
    · rw [down_up]
      show put me - 0 = _
      rw [gm.mt]; omega
  · intro hs
    have hs : (r.sp || badLeave t me wr r.cells) = true := hs
    by_cases h1 : r.sp = true
    · exact (h.dm h1).imp id Doom.down
    · have h1 : r.sp = false := by simpa using h1
      rw [h1, Bool.false_or, hl] at hs
      have gm := h.gd h1
      have g := gm.g
      unfold badLeave at hs
      rcases Bool.or_eq_true_iff.mp hs with h3 | h4
      · exact .inr (.inl ⟨s.cur, List.mem_append_right _ List.mem_cons_self, h3⟩)
      · obtain ⟨p, hp, hb⟩ := List.any_eq_true.mp h4
        simp only [Bool.and_eq_true, Bool.not_eq_true'] at hb
        obtain ⟨hb1, hb2, hb3⟩ := hb
        obtain ⟨hc, x, hx, ex⟩ := pc_cur hp
        have ht := (torn_iff g hc).mp hb3
        have hD : D p := by
          rcases h.al x hx with d | d
          · rw [← ex]; exact d
          · rw [ex] at d
            exfalso
            subst d
            cases wr with
            | true => simp at hb1
            | false =>
              have := gm.mt
              rcases hm rfl with e | e <;> omega
        exact .inr (.inr (.inr ⟨p, hD, hb2, by rw [down_up]; omega, by rw [down_up, down_cur]; omega⟩))
theorem take_cnt (h : SOk w s) {c : Nat} (hc : c < w) {x : Cell} (p : Pc) : (s.cur.set c x).countP (isP p) + (if isP p (celAt s.cur c) = true then 1 else 0) = curN p s + (if isP p x = true then 1 else 0) := set_cnt _ _ _ _ (by rw [h.cl]; exact hc)
theorem RelS.take (h : RelS t w D A me put s r) (dn : ¬ D me) (dl : ∀ p, D p → put p = lenP t p) {c : Nat} (h1 : s.co ≤ c) (hc : c < w) : RelS t w D A me put { s with cur := s.cur.set c none } (rTake t c r) := by
  have hl := h.cl
  have hlen : c < s.cur.length := by rw [h.ok.cl]; exact hc
  have ex : s.cur[c]? = some (celAt s.cur c) := by unfold celAt; rw [List.getElem?_eq_getElem hlen]; rfl
  have eu : ∀ p, upN p ({ s with cur := s.cur.set c none } : Scr Cell) = upN p s := fun p => rfl
  have ec : ∀ p, curN p ({ s with cur := s.cur.set c none } : Scr Cell) + (if isP p (celAt s.cur c) = true then 1 else 0) = curN p s := fun p => by
    have := take_cnt h.ok hc (x := none) p
    rw [isP_none] at this
    exact this
  have oth : ∀ (k : Nat) (x : Str × Nat × Nat), (s.cur.set c none)[k]? = some (some x) → s.cur[k]? = some (some x) := fun k x hk => by
    by_cases e : c = k
    · subst e
      rw [List.getElem?_set_self hlen] at hk
      cases hk
    · rw [List.getElem?_set_ne e] at hk
      exact hk
  have omem : ∀ x : Str × Nat × Nat, some x ∈ s.cur.set c none → some x ∈ s.cur := fun x hx => by
    obtain ⟨k, hk⟩ := List.mem_iff_getElem?.mp hx
    exact mem_at (oth k x hk)
  refine ⟨⟨h.ok.w1, h.ok.w99, by rw [List.length_set]; exact h.ok.cl, h.ok.ul, h.ok.jl, h.ok.j0, h.ok.cw⟩, by show r.cells.set c none = _; rw [hl], h.co, ?_, ?_, fun k x hk hx => h.fr k x hk (oth k x hx), fun x hx => h.al x (omem x hx)⟩
  · intro hs
    have hs : (r.sp || hardC t (celAt r.cells c) c) = false := hs
    obtain ⟨h2, h3⟩ := Bool.or_eq_false_iff.mp hs
    rw [hl] at h3
    have gm := h.gd h2
    have g := gm.g
    cases ev : celAt s.cur c with
    | none =>
      rw [ev] at ec
      have ec' : ∀ p, curN p ({ s with cur := s.cur.set c none } : Scr Cell) = curN p s := fun p => by have := ec p; rw [isP_none] at this; simpa using this
      exact ⟨⟨g.le, fun p => by rw [eu, ec']; exact g.tot p, fun p e => by rw [eu, ec']; exact g.st p e, fun p e => by rw [eu, ec']; exact g.sh p e, fun k x hk => g.at_ k x (oth k x hk), g.mx⟩, by rw [eu, ec']; exact gm.mt, gm.nx⟩
    | some x =>
      rw [ev] at ec ex h3
      have hD := h.fr c x h1 ex
      have h3 : (staysB t (x.1, x.2.1) || decide (c < x.2.2)) = false := h3
      obtain ⟨h4, h5⟩ := Bool.or_eq_false_iff.mp h3
      have h6 : upN (x.1, x.2.1) s = 0 := by
        rw [← g.at_ c x ex]
        have := of_decide_eq_false h5
        omega
      have ne : ∀ p, p ≠ (x.1, x.2.1) → curN p ({ s with cur := s.cur.set c none } : Scr Cell) = curN p s := fun p hp => by
        have := ec p
        rw [isP_some, decide_eq_false (fun z => hp z.symm)] at this
        simpa using this
      refine ⟨⟨g.le, fun p => ?_, fun p e => ?_, fun p e => ?_, fun k x hk => g.at_ k x (oth k x hk), g.mx⟩, ?_, gm.nx⟩
      · rw [eu]; have := ec p; have := g.tot p; omega
      · rw [eu, ne p (fun z => by rw [z, h4] at e; cases e)]; exact g.st p e
      · by_cases ep : p = (x.1, x.2.1)
        · exact .inl (by rw [eu, ep]; exact h6)
        · rw [eu, ne p ep]; exact g.sh p e
      · rw [eu, ne me (fun z => dn (by rw [z]; exact hD))]; exact gm.mt
  · intro hs
    have hs : (r.sp || hardC t (celAt r.cells c) c) = true := hs
    by_cases h2 : r.sp = true
    · exact (h.dm h2).imp id fun d => d.cur rfl fun p _ => by have := ec p; omega
    · have h2 : r.sp = false := by simpa using h2
      rw [h2, Bool.false_or, hl] at hs
      have gm := h.gd h2
      have g := gm.g
      cases ev : celAt s.cur c with
      | none => rw [ev] at hs; cases hs
      | some x =>
        rw [ev] at hs ec ex
        have hD := h.fr c x h1 ex
        have e1 := ec (x.1, x.2.1)
        rw [isP_some, decide_eq_true rfl, if_pos rfl] at e1
        have e2 := g.tot (x.1, x.2.1)
        have e3 := dl _ hD
        have hs : (staysB t (x.1, x.2.1) || decide (c < x.2.2)) = true := hs
        right
        cases est : staysB t (x.1, x.2.1) with
        | true => exact .inr (.inl ⟨_, hD, est, by rw [eu]; omega⟩)
        | false =>
          rw [est, Bool.false_or] at hs
          have e4 := of_decide_eq_true hs
          have e5 := g.at_ c x ex
          exact .inr (.inr ⟨_, hD, est, by rw [eu]; omega, by rw [eu]; omega⟩)
theorem RelS.eraseK (h : RelS t w D A me put s r) (dn : ¬ D me) (dl : ∀ p, D p → put p = lenP t p) : ∀ k, s.co + k ≤ w → RelS t w D A me put { s with cur := s.cur.take s.co ++ List.replicate k none ++ s.cur.drop (s.co + k) } ((List.range' s.co k).foldl (fun r c => rTake t c r) r)
  | 0, _ => by
    have e : s.cur.take s.co ++ List.replicate 0 none ++ s.cur.drop (s.co + 0) = s.cur := by simp
    rw [e]; exact h
  | k + 1, hk => by
    have ih := RelS.eraseK h dn dl k (by omega)
    have e : List.range' s.co (k + 1) = List.range' s.co k ++ [s.co + k] := by rw [List.range'_concat]; simp
    rw [e, List.foldl_append]
    have h2 := ih.take dn dl (c := s.co + k) (Nat.le_add_right _ _) (by omega)
    have e2 := er_step (l := s.cur) (c := s.co) (k := k) (e := (none : Cell)) (by rw [h.ok.cl]; omega)
    have h3 : RelS t w D A me put { s with cur := (s.cur.take s.co ++ List.replicate k none ++ s.cur.drop (s.co + k)).set (s.co + k) none } _ := h2
    rw [e2] at h3
    exact h3
theorem RelS.erase (h : RelS t w D A me put s r) (dn : ¬ D me) (dl : ∀ p, D p → put p = lenP t p) : RelS t w D A me put (sErase none s) (rErase t r) := by
  have h1 := h.ok.cl
  have h2 := h.ok.cw
  have h3 := h.eraseK dn dl (w - s.co) (by omega)
  have e : s.cur.drop (s.co + (w - s.co)) = [] := List.drop_of_length_le (by omega)
  rw [e, List.append_nil] at h3
  unfold rErase sErase
  rw [h.co, h.cl, h1]
  exact h3
theorem RelS.put1 {j : Nat} (h : RelS t w D A me put s r) (dn : ¬ D me) (dl : ∀ p, D p → put p = lenP t p) (hc : s.co < w) (hj : put me = j) (hl : j < lenP t me) : RelS t w D A me (fun p => if p = me then j + 1 else put p) (sPut1 (some (me.1, me.2, j)) s) (rPut1 t (some (me.1, me.2, j)) r) := by
  have k := h.take dn dl (Nat.le_refl _) hc
  have hlen : s.co < s.cur.length := by rw [h.ok.cl]; exact hc
  have e0 : (s.cur.set s.co none).set s.co (some (me.1, me.2, j)) = s.cur.set s.co (some (me.1, me.2, j)) := List.set_set ..
  have ok' : SOk w (sPut1 (some (me.1, me.2, j)) s) := h.ok.put1 hc
  -- counts behind the sign, from those behind the taking
  have eu : ∀ p, upN p (sPut1 (some (me.1, me.2, j)) s) = upN p s := fun p => rfl
  have ec : ∀ p, curN p (sPut1 (some (me.1, me.2, j)) s) = curN p ({ s with cur := s.cur.set s.co none } : Scr Cell) + (if p = me then 1 else 0) := fun p => by
    have h1 := take_cnt h.ok hc (x := none) p
    have h2 := take_cnt h.ok hc (x := some (me.1, me.2, j)) p
    rw [isP_none] at h1
    rw [isP_some] at h2
    show (s.cur.set s.co (some (me.1, me.2, j))).countP (isP p) = (s.cur.set s.co none).countP (isP p) + _
    by_cases e : p = me
    · subst e
      rw [if_pos rfl]
      rw [decide_eq_true rfl, if_pos rfl] at h2
      simp only [Bool.false_eq_true, if_false] at h1
      omega
    · rw [if_neg e]
      rw [decide_eq_false (fun z => e z.symm)] at h2
      simp only [Bool.false_eq_true, if_false] at h1 h2
      omega
  have oth : ∀ (c : Nat) (x : Str × Nat × Nat), (s.cur.set s.co (some (me.1, me.2, j)))[c]? = some (some x) → (c = s.co ∧ x = (me.1, me.2, j)) ∨ (c ≠ s.co ∧ s.cur[c]? = some (some x)) := fun c x hx => by
    by_cases e : s.co = c
    · subst e
      rw [List.getElem?_set_self hlen] at hx
      exact .inl ⟨rfl, (Option.some.inj (Option.some.inj hx)).symm⟩
    · rw [List.getElem?_set_ne e] at hx
      exact .inr ⟨fun z => e z.symm, hx⟩
  refine ⟨ok', ?_, by show r.co + 1 = s.co + 1; rw [h.co], ?_, ?_, ?_, ?_⟩
  · show ((rTake t r.co r).cells.set r.co _) = s.cur.set s.co _
    show (r.cells.set r.co none).set r.co _ = _
    rw [h.co, h.cl, e0]
  · intro hs
    have hs2 : (rTake t s.co r).sp = false := by rw [← h.co]; exact hs
    have gm := k.gd hs2
    have g := gm.g
    refine ⟨⟨fun p => ?_, fun p => ?_, fun p e => ?_, fun p e => ?_, fun c x hx => ?_, g.mx⟩, ?_, ?_⟩
    · show (if p = me then j + 1 else put p) ≤ _
      split
      · rename_i e; rw [e]; exact hl
      · exact g.le p
    · show _ ≤ (if p = me then j + 1 else put p)
      rw [eu, ec]
      have h1 := g.tot p
      have h1 : upN p s + curN p ({ s with cur := s.cur.set s.co none } : Scr Cell) ≤ put p := h1
      split
      · rename_i e; rw [e] at h1 ⊢; omega
      · omega
    · show _ = (if p = me then j + 1 else put p)
      rw [eu, ec]
      have h1 : upN p s + curN p ({ s with cur := s.cur.set s.co none } : Scr Cell) = put p := g.st p e
      split
      · rename_i e; rw [e] at h1 ⊢; omega
      · omega
    · show _ ∨ _ = (if p = me then j + 1 else put p)
      rw [eu, ec]
      have h1 : upN p s = 0 ∨ upN p s + curN p ({ s with cur := s.cur.set s.co none } : Scr Cell) = put p := g.sh p e
      split
      · rename_i e
        rw [e]
        have h2 : upN me s + curN me ({ s with cur := s.cur.set s.co none } : Scr Cell) = put me := gm.mt
        exact .inr (by omega)
      · exact h1.imp id fun z => by omega
    · rcases oth c x hx with ⟨e1, e2⟩ | ⟨e1, e2⟩
      · rw [e1, e2, eu]
        have h2 : put me - s.co = upN me s := gm.nx
        show j - s.co = upN me s
        rw [← h2, hj]
      · rw [eu]
        have := g.at_ c x (by show (s.cur.set s.co none)[c]? = _; rw [List.getElem?_set_ne (fun z => e1 z.symm)]; exact e2)
        exact this
    · show _ = (if me = me then j + 1 else put me)
      rw [if_pos rfl, eu, ec, if_pos rfl]
      have h2 : upN me s + curN me ({ s with cur := s.cur.set s.co none } : Scr Cell) = put me := gm.mt
      omega
    · show (if me = me then j + 1 else put me) - (s.co + 1) = _
      rw [if_pos rfl, eu]
      have h2 : put me - s.co = upN me s := gm.nx
      omega
  · intro hs
    have hs2 : (rTake t s.co r).sp = true := by
      rw [← h.co]; exact hs
    refine (k.dm hs2).imp id fun d => ?_
    exact d.cur rfl fun p hp => by
      rw [ec, if_neg (fun z => dn (by rw [← z]; exact hp))]
      exact Nat.le_refl _
  · intro c x hc' hx
    have hc' : s.co + 1 ≤ c := hc'
    rcases oth c x hx with ⟨e1, e2⟩ | ⟨e1, e2⟩
    · omega
    · exact h.fr c x (by omega) e2
  · intro x hx
    obtain ⟨c, hc'⟩ := List.mem_iff_getElem?.mp hx
    rcases oth c x hc' with ⟨e1, e2⟩ | ⟨e1, e2⟩
    · rw [e2]; exact .inr rfl
    · exact h.al x (mem_at e2)
end
end LK
set_option Elab.async false
set_option linter.all false
set_option maxRecDepth 100000
set_option maxHeartbeats 1000000
namespace LK
open PySem PySem.Spec PyProof.Rows L2 DL
section
variable {t : Tb} {w : Nat} {D : Pc → Prop} {A : Prop} {me : Pc} {put : Pc → Nat} {s : Scr Cell} {r : Rw}
theorem RelS.putS {j : Nat} (h : RelS t w D A me put s r) (dn : ¬ D me) (dl : ∀ p, D p → put p = lenP t p) (hj : put me = j) (hl : j < lenP t me) : RelS t w D A me (fun p => if p = me then j + 1 else put p) (sPut w none s (some (me.1, me.2, j))) (rPut t me r j) := by
  unfold sPut rPut sWrap rWrap
  have e : (r.co = r.cells.length) = (s.co = w) := by rw [h.co, h.cl, h.ok.cl]
  simp only [e]
  by_cases hw : s.co = w
  · rw [if_pos hw, if_pos hw]
    exact (h.leave (wr := true) (b := true) (fun z => nomatch z)).put1 dn dl (by show 0 < w; have := h.ok.w1; omega) hj hl
  · rw [if_neg hw, if_neg hw]
    exact h.put1 dn dl (by have := h.ok.cw; omega) hj hl
theorem upd_put (j : Nat) : (fun p => if p = me then j + 1 else (fun p => if p = me then j else put p) p) = fun p => if p = me then j + 1 else put p := by
  funext p
  show (if p = me then j + 1 else if p = me then j else put p) = _
  split <;> rfl
theorem RelS.typeK (h : RelS t w D A me put s r) (dn : ¬ D me) (dl : ∀ p, D p → put p = lenP t p) (h0 : put me = 0) : ∀ k, k ≤ lenP t me → RelS t w D A me (fun p => if p = me then k else put p) (((List.range k).map fun j => (some (me.1, me.2, j) : Cell)).foldl (sPut w none) s) ((List.range k).foldl (rPut t me) r)
  | 0, _ => by
    have e : (fun p => if p = me then 0 else put p) = put := by
      funext p
      split
      · rename_i z; rw [z, h0]
      · rfl
    rw [e]; exact h
  | k + 1, hk => by
    have ih := RelS.typeK h dn dl h0 k (by omega)
    rw [List.range_succ, List.map_append, List.foldl_append, List.foldl_append]
    have h2 := ih.putS dn (fun p hp => by
      show (if p = me then k else put p) = _
      rw [if_neg (fun z => dn (by rw [← z]; exact hp))]; exact dl p hp) (j := k) (by show (if me = me then k else put me) = k; rw [if_pos rfl]) (by omega)
    rw [upd_put] at h2
    exact h2
theorem things_eq : thingsO t me.1 me.2 = (List.range (lenP t me)).map fun j => (some (me.1, me.2, j) : Cell) := rfl
theorem RelS.type (h : RelS t w D A me put s r) (dn : ¬ D me) (dl : ∀ p, D p → put p = lenP t p) (h0 : put me = 0) : RelS t w D A me (fun p => if p = me then lenP t me else put p) (sType w none s (thingsO t me.1 me.2)) (rType t me r) := by
  unfold sType rType
  rw [things_eq]
  exact h.typeK dn dl h0 _ (Nat.le_refl _)
theorem RelS.word3 (h : RelS t w D A me put s r) (hm : put me = lenP t me ∨ put me = 0) {wd : Str} : RelS t w D A me put (sWord3 w none wd s) (rWord3 t me wd r) := by
  unfold sWord3 rWord3
  rw [h.co]
  split
  · exact h.leave (wr := false) fun _ => hm
  · exact h
theorem RelS.word2 (h : RelS t w D A me put s r) (dn : ¬ D me) (dl : ∀ p, D p → put p = lenP t p) {wd : Str} : RelS t w D A me put (sWord2 none wd s) (rWord2 t wd r) := by
  unfold sWord2 rWord2
  split
  · exact h.erase dn dl
  · exact h
theorem RelS.tail (h : RelS t w D A me put s r) (dn : ¬ D me) (dl : ∀ p, D p → put p = lenP t p) (hm : put me = lenP t me) {wd : Str} (hw : wd ∈ tails) : RelS t w D A me put (sWord w none wd s) (rWord t me wd r) := by
  have e1 : sWord1 wd s = s := by
    unfold sWord1
    rw [if_neg]
    rintro (e | e) <;> subst e <;> exact absurd hw (by decide)
  have e2 : rWord1 wd r = r := by
    unfold rWord1
    rw [if_neg]
    rintro (e | e) <;> subst e <;> exact absurd hw (by decide)
  unfold sWord rWord
  rw [e1, e2]
  exact (h.word2 dn dl).word3 (.inl hm)
theorem RelS.lead (h : RelS t w D A me put s r) (dn : ¬ D me) (dl : ∀ p, D p → put p = lenP t p) (h0 : put me = 0) (ha : ∀ x : Str × Nat × Nat, some x ∈ s.cur → D (x.1, x.2.1)) {wd : Str} : RelS t w D A me put (sWord w none wd s) (rWord t me wd r) := by
  have h1 : RelS t w D A me put (sWord1 wd s) (rWord1 wd r) := by
    unfold sWord1 rWord1
    split
    · refine ⟨⟨h.ok.w1, h.ok.w99, h.ok.cl, h.ok.ul, h.ok.jl, h.ok.j0, Nat.zero_le _⟩, h.cl, rfl, fun hs => ?_, h.dm, fun c x _ hc => ha x (mem_at hc), h.al⟩
      have gm := h.gd hs
      refine ⟨⟨gm.g.le, gm.g.tot, gm.g.st, gm.g.sh, gm.g.at_, gm.g.mx⟩, gm.mt, ?_⟩
      have := gm.nx
      have h2 := gm.g.tot me
      show put me - 0 = upN me s
      omega
    · exact h
  unfold sWord rWord
  exact (h1.word2 dn dl).word3 (.inr h0)
theorem RelS.reply (h : RelS t w D A me put s r) (ha : (wrAt t me.1 me.2).k = "reply" → notAsk t me r = true → A) : RelS t w D A me put s (rReply t me r) := by
  unfold rReply
  split
  · rename_i e
    refine ⟨h.ok, h.cl, h.co, fun hs => h.gd (Bool.or_eq_false_iff.mp hs).1, fun hs => ?_, h.fr, h.al⟩
    rcases Bool.or_eq_true_iff.mp hs with z | z
    · exact h.dm z
    · exact .inl (ha e z)
  · exact h
theorem RelS.perf (o : TbOk t) (h : RelS t w D A me put s r) (dn : ¬ D me) (dl : ∀ p, D p → put p = lenP t p) (h0 : put me = 0) (ha : ∀ x : Str × Nat × Nat, some x ∈ s.cur → D (x.1, x.2.1)) (hk : me.2 < Fits.lenT' t me.1) (hA : (wrAt t me.1 me.2).k = "reply" → notAsk t me r = true → A) :
    RelS t w D A me (fun p => if p = me then lenP t me else put p) (sWord w none (wrAt t me.1 me.2).e (sType w none (sWord w none (wrAt t me.1 me.2).l s) (thingsO t me.1 me.2))) (rPerf t me r) := by
  obtain ⟨ws, _, _, gw, _⟩ := wr_at o hk
  unfold rPerf
  refine RelS.tail (RelS.type (RelS.reply (h.lead dn dl h0 ha) fun e hn => ?_) dn dl h0) dn (fun p hp => ?_) (by show (if me = me then _ else _) = _; rw [if_pos rfl]) gw.g.ge
  · have el : (wrAt t me.1 me.2).l = "" := gw.g.gr e
    rw [el] at hn
    have e2 : rWord t me "" r = r := by
      unfold rWord rWord1 rWord2 rWord3
      have h1 : ¬ ((("" : Str) = "return") ∨ (("" : Str) = "wipe")) := by decide
      have h2 : ¬ ((("" : Str) = "wipe") ∨ (("" : Str) = "erase")) := by decide
      have h3 : ¬ (("" : Str) = "newline") := by decide
      have h4 : ¬ (("" : Str) = "fresh") := by decide
      rw [if_neg h1, if_neg h2, if_neg (fun z => z.elim h3 fun z => h4 z.1)]
    rw [e2] at hn
    exact hA e hn
  · show (if p = me then _ else put p) = _
    rw [if_neg (fun z => dn (by rw [← z]; exact hp))]
    exact dl p hp
theorem RelS.next (h : RelS t w D A me (fun p => if p = me then lenP t me else put p) s r) (dl : ∀ p, D p → put p = lenP t p) : (∀ x : Str × Nat × Nat, some x ∈ s.cur → (fun p => D p ∨ p = me) (x.1, x.2.1)) ∧ (r.sp = true → A ∨ Doom t (fun p => D p ∨ p = me) s) := by
  refine ⟨h.al, fun hs => (h.dm hs).imp id fun d => ?_⟩
  rcases d with d | ⟨p, h1, h2⟩ | ⟨p, h1, h2⟩
  · exact .inl d
  · exact .inr (.inl ⟨p, .inl h1, h2⟩)
  · exact .inr (.inr ⟨p, .inl h1, h2⟩)
end
end LK
set_option Elab.async false
set_option linter.all false
set_option maxRecDepth 100000
set_option maxHeartbeats 1000000
namespace LK
open PySem PySem.Spec PyProof.Rows L2 DL
section
variable {t : Tb} {w : Nat} {me : Pc} {r : Rw}
theorem sp_leave {wr : Bool} (h : r.sp = true) : (rLeave t me wr r).sp = true := by
  show (r.sp || _) = true
  rw [h]; rfl
theorem sp_take {c : Nat} (h : r.sp = true) : (rTake t c r).sp = true := by
  show (r.sp || _) = true
  rw [h]; rfl
theorem sp_fold {α : Type} {f : Rw → α → Rw} (hf : ∀ r a, r.sp = true → (f r a).sp = true) : ∀ (l : List α) (r : Rw), r.sp = true → (l.foldl f r).sp = true
  | [], _, h => h
  | a :: l, r, h => sp_fold hf l (f r a) (hf r a h)
theorem sp_word {wd : Str} (h : r.sp = true) : (rWord t me wd r).sp = true := by
  have h1 : (rWord1 wd r).sp = true := by unfold rWord1; split <;> exact h
  have h2 : (rWord2 t wd (rWord1 wd r)).sp = true := by
    unfold rWord2
    split
    · exact sp_fold (fun r a h => sp_take h) _ _ h1
    · exact h1
  unfold rWord rWord3
  split
  · exact sp_leave h2
  · exact h2
theorem sp_put {j : Nat} (h : r.sp = true) : (rPut t me r j).sp = true := by
  have h1 : (rWrap t me r).sp = true := by
    unfold rWrap
    split
    · exact sp_leave h
    · exact h
  exact sp_take h1
theorem sp_reply (h : r.sp = true) : (rReply t me r).sp = true := by
  unfold rReply
  split
  · show (r.sp || _) = true
    rw [h]; rfl
  · exact h
theorem sp_perf' (h : (rReply t me (rWord t me (wrAt t me.1 me.2).l r)).sp = true) : (rPerf t me r).sp = true := sp_word (sp_fold (fun r a h => sp_put h) _ _ h)
theorem sp_perf (h : r.sp = true) : (rPerf t me r).sp = true := sp_perf' (sp_reply (sp_word h))
end
structure Sit where
  cs : List Nat
  b : Str
  co : Nat
  cl : List Cell
def sit0 (t : Tb) (w : Nat) : Sit := ⟨List.replicate t.length 0, "", 0, List.replicate w none⟩
def rwN (t : Tb) (s : Sit) (me : Pc) : Rw := rPerf t me ⟨s.cl, s.co, false⟩
def sitC (t : Tb) (few : List Pc) (me : Pc) (s : Sit) : Nat × List Cell := if s.cl = [] ∨ me ∈ few then (s.co, s.cl) else if (rwN t s me).sp = true then (0, []) else ((rwN t s me).co, (rwN t s me).cells)
def nextN (t : Tb) (cs : List Nat) (n : Str) : Nat := cAt cs ((nmT t).idxOf n)
def sitN (t : Tb) (hs few : List Pc) (s : Sit) (n : Str) : Sit := ⟨afterC t s.cs n, afterB t hs s.cs n, (sitC t few (n, nextN t s.cs n) s).1, (sitC t few (n, nextN t s.cs n) s).2⟩
def sitO (t : Tb) (hs few : List Pc) (w : Nat) (ns : List Str) : Sit := ns.foldl (sitN t hs few) (sit0 t w)
def endGood (t : Tb) (s : Sit) : Bool := !decide (s.cl = []) && !badLeave t ("", 0) false s.cl
theorem sitO_snoc {t : Tb} {hs few : List Pc} {w : Nat} {ns : List Str} {n : Str} : sitO t hs few w (ns ++ [n]) = sitN t hs few (sitO t hs few w ns) n := by
  unfold sitO
  rw [List.foldl_append]; rfl
theorem sitO_st {t : Tb} {hs few : List Pc} {w : Nat} (ns : List Str) : ((sitO t hs few w ns).cs, (sitO t hs few w ns).b) = stO t hs ns := by
  refine snoc_ind (Q := fun ns => ((sitO t hs few w ns).cs, (sitO t hs few w ns).b) = stO t hs ns) rfl (fun l a ih => ?_) ns
  rw [sitO_snoc, stO_snoc, ← ih]
  rfl
def doneB (ns : List Str) (p : Pc) : Prop := p.2 < ns.count p.1
def standN (p : Pc) (s : Scr Cell) : Nat := upN p s + curN p s
structure Faulty (t : Tb) (pg : Pg) (D : Pc → Prop) : Prop where
  f : pg.ap ≠ [] ∨ (∃ r ∈ pg.s.rows, mixedR r = true) ∨ ∃ p, D p ∧ ((staysB t p = true ∧ standN p pg.s < lenP t p) ∨ (staysB t p = false ∧ 0 < standN p pg.s ∧ standN p pg.s < lenP t p))
def putO (t : Tb) (ns : List Str) (p : Pc) : Nat := if p.2 < ns.count p.1 then lenP t p else 0
structure OutR (t : Tb) (w : Nat) (ns : List Str) (pg : Pg) (s : Sit) : Prop where
  ok : SOk w pg.s
  go : s.cl ≠ [] → s.cl = pg.s.cur ∧ s.co = pg.s.co ∧ pg.ap = [] ∧ Good t (putO t ns) pg.s
  no : s.cl = [] → pg.ap ≠ [] ∨ Doom t (doneB ns) pg.s
  fr : ∀ x : Str × Nat × Nat, some x ∈ pg.s.cur → doneB ns (x.1, x.2.1)
section
variable {t : Tb} {w : Nat} {ns : List Str} {pg : Pg} {s : Sit} {n : Str} {few : List Pc}
theorem done_snoc {p : Pc} : doneB (ns ++ [n]) p ↔ doneB ns p ∨ p = (n, ns.count n) := by
  unfold doneB
  rw [List.count_append, List.count_singleton]
  by_cases e : p.1 = n
  · have e2 : (n == p.1) = true := by rw [e]; exact beq_self_eq_true _
    rw [if_pos e2, e]
    constructor
    · intro h
      by_cases h2 : p.2 < ns.count n
      · exact .inl h2
      · exact .inr (Prod.ext e (by show p.2 = _; omega))
    · rintro (h | h)
      · omega
      · rw [h]; show List.count n ns < _; omega
  · have e2 : (n == p.1) = false := beq_eq_false_iff_ne.mpr fun z => e z.symm
    rw [e2]
    constructor
    · intro h
      exact .inl (by simpa using h)
    · rintro (h | h)
      · simpa using h
      · exact absurd (by rw [h]) e
theorem put_snoc : putO t (ns ++ [n]) = fun p => if p = (n, ns.count n) then lenP t (n, ns.count n) else putO t ns p := by
  funext p
  unfold putO
  by_cases h : p.2 < (ns ++ [n]).count p.1
  · rw [if_pos h]
    rcases (done_snoc (p := p)).mp h with h2 | h2
    · by_cases e : p = (n, ns.count n)
      · rw [if_pos e, e]
      · rw [if_neg e]
        exact (if_pos (show p.2 < ns.count p.1 from h2)).symm
    · rw [if_pos h2, h2]
  · rw [if_neg h]
    have h2 := mt (done_snoc (ns := ns) (n := n) (p := p)).mpr h
    rw [if_neg (fun z => h2 (.inr z))]
    exact (if_neg (show ¬ p.2 < ns.count p.1 from fun z => h2 (.inl z))).symm
theorem put_done {p : Pc} (h : doneB ns p) : putO t ns p = lenP t p := if_pos h
theorem me_not : ¬ doneB ns (n, ns.count n) := Nat.lt_irrefl _
theorem put_me : putO t ns (n, ns.count n) = 0 := if_neg me_not
theorem Good.m (g : Good t (putO t ns) pg.s) : GoodM t (n, ns.count n) (putO t ns) pg.s := by
  have h := g.tot (n, ns.count n)
  rw [put_me] at h
  exact ⟨g, by rw [put_me]; omega, by rw [put_me]; omega⟩
theorem notAsk_apart {r : Rw} (h1 : r.cells = pg.s.cur) (h2 : r.co = pg.s.co) {me : Pc} : apartB t pg me.1 me.2 = (decide ((wrAt t me.1 me.2).k = "reply") && notAsk t me r) := by
  unfold apartB notAsk
  rw [h1, h2]
theorem OutR.step (o : TbOk t) (h : OutR t w ns pg s) (hf : (n, ns.count n) ∉ few) (hk : ns.count n < Fits.lenT' t n) {c : Nat × List Cell} (hc : c = sitC t few (n, ns.count n) s) {cs : List Nat} {b : Str} : OutR t w (ns ++ [n]) (pgStep t few w pg n (ns.count n)) ⟨cs, b, c.1, c.2⟩ := by
  have es : (pgStep t few w pg n (ns.count n)).s = sWord w none (wrAt t n (ns.count n)).e (sType w none (sWord w none (wrAt t n (ns.count n)).l pg.s) (thingsO t n (ns.count n))) := by
    show scrStep t few w pg.s n (ns.count n) = _
    unfold scrStep
    rw [if_neg hf]
  have ea : (pgStep t few w pg n (ns.count n)).ap = if apartB t pg n (ns.count n) = true then pg.ap ++ [(n, ns.count n)] else pg.ap := rfl
  have okn : SOk w (pgStep t few w pg n (ns.count n)).s := h.ok.step
  by_cases hl : s.cl = []
  · -- it was lost already
    have R : RelS t w (doneB ns) (pg.ap ≠ [] ∨ apartB t pg n (ns.count n) = true) (n, ns.count n) (putO t ns) pg.s ⟨pg.s.cur, pg.s.co, true⟩ := ⟨h.ok, rfl, rfl, (fun z => nomatch z), fun _ => (h.no hl).imp .inl id, fun c x _ hx => h.fr x (mem_at hx), fun x hx => .inl (h.fr x hx)⟩
    have R2 := R.perf o me_not (fun p hp => put_done hp) put_me h.fr hk fun e hn => .inr (by
      rw [notAsk_apart (r := ⟨pg.s.cur, pg.s.co, true⟩) rfl rfl (me := (n, ns.count n)), hn, Bool.and_true]
      exact decide_eq_true e)
    have R3 := R2.next fun p hp => put_done hp
    have ec : c = (s.co, s.cl) := by rw [hc]; unfold sitC; rw [if_pos (.inl hl)]
    rw [← es] at R3
    refine ⟨okn, fun z => absurd (by rw [ec]; exact hl) z, fun _ => ?_, fun x hx => done_snoc.mpr (R3.1 x hx)⟩
    rcases R3.2 (sp_perf rfl) with (z | z) | z
    · left
      rw [ea]
      split
      · simp
      · exact z
    · left
      rw [ea, if_pos z]; simp
    · right
      rcases z with z | ⟨p, z1, z2⟩ | ⟨p, z1, z2⟩
      · exact .inl z
      · exact .inr (.inl ⟨p, done_snoc.mpr z1, z2⟩)
      · exact .inr (.inr ⟨p, done_snoc.mpr z1, z2⟩)
  · obtain ⟨g1, g2, g3, g4⟩ := h.go hl
    have R : RelS t w (doneB ns) (apartB t pg n (ns.count n) = true) (n, ns.count n) (putO t ns) pg.s ⟨s.cl, s.co, false⟩ := ⟨h.ok, g1, g2, fun _ => g4.m, (fun z => nomatch z), fun c x _ hx => h.fr x (mem_at hx), fun x hx => .inl (h.fr x hx)⟩
    have R2 := R.perf o me_not (fun p hp => put_done hp) put_me h.fr hk fun e hn => by
      rw [notAsk_apart (r := ⟨s.cl, s.co, false⟩) g1 g2 (me := (n, ns.count n)), hn, Bool.and_true]
      exact decide_eq_true e
    have R3 := R2.next fun p hp => put_done hp
    rw [← put_snoc] at R2
    rw [← es] at R2 R3
    have hrw : rPerf t (n, ns.count n) ⟨s.cl, s.co, false⟩ = rwN t s (n, ns.count n) := rfl
    rw [hrw] at R2 R3
    have hw := h.ok.w1
    have hlen : (rwN t s (n, ns.count n)).cells.length = w := by rw [R2.cl]; exact okn.cl
    have ec : c = if (rwN t s (n, ns.count n)).sp = true then (0, []) else ((rwN t s (n, ns.count n)).co, (rwN t s (n, ns.count n)).cells) := by
      rw [hc]; unfold sitC; rw [if_neg (fun z => z.elim hl hf)]
    cases hsp : (rwN t s (n, ns.count n)).sp with
    | true =>
      rw [hsp, if_pos rfl] at ec
      refine ⟨okn, fun z => absurd (by rw [ec]) z, fun _ => ?_, fun x hx => done_snoc.mpr (R3.1 x hx)⟩
      rcases R3.2 hsp with z | z
      · left
        rw [ea, if_pos z]; simp
      · right
        rcases z with z | ⟨p, z1, z2⟩ | ⟨p, z1, z2⟩
        · exact .inl z
        · exact .inr (.inl ⟨p, done_snoc.mpr z1, z2⟩)
        · exact .inr (.inr ⟨p, done_snoc.mpr z1, z2⟩)
    | false =>
      rw [hsp, if_neg Bool.false_ne_true] at ec
      have ne : (rwN t s (n, ns.count n)).cells ≠ [] := fun z => by rw [z] at hlen; simp at hlen; omega
      refine ⟨okn, fun _ => ?_, fun z => absurd (by rw [ec] at z; exact z) ne, fun x hx => done_snoc.mpr (R3.1 x hx)⟩
      rw [ec]
      refine ⟨R2.cl, R2.co, ?_, (R2.gd hsp).g⟩
      rw [ea]
      cases hap : apartB t pg n (ns.count n) with
      | false => rw [if_neg Bool.false_ne_true]; exact g3
      | true =>
        exfalso
        have ha := notAsk_apart (t := t) (pg := pg) (r := ⟨s.cl, s.co, false⟩) g1 g2 (me := (n, ns.count n))
        rw [hap] at ha
        obtain ⟨h1, h2⟩ := Bool.and_eq_true_iff.mp ha.symm
        have h1 := of_decide_eq_true h1
        obtain ⟨ws, _, _, gw, _⟩ := wr_at o hk
        have el : (wrAt t n (ns.count n)).l = "" := gw.g.gr h1
        have e2 : rWord t (n, ns.count n) (wrAt t n (ns.count n)).l ⟨s.cl, s.co, false⟩ = ⟨s.cl, s.co, false⟩ := by
          rw [el]
          unfold rWord rWord1 rWord2 rWord3
          have h1 : ¬ ((("" : Str) = "return") ∨ (("" : Str) = "wipe")) := by decide
          have h2 : ¬ ((("" : Str) = "wipe") ∨ (("" : Str) = "erase")) := by decide
          have h3 : ¬ (("" : Str) = "newline") := by decide
          have h4 : ¬ (("" : Str) = "fresh") := by decide
          rw [if_neg h1, if_neg h2, if_neg (fun z => z.elim h3 fun z => h4 z.1)]
        have h3 : (rwN t s (n, ns.count n)).sp = true := by
          refine sp_perf' ?_
          rw [e2]
          unfold rReply
          rw [if_pos h1]
          show (false || notAsk t _ _) = true
          rw [h2]; rfl
        rw [hsp] at h3
        cases h3
end
end LK
set_option Elab.async false
set_option linter.all false
set_option maxRecDepth 100000
set_option maxHeartbeats 1000000
namespace LK
open PySem PySem.Spec PyProof.Rows L2 DL
section
variable {t : Tb} {w : Nat} {ns : List Str} {pg : Pg} {s : Sit} {n : Str} {few : List Pc}
def OnlyC (me : Pc) (c : Cell) : Prop := c = none ∨ pcO c = some me
theorem only_mixed {me : Pc} {l : List Cell} (h : ∀ c ∈ l, OnlyC me c) : mixedR l = false := by
  cases e : mixedR l with
  | false => rfl
  | true =>
    obtain ⟨c, hc, d, hd, p, q, e1, e2, ne⟩ := mixed_iff.mp e
    rcases h c hc with z | z
    · rw [z] at e1; cases e1
    · rcases h d hd with y | y
      · rw [y] at e2; cases e2
      · rw [z] at e1; rw [y] at e2
        cases e1; cases e2
        exact absurd rfl ne
theorem alone_all {me : Pc} : ScrAll (OnlyC me) (sType w none (sNew w none) (thingsO t me.1 me.2)) := by
  refine ScrAll.type (Q := OnlyC me) (.inl rfl) (ScrAll.new (Q := OnlyC me) (.inl rfl)) fun x hx => ?_
  obtain ⟨j, _, rfl⟩ := List.mem_map.mp hx
  exact .inr rfl
theorem alone_cnt {me : Pc} (h1 : 1 ≤ w) (h2 : w ≤ 99) : upN me (sType w none (sNew w none) (thingsO t me.1 me.2)) + curN me (sType w none (sNew w none) (thingsO t me.1 me.2)) = lenP t me := by
  have hz : ∀ p : Pc, upN p (sNew w none) = 0 ∧ curN p (sNew w none) = 0 := fun p => ⟨rfl, rep_cnt⟩
  have R : RelS t w (fun _ => False) False me (fun _ => 0) (sNew w none) ⟨List.replicate w none, 0, false⟩ := ⟨SOk.new h1 h2, rfl, rfl, fun _ => ⟨⟨fun p => Nat.zero_le _, fun p => by rw [(hz p).1, (hz p).2]; exact Nat.le_refl _, fun p _ => by rw [(hz p).1, (hz p).2], fun p _ => .inl (hz p).1, fun c x hx => absurd (List.mem_replicate.mp (mem_at hx)).2 (fun z => nomatch z), fun r hr => nomatch hr⟩, by rw [(hz me).1, (hz me).2], by rw [(hz me).1]; exact Nat.zero_sub _⟩, (fun z => nomatch z), fun c x _ hx => absurd (List.mem_replicate.mp (mem_at hx)).2 (fun z => nomatch z), fun x hx => absurd (List.mem_replicate.mp hx).2 (fun z => nomatch z)⟩
  have R2 := R.type id (fun p hp => hp.elim) rfl
  cases hs : (rType t me ⟨List.replicate w none, 0, false⟩).sp with
  | false =>
    have := (R2.gd hs).mt
    rw [this]
    exact if_pos rfl
  | true =>
    rcases R2.dm hs with z | ⟨r, hr, e⟩ | ⟨p, hp, _⟩ | ⟨p, hp, _⟩
    · exact z.elim
    · have := only_mixed (l := r) fun c hc => (alone_all (t := t) (w := w) (me := me)).1 r hr c hc
      rw [this] at e; cases e
    · exact hp.elim
    · exact hp.elim
theorem only_cnt {me p : Pc} (h : p ≠ me) {l : List Cell} (hl : ∀ c ∈ l, OnlyC me c) : l.countP (isP p) = 0 := by
  rw [List.countP_eq_zero]
  intro c hc e
  have e2 : pcO c = some p := of_decide_eq_true e
  rcases hl c hc with z | z
  · rw [z] at e2; cases e2
  · rw [z] at e2; cases e2; exact h rfl
theorem above_up {xs : List Cell} {p : Pc} : upN p (sAbove w none pg.s xs) = upN p pg.s + (upN p (sType w none (sNew w none) xs) + curN p (sType w none (sNew w none) xs)) := by
  show (pg.s.up.take (lineAt pg.s.jo) ++ (sType w none (sNew w none) xs).rows ++ pg.s.up.drop (lineAt pg.s.jo)).flatten.countP (isP p) = _
  rw [List.flatten_append, List.flatten_append, List.countP_append, List.countP_append]
  have e1 : (pg.s.up.take (lineAt pg.s.jo)).flatten.countP (isP p) + (pg.s.up.drop (lineAt pg.s.jo)).flatten.countP (isP p) = upN p pg.s := by
    rw [← List.countP_append, ← List.flatten_append, List.take_append_drop]; rfl
  have e2 : (sType w none (sNew w none) xs).rows.flatten.countP (isP p) = upN p (sType w none (sNew w none) xs) + curN p (sType w none (sNew w none) xs) := up_flat
  omega
theorem above_mem {xs : List Cell} {r : List Cell} : r ∈ (sAbove w none pg.s xs).up ↔ r ∈ pg.s.up ∨ r ∈ (sType w none (sNew w none) xs).rows := by
  show r ∈ pg.s.up.take (lineAt pg.s.jo) ++ (sType w none (sNew w none) xs).rows ++ pg.s.up.drop (lineAt pg.s.jo) ↔ _
  rw [List.mem_append, List.mem_append]
  constructor
  · rintro ((h | h) | h)
    · exact .inl (List.mem_of_mem_take h)
    · exact .inr h
    · exact .inl (List.mem_of_mem_drop h)
  · rintro (h | h)
    · rw [← List.take_append_drop (lineAt pg.s.jo) pg.s.up] at h
      rcases List.mem_append.mp h with h | h
      · exact .inl (.inl h)
      · exact .inr h
    · exact .inl (.inr h)
theorem alone_rows {me : Pc} : ∀ r ∈ (sType w none (sNew w none) (thingsO t me.1 me.2)).rows, ∀ c ∈ r, OnlyC me c := fun r hr => by
  have h := alone_all (t := t) (w := w) (me := me)
  rcases List.mem_append.mp hr with hr | hr
  · exact h.1 r hr
  · rw [List.mem_singleton.mp hr]; exact h.2
theorem OutR.care (o : TbOk t) (h : OutR t w ns pg s) (hf : (n, ns.count n) ∈ few) (hp : isPlainW (wrAt t n (ns.count n)) = true) {c : Nat × List Cell} (hc : c = sitC t few (n, ns.count n) s) {cs : List Nat} {b : Str} : OutR t w (ns ++ [n]) (pgStep t few w pg n (ns.count n)) ⟨cs, b, c.1, c.2⟩ := by
  have es : (pgStep t few w pg n (ns.count n)).s = sAbove w none pg.s (thingsO t n (ns.count n)) := by
    show scrStep t few w pg.s n (ns.count n) = _
    unfold scrStep
    rw [if_pos hf]
  have hk : (wrAt t n (ns.count n)).k = "say" := by
    unfold isPlainW at hp
    exact of_decide_eq_true (Bool.and_eq_true_iff.mp hp).1
  have ea : (pgStep t few w pg n (ns.count n)).ap = pg.ap := by
    show (if apartB t pg n (ns.count n) = true then _ else pg.ap) = _
    rw [if_neg]
    unfold apartB
    rw [hk, show decide (("say" : Str) = "reply") = false by decide, Bool.false_and]
    exact Bool.false_ne_true
  have okn : SOk w (pgStep t few w pg n (ns.count n)).s := h.ok.step
  have ec : c = (s.co, s.cl) := by rw [hc]; unfold sitC; rw [if_pos (.inr hf)]
  have hst : staysB t (n, ns.count n) = true := by unfold staysB; rw [hk]; rfl
  have ecur : (sAbove w none pg.s (thingsO t n (ns.count n))).cur = pg.s.cur := rfl
  have eco : (sAbove w none pg.s (thingsO t n (ns.count n))).co = pg.s.co := rfl
  have ec' : ∀ p, curN p (sAbove w none pg.s (thingsO t n (ns.count n))) = curN p pg.s := fun p => rfl
  have eu : ∀ p, p ≠ (n, ns.count n) → upN p (sAbove w none pg.s (thingsO t n (ns.count n))) = upN p pg.s := fun p hp => by
    rw [above_up]
    have h1 : (sType w none (sNew w none) (thingsO t n (ns.count n))).rows.flatten.countP (isP p) = 0 := only_cnt hp fun c hc => by
      obtain ⟨r, hr, hc⟩ := List.mem_flatten.mp hc
      exact alone_rows (t := t) (me := (n, ns.count n)) r hr c hc
    have h2 : (sType w none (sNew w none) (thingsO t n (ns.count n))).rows.flatten.countP (isP p) = upN p (sType w none (sNew w none) (thingsO t n (ns.count n))) + curN p (sType w none (sNew w none) (thingsO t n (ns.count n))) := up_flat
    omega
  have em : upN (n, ns.count n) (sAbove w none pg.s (thingsO t n (ns.count n))) = upN (n, ns.count n) pg.s + lenP t (n, ns.count n) := by
    rw [above_up, alone_cnt (t := t) (me := (n, ns.count n)) h.ok.w1 h.ok.w99]
  have emx : ∀ r ∈ (sAbove w none pg.s (thingsO t n (ns.count n))).up, mixedR r = true → ∃ q ∈ pg.s.up, mixedR q = true := fun r hr e => by
    rcases above_mem.mp hr with z | z
    · exact ⟨r, z, e⟩
    · have := only_mixed (alone_rows (t := t) (me := (n, ns.count n)) r z)
      rw [this] at e; cases e
  refine ⟨okn, fun z => ?_, fun z => ?_, fun x hx => ?_⟩
  · rw [ec] at z ⊢
    obtain ⟨g1, g2, g3, g4⟩ := h.go z
    rw [es, ea]
    refine ⟨g1, g2, g3, ?_⟩
    have g0 := g4.tot (n, ns.count n)
    rw [put_me] at g0
    rw [put_snoc]
    refine ⟨fun p => ?_, fun p => ?_, fun p e => ?_, fun p e => ?_, fun k x hx => ?_, fun r hr => ?_⟩
    · show (if p = (n, ns.count n) then _ else _) ≤ _
      split
      · rename_i e; rw [e]; exact Nat.le_refl _
      · exact g4.le p
    · show _ ≤ (if p = (n, ns.count n) then _ else _)
      rw [ec']
      split
      · rename_i e; rw [e, em]; omega
      · rename_i e; rw [eu p e]; exact g4.tot p
    · show _ = (if p = (n, ns.count n) then _ else _)
      rw [ec']
      split
      · rename_i e; rw [e, em]; omega
      · rename_i e2; rw [eu p e2]; exact g4.st p e
    · show _ ∨ _ = (if p = (n, ns.count n) then _ else _)
      rw [ec']
      split
      · rename_i e2; rw [e2, hst] at e; cases e
      · rename_i e2; rw [eu p e2]; exact g4.sh p e
    · rw [eu _ (fun z => by
        have := h.fr x (mem_at hx)
        rw [z] at this
        exact me_not this)]
      exact g4.at_ k x hx
    · cases e : mixedR r with
      | false => rfl
      | true =>
        obtain ⟨q, hq, e2⟩ := emx r hr e
        rw [g4.mx q hq] at e2; cases e2
  · rw [ec] at z
    rw [es, ea]
    refine (h.no z).imp id fun d => ?_
    rcases d with ⟨r, hr, e⟩ | ⟨p, h1, h2, h3⟩ | ⟨p, h1, h2, h3, h4⟩
    · exact .inl ⟨r, above_mem.mpr (.inl hr), e⟩
    · exact .inr (.inl ⟨p, done_snoc.mpr (.inl h1), h2, by rw [ec', eu p (fun z => me_not (by rw [← z]; exact h1))]; exact h3⟩)
    · exact .inr (.inr ⟨p, done_snoc.mpr (.inl h1), h2, by rw [eu p (fun z => me_not (by rw [← z]; exact h1))]; exact h3, by rw [ec', eu p (fun z => me_not (by rw [← z]; exact h1))]; exact h4⟩)
  · rw [es] at hx
    exact done_snoc.mpr (.inl (h.fr x hx))
theorem OutR.start (h1 : 1 ≤ w) (h2 : w ≤ 99) : OutR t w [] (pg0 w) (sit0 t w) := by
  have hz : ∀ p : Pc, upN p (sNew w none) = 0 ∧ curN p (sNew w none) = 0 := fun p => ⟨rfl, rep_cnt⟩
  have hp : ∀ p : Pc, putO t [] p = 0 := fun p => if_neg (by show ¬ p.2 < 0; exact Nat.not_lt_zero _)
  refine ⟨SOk.new h1 h2, fun _ => ⟨rfl, rfl, rfl, ⟨fun p => by rw [hp]; exact Nat.zero_le _, fun p => by show upN p (sNew w none) + curN p (sNew w none) ≤ _; rw [(hz p).1, (hz p).2]; exact Nat.zero_le _, fun p _ => by show upN p (sNew w none) + curN p (sNew w none) = _; rw [(hz p).1, (hz p).2, hp], fun p _ => .inl (hz p).1, fun c x hx => absurd (List.mem_replicate.mp (mem_at hx)).2 (fun z => nomatch z), fun r hr => nomatch hr⟩⟩, fun z => ?_, fun x hx => absurd (List.mem_replicate.mp hx).2 (fun z => nomatch z)⟩
  have z : List.replicate w (none : Cell) = [] := z
  have := congrArg List.length z
  rw [List.length_replicate] at this
  simp at this
  omega
end
end LK
set_option Elab.async false
set_option linter.all false
set_option maxRecDepth 100000
set_option maxHeartbeats 1000000
namespace LK
open PySem PySem.Spec PyProof.Rows L2 DL
end LK
set_option Elab.async false
set_option linter.all false
set_option maxRecDepth 100000
set_option maxHeartbeats 1000000
namespace LK
open PySem PySem.Spec PyProof.Rows L2 DL
section
variable {P : Program} {w : World} {K : PySem.W.Frag} {mg : Str → Option Value} {base : Heap}
end
end LK
set_option Elab.async false
set_option linter.all false
set_option maxRecDepth 100000
set_option maxHeartbeats 1000000
namespace LK
open PySem PySem.Spec PyProof.Rows L2 DL
section
variable {α : Type} {K : PySem.W.Frag} {bl bj x dx q : Addr} {qs : List Addr} {g : α → D} {s : Scr α} {e : α} {c : Rc K} {I : Iv K} {w : Nat}
theorem p2_addA {i j : Int} : P2 K I rAdd (.int i) (.int j) (.int (i + j)) := fun P p G H v w Q s hI r1 r2 q => ⟨i, j, r1, r2, q (.int (i + j)) (.int (i + j)) G H I (Same.refl G) s hI rfl p⟩
end
section
variable {X : Cx} {W : WX} {e : Expr} {δ : DEnv} {I : Iv X.K} {pos : Pos} {κ : Ko X.K} {x' : Str} {n m : Int}
end
section
variable {P : Program} {w : World} {K : PySem.W.Frag} {mg : Str → Option Value} {base : Heap}
end
end LK
set_option Elab.async false
set_option linter.all false
set_option maxRecDepth 100000
set_option maxHeartbeats 1000000
namespace LK
open PySem PySem.Spec PyProof.Rows L2 DL
section
variable {P : Program} {w : World} {K : PySem.W.Frag} {mg : Str → Option Value} {base : Heap}
end
end LK
set_option Elab.async false
set_option linter.all false
set_option maxRecDepth 100000
set_option maxHeartbeats 1000000
namespace LK
open PySem PySem.Spec PyProof.Rows L2 DL
structure PgA where
  y : Addr
  dy : Addr
  gx : Addr
  dg : Addr
  ad : Addr
  ax : Addr
section
variable {K : PySem.W.Frag} {t : Tb} {w : Nat} {A : PgA} {bl bj q : Addr} {qs : List Addr} {done : List (Str × Nat)} {pg : Pg} {c : Rc K}
end
section
variable {P : Program} {w : World} {K : PySem.W.Frag} {mg : Str → Option Value} {base : Heap}
end
end LK
set_option Elab.async false
set_option linter.all false
set_option maxRecDepth 100000
set_option maxHeartbeats 1000000
namespace LK
open PySem PySem.Spec PyProof.Rows L2 DL
section
variable {P : Program} {w : World} {K : PySem.W.Frag} {mg : Str → Option Value} {base : Heap}
end
end LK
set_option Elab.async false
set_option linter.all false
set_option maxRecDepth 100000
set_option maxHeartbeats 1000000
namespace DL
open PySem PySem.Spec PyProof.Rows L2
section
variable {X : Cx} {I : Iv X.K} {o e : Expr} {δ : DEnv} {pos apos : Pos} {z w : Str}
end
end DL
namespace LK
open PySem PySem.Spec PyProof.Rows L2 DL
section
variable {P : Program} {w : World} {K : PySem.W.Frag} {mg : Str → Option Value} {base : Heap}
end
end LK
set_option Elab.async false
set_option linter.all false
set_option maxRecDepth 100000
set_option maxHeartbeats 1000000
namespace LK
open PySem PySem.Spec PyProof.Rows L2 DL
section
variable {K : PySem.W.Frag} {t : Tb} {w : Nat} {A : PgA} {done : List (Str × Nat)} {pg : Pg} {k : Rc K}
end
section
variable {P : Program} {w : World} {K : PySem.W.Frag} {mg : Str → Option Value} {base : Heap}
end
end LK
set_option Elab.async false
set_option linter.all false
set_option maxRecDepth 100000
set_option maxHeartbeats 1000000
namespace LK
open PySem PySem.Spec PyProof.Rows L2 DL
structure RwOk (t : Tb) (w : Nat) (r : Rw) : Prop where
  cl : r.cells.length = w
  w1 : 1 ≤ w
  w99 : w ≤ 99
  co : r.co ≤ w
  ci : ∀ c ∈ r.cells, CellIn t c
section
variable {K : PySem.W.Frag} {t : Tb} {me : Pc} {b x dx : Addr} {r : Rw} {c : Rc K} {w : Nat}
theorem cell_none : CellIn t none := fun x h => nomatch h
theorem set_ci {l : List Cell} {i : Nat} {z : Cell} (h : ∀ c ∈ l, CellIn t c) (hz : CellIn t z) : ∀ c ∈ l.set i z, CellIn t c := fun c hc => (List.mem_or_eq_of_mem_set hc).elim (h c) fun e => e ▸ hz
theorem rep_ci {n : Nat} : ∀ c ∈ List.replicate n (none : Cell), CellIn t c := fun c hc => by
  rw [(List.mem_replicate.mp hc).2]
  exact cell_none
theorem RwOk.take (h : RwOk t w r) {i : Nat} : RwOk t w (rTake t i r) := ⟨by show (r.cells.set i none).length = w; rw [List.length_set]; exact h.cl, h.w1, h.w99, h.co, set_ci h.ci cell_none⟩
theorem RwOk.leave {wr : Bool} (h : RwOk t w r) : RwOk t w (rLeave t me wr r) := ⟨by show (List.replicate r.cells.length none).length = w; rw [List.length_replicate]; exact h.cl, h.w1, h.w99, Nat.zero_le _, rep_ci⟩
theorem RwOk.zero (h : RwOk t w r) : RwOk t w { r with co := 0 } := ⟨h.cl, h.w1, h.w99, Nat.zero_le _, h.ci⟩
theorem RwOk.foldT (h : RwOk t w r) : ∀ l : List Nat, RwOk t w (l.foldl (fun r c => rTake t c r) r) := fun l => snoc_ind (Q := fun l => RwOk t w (l.foldl (fun r c => rTake t c r) r)) h (fun l a ih => by rw [List.foldl_append]; exact ih.take) l
theorem RwOk.erase (h : RwOk t w r) : RwOk t w (rErase t r) := h.foldT _
theorem RwOk.word {wd : Str} (h : RwOk t w r) : RwOk t w (rWord t me wd r) := by
  have h1 : RwOk t w (rWord1 wd r) := by
    unfold rWord1
    split
    · exact h.zero
    · exact h
  have h2 : RwOk t w (rWord2 t wd (rWord1 wd r)) := by
    unfold rWord2
    split
    · exact h1.erase
    · exact h1
  unfold rWord rWord3
  split
  · exact h2.leave
  · exact h2
theorem RwOk.reply (h : RwOk t w r) : RwOk t w (rReply t me r) := by
  unfold rReply
  split
  · exact ⟨h.cl, h.w1, h.w99, h.co, h.ci⟩
  · exact h
theorem RwOk.wrap (h : RwOk t w r) : RwOk t w (rWrap t me r) ∧ (rWrap t me r).co < w := by
  unfold rWrap
  have h1 := h.w1
  have h2 := h.co
  have h3 := h.cl
  split
  · exact ⟨h.leave, by show 0 < w; omega⟩
  · exact ⟨h, by omega⟩
theorem RwOk.put1 {z : Cell} (h : RwOk t w r) (hc : r.co < w) (hz : CellIn t z) : RwOk t w (rPut1 t z r) := ⟨by show ((r.cells.set r.co none).set r.co z).length = w; rw [List.length_set, List.length_set]; exact h.cl, h.w1, h.w99, hc, set_ci (set_ci h.ci cell_none) hz⟩
theorem RwOk.put {j : Nat} (h : RwOk t w r) (hz : CellIn t (some (me.1, me.2, j))) : RwOk t w (rPut t me r j) := h.wrap.1.put1 h.wrap.2 hz
end
section
variable {P : Program} {w : World} {K : PySem.W.Frag} {mg : Str → Option Value} {base : Heap}
end
end LK
set_option Elab.async false
set_option linter.all false
set_option maxRecDepth 100000
set_option maxHeartbeats 1000000
namespace LK
open PySem PySem.Spec PyProof.Rows L2 DL
section
variable {P : Program} {w : World} {K : PySem.W.Frag} {mg : Str → Option Value} {base : Heap}
end
end LK
set_option Elab.async false
set_option linter.all false
set_option maxRecDepth 100000
set_option maxHeartbeats 1000000
namespace LK
open PySem PySem.Spec PyProof.Rows L2 DL
section
variable {P : Program} {w : World} {K : PySem.W.Frag} {mg : Str → Option Value} {base : Heap}
end
end LK
set_option Elab.async false
set_option linter.all false
set_option maxRecDepth 100000
set_option maxHeartbeats 1000000
namespace LK
open PySem PySem.Spec PyProof.Rows L2 DL
section
variable {P : Program} {w : World} {K : PySem.W.Frag} {mg : Str → Option Value} {base : Heap}
end
end LK
set_option Elab.async false
set_option linter.all false
set_option maxRecDepth 100000
set_option maxHeartbeats 1000000
namespace LK
open PySem PySem.Spec PyProof.Rows L2 DL
section
variable {P : Program} {w : World} {K : PySem.W.Frag} {mg : Str → Option Value} {base : Heap}
end
end LK
set_option Elab.async false
set_option linter.all false
set_option maxRecDepth 100000
set_option maxHeartbeats 1000000
namespace DL
open PySem PySem.Spec PyProof.Rows L2
end DL
namespace LK
open PySem PySem.Spec PyProof.Rows L2 DL
abbrev cT (K : PySem.W.Frag) : Addr := He.ga K "Stage"
structure SitOk (t : Tb) (w : Nat) (s : Sit) : Prop where
  v : VS t s.cs s.b
  cl : s.cl = [] ∨ s.cl.length = w
  co : s.co ≤ w
  ci : ∀ c ∈ s.cl, CellIn t c
structure StA where
  x : Addr
  dx : Addr
  xc : Addr
  dxc : Addr
  q : Addr
section
variable {P : Program} {wd : World} {K : PySem.W.Frag} {t : Tb} {w : Nat} {hs few : List Pc} {A : StA} {kds : List (NestedKey × D)} {c : Rc K}
end
section
variable {t : Tb} {w : Nat} {hs few : List Pc} {s : Sit}
theorem RwOk.perf {me : Pc} {r : Rw} (o : TbOk t) (h : RwOk t w r) (hme : me.2 < Fits.lenT' t me.1) : RwOk t w (rPerf t me r) := by
  obtain ⟨ws, hws, hwk, gw, hmt⟩ := wr_at o hme
  have h1 : RwOk t w (rReply t me (rWord t me (wrAt t me.1 me.2).l r)) := h.word.reply
  have okj : ∀ k, k ≤ lenP t me → RwOk t w ((List.range k).foldl (rPut t me) (rReply t me (rWord t me (wrAt t me.1 me.2).l r))) := by
    intro k
    induction k with
    | zero => exact fun _ => h1
    | succ k ih =>
      intro hk
      rw [List.range_succ, List.foldl_append]
      exact (ih (by omega)).put fun z hz => by
        cases hz
        exact ⟨List.mem_map.mpr ⟨_, hmt, rfl⟩, hme, hk⟩
  exact (okj _ (Nat.le_refl _)).word
theorem next_in (o : TbOk t) {n : Str} (hn : n ∈ readyS t s.cs s.b) : nextN t s.cs n < Fits.lenT' t n ∧ n ∈ nmT t := by
  obtain ⟨i, p, hp, e1, e2, e3⟩ := ready_at o hn
  refine ⟨?_, ready_nm hn⟩
  unfold nextN Fits.lenT'
  rw [← e1] at e2 ⊢
  rw [e2, rowOf_some o.nd (List.mem_of_getElem? hp)]
  exact e3
theorem sitC_ok (o : TbOk t) (h : SitOk t w s) (w1 : 1 ≤ w) (w99 : w ≤ 99) {me : Pc} (hme : me.2 < Fits.lenT' t me.1) : ((sitC t few me s).2 = [] ∨ (sitC t few me s).2.length = w) ∧ (sitC t few me s).1 ≤ w ∧ ∀ c ∈ (sitC t few me s).2, CellIn t c := by
  unfold sitC
  by_cases h1 : s.cl = [] ∨ me ∈ few
  · rw [if_pos h1]
    exact ⟨h.cl, h.co, h.ci⟩
  · rw [if_neg h1]
    have hl : s.cl.length = w := h.cl.resolve_left fun e => h1 (.inl e)
    have ok : RwOk t w (rwN t s me) := RwOk.perf o ⟨hl, w1, w99, h.co, h.ci⟩ hme
    by_cases h2 : (rwN t s me).sp = true
    · rw [if_pos h2]
      exact ⟨.inl rfl, Nat.zero_le _, fun c hc => nomatch hc⟩
    · rw [if_neg h2]
      exact ⟨.inr ok.cl, ok.co, ok.ci⟩
theorem SitOk.next (o : TbOk t) (h : SitOk t w s) (w1 : 1 ≤ w) (w99 : w ≤ 99) {n : Str} (hn : n ∈ readyS t s.cs s.b) : SitOk t w (sitN t hs few s n) := by
  obtain ⟨hk, _⟩ := next_in o hn
  obtain ⟨h1, h2, h3⟩ := sitC_ok (few := few) o h w1 w99 (me := (n, nextN t s.cs n)) hk
  exact ⟨(h.v.after o hn).1, h1, h2, h3⟩
theorem SitOk.start : SitOk t w (sit0 t w) := ⟨VS.start t, .inr List.length_replicate, Nat.zero_le _, rep_ci⟩
end
section
variable {X : Cx} {I : Iv X.K} {o a b : Expr} {δ : DEnv} {apos pos : Pos} {x : Addr} {t : Tb} {hs : List Pc} {cs : List Nat} {n : Str}
end
section
variable {P : Program} {w : World} {K : PySem.W.Frag} {mg : Str → Option Value} {base : Heap}
end
end LK
set_option Elab.async false
set_option linter.all false
set_option maxRecDepth 100000
set_option maxHeartbeats 1000000
namespace LK
open PySem PySem.Spec PyProof.Rows L2 DL
section
variable {P : Program} {w : World} {K : PySem.W.Frag} {mg : Str → Option Value} {base : Heap}
end
end LK
set_option Elab.async false
set_option linter.all false
set_option maxRecDepth 100000
set_option maxHeartbeats 1000000
namespace LK
open PySem PySem.Spec PyProof.Rows L2 DL
section
variable {t : Tb} {hs few : List Pc} {w : Nat} {s : Sit} {ns : List Str}
def badL (t : Tb) (hs few : List Pc) (s : Sit) : List (List Str) := (allF t hs (s.cs, s.b)).filter fun r => !endGood t (r.foldl (sitN t hs few) s)
def badN (t : Tb) (hs few : List Pc) (s : Sit) : Nat := (badL t hs few s).length
theorem sitO_cs (ns : List Str) : (sitO t hs few w ns).cs = (stO t hs ns).1 := congrArg Prod.fst (sitO_st ns)
theorem pref_sum (o : TbOk t) {k : Nat} (h : ns ∈ prefO t hs k) : (sitO t hs few w ns).cs.sum = k ∧ ns.length = k := by
  obtain ⟨_, h1, h2⟩ := prefO_ok o k ns h
  exact ⟨by rw [sitO_cs]; exact h1, h2⟩
def cellK : Cell → NestedKey
  | none => .tup []
  | some x => .tup [.text x.1, .num x.2.1, .num x.2.2]
def keySL (s : Sit) : List NestedKey := [.tup (s.cs.map fun n : Nat => .num n), .text s.b, .num s.co, .tup (s.cl.map cellK)]
def keyS (s : Sit) : NestedKey := .tup (keySL s)
theorem num_inj {cs ds : List Nat} (h : cs.map (fun n : Nat => NestedKey.num n) = ds.map fun n : Nat => NestedKey.num n) : cs = ds := by
  induction cs generalizing ds with
  | nil => cases ds with
    | nil => rfl
    | cons d ds => cases h
  | cons c cs ih => cases ds with
    | nil => cases h
    | cons d ds =>
      rw [List.map_cons, List.map_cons] at h
      obtain ⟨h1, h2⟩ := List.cons.inj h
      have h3 : (c : Int) = d := NestedKey.num.inj h1
      rw [ih h2, show c = d by omega]
theorem cell_inj {l m : List Cell} (h : l.map cellK = m.map cellK) : l = m := by
  induction l generalizing m with
  | nil => cases m with
    | nil => rfl
    | cons d ds => cases h
  | cons c cs ih => cases m with
    | nil => cases h
    | cons d ds =>
      rw [List.map_cons, List.map_cons] at h
      obtain ⟨h1, h2⟩ := List.cons.inj h
      rw [ih h2]
      congr 1
      cases c with
      | none => cases d with
        | none => rfl
        | some y => simp [cellK] at h1
      | some x => cases d with
        | none => simp [cellK] at h1
        | some y =>
          simp only [cellK, NestedKey.tup.injEq, List.cons.injEq, NestedKey.text.injEq, NestedKey.num.injEq, and_true] at h1
          obtain ⟨a, b, c⟩ := h1
          exact congrArg some (Prod.ext a (Prod.ext (by omega) (by omega)))
theorem keyS_inj {s s' : Sit} (h : keyS s = keyS s') : s = s' := by
  unfold keyS keySL at h
  simp only [NestedKey.tup.injEq, List.cons.injEq, NestedKey.text.injEq, NestedKey.num.injEq, and_true] at h
  obtain ⟨h1, h2, h3, h4⟩ := h
  obtain ⟨a, b, c, d⟩ := s
  obtain ⟨a', b', c', d'⟩ := s'
  have h3 : (c : Int) = c' := h3
  rw [show a = a' from num_inj h1, show b = b' from h2, show c = c' by omega, show d = d' from cell_inj h4]
def tellD (t : Tb) (hs few : List Pc) (s : Sit) : D := .tup [.int (cnt t hs s.cs s.b : Nat), .int (badN t hs few s : Nat)]
def begs (t : Tb) (hs : List Pc) : List (List Str) := (List.range (total t + 1)).flatMap (prefO t hs)
structure MemS (t : Tb) (hs few : List Pc) (w : Nat) (kds : List (NestedKey × D)) : Prop where
  nd : (kds.map (·.1)).Nodup
  all : ∀ p ∈ kds, ∃ ns, ns ∈ begs t hs ∧ p.1 = keyS (sitO t hs few w ns) ∧ p.2 = tellD t hs few (sitO t hs few w ns)
theorem MemS.nil : MemS t hs few w [] := ⟨List.nodup_nil, fun p hp => nomatch hp⟩
theorem MemS.len {kds : List (NestedKey × D)} (h : MemS t hs few w kds) : kds.length ≤ (begs t hs).length := by
  have h1 := nodup_len h.nd (m := (begs t hs).map fun ns => keyS (sitO t hs few w ns)) fun x hx => by
    obtain ⟨p, hp, rfl⟩ := List.mem_map.mp hx
    obtain ⟨ns, hn, e, _⟩ := h.all p hp
    exact List.mem_map.mpr ⟨ns, hn, e.symm⟩
  rwa [List.length_map, List.length_map] at h1
def SitB (t : Tb) (hs few : List Pc) (w : Nat) : Prop := ∃ L : List NestedKey, (∀ ns ∈ begs t hs, keyS (sitO t hs few w ns) ∈ L) ∧ L.length < 1000000
theorem SitB.of (h : (begs t hs).length < 100000) : SitB t hs few w := ⟨(begs t hs).map fun ns => keyS (sitO t hs few w ns), fun ns hn => List.mem_map.mpr ⟨ns, hn, rfl⟩, by rw [List.length_map]; omega⟩
theorem MemS.val {kds : List (NestedKey × D)} (h : MemS t hs few w kds) {s : Sit} {d : D} (hd : getN kds (keyS s) = some d) : d = tellD t hs few s := by
  obtain ⟨ns, _, e, e2⟩ := h.all _ (LK.getN_mem hd)
  have e3 : s = sitO t hs few w ns := keyS_inj e
  rw [e3]
  exact e2
theorem MemS.add {kds : List (NestedKey × D)} (h : MemS t hs few w kds) (hn : ns ∈ begs t hs) (hg : getN kds (keyS (sitO t hs few w ns)) = none) : MemS t hs few w (kds ++ [(keyS (sitO t hs few w ns), tellD t hs few (sitO t hs few w ns))]) := by
  refine ⟨?_, fun p hp => ?_⟩
  · rw [List.map_append, List.nodup_append]
    refine ⟨h.nd, by simp, fun x hx y hy e => ?_⟩
    obtain ⟨p, hp, rfl⟩ := List.mem_map.mp hx
    rw [List.mem_singleton.mp hy] at e
    exact getN_not hg p hp e
  · rcases List.mem_append.mp hp with hp | hp
    · exact h.all p hp
    · rw [List.mem_singleton.mp hp]
      exact ⟨ns, hn, rfl, rfl⟩
def GrowS (t : Tb) (hs few : List Pc) (w : Nat) (kds kds' : List (NestedKey × D)) (m : Nat) : Prop := ∀ p ∈ kds', p ∈ kds ∨ ∃ ns, ns ∈ prefO t hs ns.length ∧ p.1 = keyS (sitO t hs few w ns) ∧ m ≤ ns.length
theorem GrowS.refl {kds : List (NestedKey × D)} {m : Nat} : GrowS t hs few w kds kds m := fun _ h => .inl h
theorem GrowS.trans {a b c : List (NestedKey × D)} {m n : Nat} (h1 : GrowS t hs few w a b m) (h2 : GrowS t hs few w b c n) (hn : m ≤ n) : GrowS t hs few w a c m := fun p hp => by
  rcases h2 p hp with h | ⟨ns, e1, e2, e3⟩
  · exact h1 p h
  · exact .inr ⟨ns, e1, e2, by omega⟩
theorem GrowS.weak {a b : List (NestedKey × D)} {m n : Nat} (h : GrowS t hs few w a b n) (hn : m ≤ n) : GrowS t hs few w a b m := fun p hp => (h p hp).imp id fun ⟨ns, e1, e2, e3⟩ => ⟨ns, e1, e2, by omega⟩
theorem GrowS.new (o : TbOk t) {kds kds' : List (NestedKey × D)} (g : GrowS t hs few w kds kds' (ns.length + 1)) (hp : ns ∈ prefO t hs ns.length) (hn : getN kds (keyS (sitO t hs few w ns)) = none) : getN kds' (keyS (sitO t hs few w ns)) = none := getN_none fun p hq e => by
  rcases g p hq with h | ⟨ms, e1, e2, e3⟩
  · exact getN_not hn p h e
  · have h1 := keyS_inj (e2.symm.trans e)
    have h2 := (pref_sum (few := few) (w := w) o e1).1
    have h3 := (pref_sum (few := few) (w := w) o hp).1
    rw [h1] at h2
    omega
theorem GrowS.add {kds kds' : List (NestedKey × D)} {d : D} (g : GrowS t hs few w kds kds' (ns.length + 1)) (hp : ns ∈ prefO t hs ns.length) : GrowS t hs few w kds (kds' ++ [(keyS (sitO t hs few w ns), d)]) ns.length := fun p hq => by
  rcases List.mem_append.mp hq with hq | hq
  · exact (g.weak (Nat.le_succ _)) p hq
  · rw [List.mem_singleton.mp hq]
    exact .inr ⟨ns, hp, rfl, Nat.le_refl _⟩
end
end LK
set_option Elab.async false
set_option linter.all false
set_option maxRecDepth 100000
set_option maxHeartbeats 4000000
namespace DL
open PySem PySem.Spec PyProof.Rows L2
section
variable {X : Cx} {o i : Expr} {δ : DEnv} {I : Iv X.K} {pos : Pos} {q : Addr} {kds : List (NestedKey × D)} {ks : List NestedKey}
end
end DL
set_option Elab.async false
set_option linter.all false
set_option maxRecDepth 100000
set_option maxHeartbeats 2000000
namespace DL
open PySem PySem.Spec PyProof.Rows L2 NdefX LamX
section
variable {X : Cx} {W : WX} {st : Stmt} {δ : DEnv} {I : Iv X.K} {q : Addr} {κ : Ko X.K}
theorem FoI.andL {K : PySem.W.Frag} {I J : Iv K} {f : Addr} {F : NF} (h : FoI I f F) : FoI (I.and J) f F := ⟨fun G H s hd => let ⟨a, b, c⟩ := h.h G H s hd.left; ⟨a, b, .inl c⟩⟩
end
end DL
set_option Elab.async false
set_option linter.all false
set_option maxRecDepth 100000
set_option maxHeartbeats 2000000
namespace LK
open PySem PySem.Spec PyProof.Rows L2 DL NdefX LamX
structure AskOk (t : Tb) (n : Nat) (l l2 : List Pc) (dh dc : D) : Prop where
  h : dh = .lst (l.map pairD) ∨ dh = .tup (l.map pairD)
  c : dc = .lst (l2.map pairD) ∨ dc = .tup (l2.map pairD)
  o : TbOk t
  n1 : 1 ≤ n
  n99 : n ≤ 99
  g : ∀ g ∈ l, g ∈ gapsT t
  gl : l.length ≤ 1000
  k : ∀ g ∈ l2, g ∈ linesT t
  kl : l2.length ≤ 1000
section
variable {P : Program} {w : World} {K : PySem.W.Frag} {mg : Str → Option Value} {base : Heap}
end
end LK
set_option Elab.async false
set_option linter.all false
set_option maxRecDepth 100000
set_option maxHeartbeats 2000000
namespace LK
open PySem PySem.Spec PyProof.Rows L2 DL
section
variable {t : Tb} {hs : List Pc}
end
structure PlA where
  p : Addr
  dp : Addr
  x : Addr
  dx : Addr
  xc : Addr
  dxc : Addr
  q : Addr
section
variable {K : PySem.W.Frag} {t : Tb} {w : Nat} {hs few : List Pc} {A : PlA} {ns : List Str} {c : Rc K}
end
structure PlOk (t : Tb) (w : Nat) (hs few : List Pc) (ns : List Str) : Prop where
  o : TbOk t
  n1 : 1 ≤ w
  n99 : w ≤ 99
  hk : ∀ g ∈ hs, PyData.strOk g.1 = true
  fl : ∀ g ∈ few, g ∈ linesT t
  fz : few.length ≤ 1000
  pre : ns ∈ prefO t hs ns.length
theorem PlOk.len {t : Tb} {w : Nat} {hs few : List Pc} {ns : List Str} (h : PlOk t w hs few ns) : ns.length ≤ total t := by
  have := prefO_ok h.o _ _ h.pre
  rw [← this.2.1]
  exact this.1.sum
section
variable {P : Program} {w : World} {K : PySem.W.Frag} {mg : Str → Option Value} {base : Heap}
end
end LK
set_option Elab.async false
set_option linter.all false
set_option maxRecDepth 100000
set_option maxHeartbeats 1000000
namespace LK
open PySem PySem.Spec PyProof.Rows L2 DL
abbrev cRd (K : PySem.W.Frag) : Addr := He.ga K "Reader"
abbrev rdF (n : Nat) (ts : List D) (k : Nat) : List (Str × D) := [("line", .int n), ("row", .lst ts), ("at", .int k)]
abbrev iRd (K : PySem.W.Frag) (x dx : Addr) (n : Nat) (ts : List D) (k : Nat) : Iv K := iIns K x (cRd K) dx (rdF n ts k)
def sRefuse {K : PySem.W.Frag} : Spec K := fun I ds _ R => ∃ (x dx : Addr) (n : Nat) (ts : List D) (k : Nat) (c : Rc K) (s t : Str) (col : Nat), ds = [.adr x] ∧ I = c.fill (iRd K x dx n ts k) ∧ ts[k]? = some (tkD s t col) ∧ R (He.ga K "InvalidText") [("column", .int col), ("line", .int n)] I
def sIsNext {K : PySem.W.Frag} : Spec K := fun I ds P _ => ∃ (x dx : Addr) (n : Nat) (ts : List D) (k : Nat) (c : Rc K) (s s' t : Str) (ws : List Str) (col : Nat), ds = [.adr x, .str s, .tup (ws.map D.str)] ∧ I = c.fill (iRd K x dx n ts k) ∧ ts[k]? = some (tkD s' t col) ∧ P (.bl (decide (s' = s) && decide (t ∈ ws))) I
def sTakeMark {K : PySem.W.Frag} : Spec K := fun I ds P R => ∃ (x dx : Addr) (n : Nat) (ts : List D) (k : Nat) (c : Rc K) (s t m : Str) (col : Nat), ds = [.adr x, .str m] ∧ I = c.fill (iRd K x dx n ts k) ∧ ts[k]? = some (tkD s t col) ∧
  if s = "mark" ∧ t = m then P .non (c.fill (iRd K x dx n ts (k + 1))) else R (He.ga K "InvalidText") [("column", .int col), ("line", .int n)] I
section
variable {P : Program} {w : World} {K : PySem.W.Frag} {mg : Str → Option Value} {base : Heap}
theorem rd_none {n : Nat} {ts : List D} {k : Nat} {m : Str} (h : m ∈ (["refuse", "take", "is_next", "take_mark", "take_name", "write", "work", ""] : List Str)) : (rdF n ts k).lookup m = none := by
  simp only [List.mem_cons, List.not_mem_nil, or_false] at h
  rcases h with rfl | rfl | rfl | rfl | rfl | rfl | rfl | rfl <;> rfl
theorem M_refuse (E : Env P w K mg base) : FnR P w K mg base (L2.CX P w) 3 (He.ma K (cRd K) "refuse") (spD K sRefuse) := mk_m_Reader_refuse E fun fd F => by
  refine fn_d F sc_m_Reader_refuse (fun I ds P R h => by obtain ⟨x, dx, n, ts, k, c, s, t, col, rfl, _⟩ := h; rfl) fun cdv Ac outer s0 H EE hr tk po I ds Q R h => ?_
  obtain ⟨x, dx, n, ts, k, c, s, t, col, rfl, rfl, ht, q⟩ := h
  have hr2 : Room 2 _ := hr
  refine s_one (s_rz (hr := hr2) tk E.x_InvalidText E.ini_InvalidText (ea_cons ((pv_fld (d := .int n) c E.l_Reader E.a_Reader_line (pv_v (d := .adr x) 0) rfl).ev (ea_cons ((pv_ix ix_tup (pv_ix ix_list (pv_fld (d := .lst ts) c E.l_Reader E.a_Reader_row (pv_v (d := .adr x) 0) rfl) (pv_fld (d := .int k) c E.l_Reader E.a_Reader_at (pv_v (d := .adr x) 0) rfl) (p2_ixL (atI_n ht))) pv_int (p2_ixT (i := 2) rfl)).ev (ea_nil ⟨rfl, by simp, q⟩))))))
theorem M_isNext (E : Env P w K mg base) : FnR P w K mg base (L2.CX P w) 1 (He.ma K (cRd K) "is_next") (spD K sIsNext) := mk_m_Reader_is_next E fun fd F => by
  refine fn_d F sc_m_Reader_is_next (fun I ds P R h => by obtain ⟨x, dx, n, ts, k, c, s, s', t, ws, col, rfl, _⟩ := h; rfl) fun cdv Ac outer s0 H EE hr tk po I ds Q R h => ?_
  obtain ⟨x, dx, n, ts, k, c, s, s', t, ws, col, rfl, rfl, ht, q⟩ := h
  have hu := hr.units
  exact s_one (s_retP (pv_andB (pv_eq hu (pv_ix ix_tup (pv_ix ix_list (pv_fld (d := .lst ts) c E.l_Reader E.a_Reader_row (pv_w (d := .adr x) 0 rfl) rfl) (pv_fld (d := .int k) c E.l_Reader E.a_Reader_at (pv_w (d := .adr x) 0 rfl) rfl) (p2_ixL (atI_n ht))) pv_int (p2_ixT (i := 0) rfl)) (pv_w (d := .str s) 1 rfl) trivial) fun _ => pv_one (pv_cmp op_in_seq (pv_ix ix_tup (pv_ix ix_list (pv_fld (d := .lst ts) c E.l_Reader E.a_Reader_row (pv_w (d := .adr x) 0 rfl) rfl) (pv_fld (d := .int k) c E.l_Reader E.a_Reader_at (pv_w (d := .adr x) 0 rfl) rfl) (p2_ixL (atI_n ht))) pv_int (p2_ixT (i := 1) rfl)) (pv_w (d := .tup (ws.map D.str)) 2 rfl) p2_inStr)) q)
theorem M_takeMark (E : Env P w K mg base) : FnR P w K mg base (L2.CX P w) 4 (He.ma K (cRd K) "take_mark") (spD K sTakeMark) := mk_m_Reader_take_mark E fun fd F => by
  refine fn_d F sc_m_Reader_take_mark (fun I ds P R h => by obtain ⟨x, dx, n, ts, k, c, s, t, m, col, rfl, _⟩ := h; rfl) fun cdv Ac outer s0 H EE hr tk po I ds Q R h => ?_
  obtain ⟨x, dx, n, ts, k, c, s, t, m, col, rfl, rfl, ht, q⟩ := h
  have hu := hr.units
  have hr1 : Room 1 _ := hr.mono (by decide)
  have hr3 : Room 3 _ := hr
  have hn : ∀ {X : Cx} {I : Iv X.K} {e : Expr} {δ : DEnv}, True := trivial
  refine s_cons (s_ifP (b := !(decide (s = "mark") && decide (t ∈ ([m] : List Str)))) (ptn (pt_v (fun W R P pp => EvX.weak (ev_methA takesF ⟨fun f => E.l_Reader.get f⟩ E.h_Reader_is_next.f E.h_Reader_is_next.i E.h_Reader_is_next.k (M_isNext E) hr1 ((pv_w (d := .adr x) 0 rfl).ev ⟨insD_ins c (rd_none (by simp)), (PVA.ev (va_cons (pv_gstr E.c_MARK) (va_cons (pv_tup (va_cons (pv_w (d := .str m) 1 rfl) va_nil)) va_nil)) ⟨x, dx, n, ts, k, c, "mark", s, t, [m], col, rfl, rfl, ht, pp⟩)⟩))))) (fun hb => ?_) fun hb => s_nil ?_)
  · have hb2 : ¬ (s = "mark" ∧ t = m) := fun h => by simp [h.1, h.2] at hb
    rw [if_neg hb2] at q
    exact s_one (s_expr (ev_meth0 tk ⟨fun f => E.l_Reader.get f⟩ E.h_Reader_refuse.f E.h_Reader_refuse.i E.h_Reader_refuse.k (M_refuse E) hr3 ((pv_w (d := .adr x) 0 rfl).ev ⟨insD_ins c (rd_none (by simp)), x, dx, n, ts, k, c, s, t, col, rfl, rfl, ht, q⟩)))
  · have hb2 : s = "mark" ∧ t = m := by simpa using hb
    rw [if_pos hb2] at q
    refine s_one (s_fldaug c E.l_Reader E.a_Reader_at in_add (pv_w (d := .adr x) 0 rfl) rfl pv_int p2_addA ?_)
    exact q
end
end LK
set_option Elab.async false
set_option linter.all false
set_option maxRecDepth 100000
set_option maxHeartbeats 4000000
namespace DL
open PySem PySem.Spec PyProof.Rows L2
structure DefC (P : Program) (w : World) (K : PySem.W.Frag) (mg : Str → Option Value) (base : Heap) (x : Str) (k : Nat) (ps : List Str) (n : Nat) (ks : List Str) (dds : List D) (S : Spec K) : Prop where
  ex : ∃ (f : Addr) (fd : FuncData) (g : List Value → List Value → List Value) (gV : List V → List V → List V) (dv : List V), mg x = some (.ref f) ∧ PySem.W.keepIn K (.ref f) = true ∧ FnOk P w K mg base (L2.CX P w) k f fd ps (spD K S) ∧ KBn K fd ps n ks g gV ∧ (∀ vs zs, zs.length = ks.length → gV vs zs = vs ++ dv ++ zs) ∧ ∀ G, Reps K G dds dv
section
variable {P : Program} {w : World} {K : PySem.W.Frag} {mg : Str → Option Value} {base : Heap} {x qual : Str} {params : Arguments} {body : List Stmt} {scope : Scope} {f : Addr} {fd : FuncData} {ps ks : List Str} {k n : Nat} {S : Spec K} {kws : List (Str × V)}
theorem DefC.of {dds : List D} {kd : List (Str × V)} (g : mg x = some (.ref f)) (F : FunD K x qual params body scope [] kws f fd) (ok : FnOk P w K mg base (L2.CX P w) k f fd ps (spD K S)) (hk : kws ≠ []) (hq : ∀ q ∈ kd, q ∈ kws) (hd : ∀ G, Reps K G dds (kd.map (·.2)))
    (h : ∀ (D : Addr) (doc pm : Value) (an : Option Addr) (cdv ct : Value) (us mv ws : List Value), us.length = n → mv.length = kd.length → ws.length = ks.length → KwChain D ((kd.map (·.1)).zip mv) (bindArgs (PySem.W.fnOf x qual params body scope .none (.ref D) doc pm an cdv ct) ⟨us, ks.zip ws⟩) (ps.zip (us ++ mv ++ ws))) : DefC P w K mg base x k ps n ks dds S := by
  obtain ⟨_, b⟩ := FunD.kbinds0 (ps := ps) F n ks kd (fun us ms ws => us ++ ms ++ ws) hk hq (fun r1 r2 r3 => (r1.append r2).append r3) fun D doc pm an cdv ct us mv ws h1 h2 h3 => h D doc pm an cdv ct us mv ws h1 h2 h3
  exact ⟨f, fd, _, fun vs zs => vs ++ kd.map (·.2) ++ zs, kd.map (·.2), g, F.kp, ok, b, fun vs zs _ => rfl, hd⟩
end
section
variable {X : Cx} {W : WX} {R : Rx X.K} {e : Expr} {es : List Expr} {δ : DEnv} {I : Iv X.K} {P : D → Iv X.K → Prop} {pos p : Pos} {x : Str} {ps ks : List Str} {k n : Nat} {S : Spec X.K} {d : D} {kws : List Keyword} {ds : List D}
end
end DL
set_option Elab.async false
set_option linter.all false
set_option maxRecDepth 100000
set_option maxHeartbeats 4000000
namespace GL
open PySem PySem.Spec PyProof.Rows L2 DL
structure Gm (P : Program) (w : World) where
  M : Model
  R : Shared → Shared → Prop
  of : ∀ {α : Type} {A : Around} {m : Sem α} {Q : α → Shared → Prop} {E : Value → Shared → Prop} {s r : Shared}, wpAny (model P w) A m Q E s → R r s →
    wpAny M A m (fun a r' => ∃ s', R r' s' ∧ Q a s') (fun e r' => ∃ s', R r' s' ∧ E e s') r
  ofC : ∀ {A : Around} {c : Code} {Z : Result → Shared → Prop} {s r : Shared}, codeAny (model P w) A c Z s → R r s → codeAny M A c (fun a r' => ∃ s', R r' s' ∧ Z a s') r
  /-- own code: a def, its body, loops -/
  func : ∀ {A : Around} {Z : Result → Shared → Prop} {r : Shared} {b : List Stmt} {v : Env},
    wpAny M (A.deeper v) (execs b v) (fun f r' => Z (.ok (.ret (match f with | .ret u => u | _ => .none))) r') (fun e r' => wpAny M (A.deeper v) (leaving v e) (fun _ r2 => Z (.error e) r2) (fun e2 r2 => Z (.error e2) r2) r') r →
    codeAny M A (.func b v) Z r
  call : ∀ {A : Around} {Z : Result → Shared → Prop} {r : Shared} {a : Addr} {g : Args} {o : Obj} {fd : FuncData} {b : List Stmt}, A.depth < recursionLimit → r.heap.get? a = some o → o.data = .func fd → fd.scope.isCoroutine = false → fd.scope.isGenerator = false →
    fd.body = .stmts b → r.heap.CodeRec fd.code fd.qualname →
    wpAny M A.in1 (bindArgs fd g) (fun bs r1 => wpAny M A.in1 (newFunctionEnv fd.scope fd.globals fd.closure bs (fd.qualname ++ ".<locals>.") (some a) fd.code none fd.builtins)
      (fun v r2 => r2.heap.NoLimit ∧ codeAny M A (.func b v) Z r2) (fun e r' => Z (.error e) r') r1) (fun e r' => Z (.error e) r') r →
    codeAny M A (.call (.ref a) g) Z r
  whl : ∀ {A : Around} {Z : Result → Shared → Prop} {c : Expr} {b o : List Stmt} {v : Env} (I : Nat → Shared → Prop), (∀ n r, I n r →
      wpAny M A (isTrue c v (eval c v)) (fun k r2 => if k then wpAny M A (execs b v) (fun f r3 => match f with
            | .next | .cont => ∃ m, m < n ∧ I m r3
            | .brk => Z (.ok .next) r3
            | .ret u => Z (.ok (.ret u)) r3) (notedBy M A v fun e r' => Z (.error e) r') r2
        else wpAny M A (execs o v) (fun f r3 => Z (.ok f) r3) (notedBy M A v fun e r' => Z (.error e) r') r2)
        (notedBy M A v fun e r' => Z (.error e) r') r) → ∀ (n : Nat) {r : Shared}, I n r → codeAny M A (.whileLoop c b o v) Z r
  frl : ∀ {A : Around} {Z : Result → Shared → Prop} {t : Expr} {it : Value} {b o : List Stmt} {v : Env} (I : Nat → Shared → Prop), (∀ n r, I n r → wpAny M A (pyNext it) (fun x r1 => match x with
      | none => wpAny M A (execs o v) (fun f r3 => Z (.ok f) r3) (notedBy M A v fun e r' => Z (.error e) r') r1
      | some u => wpAny M A (letOwnedTupleGo t it u) (fun _ r2 => wpAny M A (assign t v u) (fun _ r4 => wpAny M A (execs b v) (fun f r3 => match f with
            | .next | .cont => ∃ m, m < n ∧ I m r3
            | .brk => Z (.ok .next) r3
            | .ret u => Z (.ok (.ret u)) r3) (notedBy M A v fun e r' => Z (.error e) r') r4) (notedBy M A v fun e r' => Z (.error e) r') r2) (notedBy M A v fun e r' => Z (.error e) r') r1)
      (notedBy M A v fun e r' => Z (.error e) r') r) → ∀ (n : Nat) {r : Shared}, I n r → codeAny M A (.forLoop t it b o v) Z r
  heap : ∀ {r s : Shared}, R r s → r.heap = s.heap
section
variable {P : Program} {w : World} {α β : Type} {A : Around} {m : Sem α} {Q Q' : α → Shared → Prop} {E E' : Value → Shared → Prop} {s r : Shared}
def Up (G : Gm P w) (Q : α → Shared → Prop) : α → Shared → Prop := fun a r => ∃ s, G.R r s ∧ Q a s
def J (G : Gm P w) (A : Around) (m : Sem α) (Q : α → Shared → Prop) (E : Value → Shared → Prop) (s : Shared) : Prop := ∀ r, G.R r s → wpAny G.M A m (Up G Q) (Up G E) r
def JC (G : Gm P w) (A : Around) (c : Code) (Z : Result → Shared → Prop) (s : Shared) : Prop := ∀ r, G.R r s → codeAny G.M A c (Up G Z) r
variable {G : Gm P w}
theorem J.of (h : wpAny (model P w) A m Q E s) : J G A m Q E s := fun r hr => G.of h hr
theorem JC.of {c : Code} {Z : Result → Shared → Prop} (h : codeAny (model P w) A c Z s) : JC G A c Z s := fun r hr => G.ofC h hr
theorem J.mono (h : J G A m Q E s) (q : ∀ a s, Q a s → Q' a s) (x : ∀ e s, E e s → E' e s) : J G A m Q' E' s := fun r hr => wpAny_mono (h r hr) (fun a r' ⟨s', h1, h2⟩ => ⟨s', h1, q a s' h2⟩) (fun e r' ⟨s', h1, h2⟩ => ⟨s', h1, x e s' h2⟩)
theorem J.thn (h : J G A m Q E s) (hr : G.R r s) {Z : α → Shared → Prop} (k : ∀ a r' s', G.R r' s' → Q a s' → Z a r') : wpAny G.M A m Z (Up G E) r := wpAny_mono (h r hr) (fun a r' ⟨s', h1, h2⟩ => k a r' s' h1 h2) (fun _ _ z => z)
theorem J.pure {a : α} (h : Q a s) : J G A (pure a) Q E s := J.of (wpAny_pure h)
theorem JC.mono {c : Code} {Z Z' : Result → Shared → Prop} (h : JC G A c Z s) (q : ∀ x s, Z x s → Z' x s) : JC G A c Z' s := fun r hr => codeAny_mono (h r hr) fun x r' ⟨s', h1, h2⟩ => ⟨s', h1, q x s' h2⟩
theorem J.call {f : Value} {pos : List Value} {kw : List (Str × Value)} {Q : Value → Shared → Prop} (h : JC G A (.call f ⟨pos, kw⟩) (fun x s' => match x with | .ok (.ret v) => Q v s' | .ok _ => False | .error e => E e s') s) : J G A (call f pos kw) Q E s := fun r hr =>
  wpAny_call (codeAny_mono (h r hr) fun x r' ⟨s', h1, h2⟩ => by
    cases x with
    | error e => exact ⟨s', h1, h2⟩
    | ok fl =>
      cases fl with
      | ret u => exact ⟨s', h1, h2⟩
      | next => exact h2.elim
      | brk => exact h2.elim
      | cont => exact h2.elim)
theorem of2 {β : Type} {k : α → Sem β} {Q : β → Shared → Prop} (h : wpAny (model P w) A m (fun a s' => wpAny (model P w) A (k a) Q E s') E s) (hr : G.R r s) : wpAny G.M A m (fun a r' => wpAny G.M A (k a) (Up G Q) (Up G E) r') (Up G E) r :=
  wpAny_mono (G.of h hr) (fun a r' ⟨s', h1, q⟩ => G.of q h1) fun _ _ z => z
theorem passesG {v : Env} (h : PassesOwn (model P w) A v E) : PassesOwn G.M A v (Up G E) := fun e r' ⟨s', h1, h2⟩ =>
  wpAny_mono (G.of (h e s' h2) h1) (fun _ r2 ⟨s2, h3, h4⟩ => G.of h4 h3) fun x r2 ⟨s2, h3, h4⟩ => G.of h4 h3
end
def gT (P : Program) (w : World) (T : Nat) : Gm P w where
  M := model P w
  R := fun r s => r = s ∧ T ≤ s.toks
  of := fun h ⟨e, t⟩ => by
    subst e
    exact wpAny_mono (PySem.wpAny_toks_of t h) (fun _ r' q => ⟨r', ⟨rfl, q.1⟩, q.2⟩) fun _ r' q => ⟨r', ⟨rfl, q.1⟩, q.2⟩
  ofC := fun h ⟨e, t⟩ => by
    subst e
    exact codeAny_mono (PySem.codeAny_toks_of t h) fun _ r' q => ⟨r', ⟨rfl, q.1⟩, q.2⟩
  func := codeAny_func
  call := codeAny_call_function
  whl := fun I t n _ h => codeAny_whileLoop I t n h
  frl := fun I t n _ h => codeAny_forLoop_any I t n h
  heap := fun h => by rw [h.1]
end GL
set_option Elab.async false
set_option linter.all false
set_option maxRecDepth 100000
set_option maxHeartbeats 4000000
namespace GL
open PySem PySem.Spec PyProof.Rows L2 DL
section
variable {X : Cx}
structure wgE (g : Gm X.prog X.w) (e : Expr) (σ : L2.St) (H : Hp) (Q : VK) : Prop where
  run : ∀ (pins : List (Addr × Obj)) (s : Shared), Inv X pins σ H s → J g X.A (eval e X.env) (EP X pins σ Q) X.xe s
structure wgT (g : Gm X.prog X.w) (e : Expr) (σ : L2.St) (H : Hp) (Q : Bool → Hp → Prop) : Prop where
  run : ∀ (pins : List (Addr × Obj)) (s : Shared), Inv X pins σ H s → J g X.A (isTrue e X.env (eval e X.env)) (TP X pins σ Q) X.xe s
structure wgW (g : Gm X.prog X.w) (e : Expr) (σ : L2.St) (H : Hp) (Q : Bool → Hp → Prop) : Prop where
  run : ∀ (whole : Sem Value) (pins : List (Addr × Obj)) (s : Shared), Inv X pins σ H s → J g X.A (isTrue e X.env whole) (TP X pins σ Q) X.xe s
structure wgA (g : Gm X.prog X.w) (es : List Expr) (σ : L2.St) (H : Hp) (Q : List V → Hp → Prop) : Prop where
  run : ∀ (pos : Pos) (pins : List (Addr × Obj)) (s : Shared), Inv X pins σ H s → J g X.A (spliced (backTo pos (starEach es X.env))) (AP X pins σ Q) X.xe s
structure wgS (g : Gm X.prog X.w) (st : Stmt) (D : Ends) (σ : L2.St) (H : Hp) : Prop where
  run : ∀ (pins : List (Addr × Obj)) (s : Shared), Inv X pins σ H s → J g X.A (exec st X.env) (SP X pins D) X.xe s
structure wgB (g : Gm X.prog X.w) (sts : List Stmt) (D : Ends) (σ : L2.St) (H : Hp) : Prop where
  run : ∀ (pins : List (Addr × Obj)) (s : Shared), Inv X pins σ H s → J g X.A (execs sts X.env) (SP X pins D) X.xe s
end
def GE (X : Cx) (g : Gm X.prog X.w) (W : WX) (R : Rx X.K) (e : Expr) (δ : DEnv) (I : Iv X.K) (P : D → Iv X.K → Prop) : Prop := ∀ (σ : L2.St) (G H : Hp) (Q : VK), EnvR X.K G δ σ → Same G H → Hd I G H → Kx X.K W σ G R → Kv X.K Q G P → wgE g e σ H Q
def GT (X : Cx) (g : Gm X.prog X.w) (W : WX) (R : Rx X.K) (e : Expr) (δ : DEnv) (I : Iv X.K) (P : Bool → Iv X.K → Prop) : Prop := ∀ (σ : L2.St) (G H : Hp) (Q : Bool → Hp → Prop), EnvR X.K G δ σ → Same G H → Hd I G H → Kx X.K W σ G R → Kb X.K Q G P → wgT g e σ H Q
def GW (X : Cx) (g : Gm X.prog X.w) (W : WX) (R : Rx X.K) (e : Expr) (δ : DEnv) (I : Iv X.K) (P : Bool → Iv X.K → Prop) : Prop := ∀ (σ : L2.St) (G H : Hp) (Q : Bool → Hp → Prop), EnvR X.K G δ σ → Same G H → Hd I G H → Kx X.K W σ G R → Kb X.K Q G P → wgW g e σ H Q
def GA (X : Cx) (g : Gm X.prog X.w) (W : WX) (R : Rx X.K) (es : List Expr) (δ : DEnv) (I : Iv X.K) (P : List D → Iv X.K → Prop) : Prop := ∀ (σ : L2.St) (G H : Hp) (Q : List V → Hp → Prop), EnvR X.K G δ σ → Same G H → Hd I G H → Kx X.K W σ G R → Ka X.K Q G P → wgA g es σ H Q
def GB (X : Cx) (g : Gm X.prog X.w) (W : WX) (sts : List Stmt) (δ : DEnv) (I : Iv X.K) (κ : Ko X.K) : Prop := ∀ (σ : L2.St) (G H : Hp) (E : Ends), EnvR X.K G δ σ → Same G H → Hd I G H → KoLe X.K W E G κ → wgB g sts E σ H
def G1 (X : Cx) (g : Gm X.prog X.w) (W : WX) (st : Stmt) (δ : DEnv) (I : Iv X.K) (κ : Ko X.K) : Prop := ∀ (σ : L2.St) (G H : Hp) (E : Ends), EnvR X.K G δ σ → Same G H → Hd I G H → KoLe X.K W E G κ → wgS g st E σ H
section
variable {X : Cx} {g : Gm X.prog X.w} {W : WX} {R : Rx X.K} {a b c e : Expr} {es : List Expr} {st : Stmt} {sts rest : List Stmt} {δ : DEnv} {I : Iv X.K} {κ : Ko X.K} {P : D → Iv X.K → Prop} {PB : Bool → Iv X.K → Prop} {pos p : Pos} {x' : Str} {d : D}
theorem GE.of (h : EvX X W R e δ I P) : GE X g W R e δ I P := fun σ G H Q hE s hI qx q => ⟨fun pins st Jv => J.of ((h σ G H Q hE s hI qx q).run pins st Jv)⟩
theorem GT.of (h : EvT X W R e δ I PB) : GT X g W R e δ I PB := fun σ G H Q hE s hI qx q => ⟨fun pins st Jv => J.of ((h σ G H Q hE s hI qx q).run pins st Jv)⟩
theorem GW.of (h : EvW X W R e δ I PB) : GW X g W R e δ I PB := fun σ G H Q hE s hI qx q => ⟨fun wh pins st Jv => J.of ((h σ G H Q hE s hI qx q).run wh pins st Jv)⟩
theorem GA.of {PA : List D → Iv X.K → Prop} (h : EvA X W R es δ I PA) : GA X g W R es δ I PA := fun σ G H Q hE s hI qx q => ⟨fun ps pins st Jv => J.of ((h σ G H Q hE s hI qx q).run ps pins st Jv)⟩
theorem G1.of (h : S1 X W st δ I κ) : G1 X g W st δ I κ := fun σ G H E hE s hI k => ⟨fun pins s0 Jv => J.of ((h σ G H E hE s hI k).run pins s0 Jv)⟩
theorem GB.of (h : SX X W sts δ I κ) : GB X g W sts δ I κ := fun σ G H E hE s hI k => ⟨fun pins s0 Jv => J.of ((h σ G H E hE s hI k).run pins s0 Jv)⟩
theorem GE.imp {P' : D → Iv X.K → Prop} (h : GE X g W R e δ I P) (k : ∀ d I', P d I' → P' d I') : GE X g W R e δ I P' := fun σ G H Q hE s hI qx q => h σ G H Q hE s hI qx fun v d G' H' I' s1 s2 h1 r p => q v d G' H' I' s1 s2 h1 r (k d I' p)
theorem GE.weak (h : GE X g (fun _ _ _ _ => False) (fun _ _ _ => False) e δ I P) : GE X g W R e δ I P := fun σ G H Q hE s hI qx q => h σ G H Q hE s hI (fun _ _ _ _ _ _ _ _ _ _ _ _ z => z.elim) q
theorem ge_op {op : Operator} {r : R2} (ho : OpR X (binaryOp op) r) (h : GE X g W R a δ I fun x I1 => GE X g W R b δ I1 fun y I2 => Op2 X.K r x y I2 P) : GE X g W R (.BinOp a op b pos) δ I P := fun σ G H Q hE s hI qx q =>
  have A1 := h σ G H (fun v H1 => wgE g b σ H1 fun u H2 => r v u H2 Q) hE s hI qx fun v x G1 H1 I1 s1 t1 h1 r1 k1 => k1 σ G1 H1 _ (hE.mono s1) t1 h1 (qx.mono s1) fun u y G2 H2 I2 s2 t2 h2 r2 k2 => k2 G2 H2 v u Q t2 h2 (r1.mono s2) r2 (q.mono (s1.trans s2))
  ⟨fun pins s0 J0 r0 hr => wpAny_BinOp ((A1.run pins s0 J0).thn hr fun v r1 s1 hr1 ⟨x, H1, J1, rx, q1⟩ => (q1.run pins s1 J1).thn hr1 fun u r2 s2 hr2 ⟨y, H2, J2, ry, q2⟩ => J.of (ho pins s2 σ H2 x y v u Q J2 rx ry q2) r2 hr2)⟩
theorem gt_not (h : GT X g W R a δ I fun k I1 => PB (!k) I1) : GT X g W R (.UnaryOp .Not a pos) δ I PB := fun σ G H Q hE s hI qx q =>
  have A1 := h σ G H (fun k H1 => Q (!k) H1) hE s hI qx fun k G1 H1 I1 s1 t1 h1 p => q (!k) G1 H1 I1 s1 t1 h1 p
  ⟨fun pins s0 J0 r0 hr => wpAny_isTrue_Not ((A1.run pins s0 J0).thn hr fun k r1 s1 hr1 ⟨H1, J1, q1⟩ => ⟨s1, hr1, H1, J1, q1⟩)⟩
theorem gw_or (h : GT X g W R a δ I fun k I1 => if k = true then PB true I1 else GW X g W R (.BoolOp .Or (b :: es) pos) δ I1 PB) : GW X g W R (.BoolOp .Or (a :: b :: es) pos) δ I PB := fun σ G H Q hE s hI qx q =>
  have A1 := h σ G H (fun k H1 => if k = true then Q true H1 else wgW g (.BoolOp .Or (b :: es) pos) σ H1 Q) hE s hI qx fun k G1 H1 I1 s1 t1 h1 p => by
    cases k with
    | false => exact (show GW X g W R (.BoolOp .Or (b :: es) pos) δ I1 PB from p) σ G1 H1 Q (hE.mono s1) t1 h1 (qx.mono s1) (q.mono s1)
    | true => exact q true G1 H1 I1 s1 t1 h1 p
  ⟨fun wh pins s0 J0 r0 hr => isTrue_or ((A1.run pins s0 J0).thn hr fun k r1 s1 hr1 ⟨H1, J1, q1⟩ => by
    cases k with
    | true => exact ⟨s1, hr1, H1, J1, q1⟩
    | false => exact (show wgW g (.BoolOp .Or (b :: es) pos) σ H1 Q from q1).run wh pins s1 J1 r1 hr1)⟩
theorem gw_or1 (h : GT X g W R a δ I PB) : GW X g W R (.BoolOp .Or [a] pos) δ I PB := fun σ G H Q hE s hI qx q =>
  ⟨fun wh pins s0 J0 r0 hr => isTrue_or (((h σ G H Q hE s hI qx q).run pins s0 J0).thn hr fun k r1 s1 hr1 ⟨H1, J1, q1⟩ => by
    cases k with
    | true => exact ⟨s1, hr1, H1, J1, q1⟩
    | false => exact isTrue_or_nil ⟨s1, hr1, H1, J1, q1⟩)⟩
theorem gt_w (h : GW X g W R e δ I PB) : GT X g W R e δ I PB := fun σ G H Q hE s hI qx q => ⟨fun pins s1 Jv => (h σ G H Q hE s hI qx q).run _ pins s1 Jv⟩
theorem ga_cons {PA : List D → Iv X.K → Prop} (h : GE X g W R e δ I fun d I1 => GA X g W R es δ I1 fun ds I2 => PA (d :: ds) I2) (hs : starEach (e :: es) X.env = (false, eval e X.env) :: starEach es X.env := by rfl) : GA X g W R (e :: es) δ I PA := fun σ G H Q hE s hI qx q =>
  have A1 := h σ G H (fun v H1 => wgA g es σ H1 fun vs H2 => Q (v :: vs) H2) hE s hI qx fun v d G1 H1 I1 s1 t1 h1 r1 k => k σ G1 H1 _ (hE.mono s1) t1 h1 (qx.mono s1) fun vs ds G2 H2 I2 s2 t2 h2 r2 k2 => q (v :: vs) (d :: ds) G2 H2 I2 (s1.trans s2) t2 h2 ⟨v, vs, rfl, r1.mono s2, r2⟩ k2
  ⟨fun ps pins s0 J0 r0 hr => by
    rw [hs]
    show wpAny _ _ (spliced ((false, eval e X.env) :: backTo ps (starEach es X.env))) _ _ r0
    exact Calls.spliced_cons ((A1.run pins s0 J0).thn hr fun v r1 s1 hr1 ⟨x, H1, J1, rx, q1⟩ => (q1.run ps pins s1 J1).thn hr1 fun us r2 s2 hr2 ⟨xs, H2, J2, rs, q2⟩ => ⟨s2, hr2, x :: xs, H2, J2, .cons rx rs, q2⟩)⟩
theorem g_nil (h : κ.nx δ I) : GB X g W [] δ I κ := GB.of (s_nil h)
theorem g_cons (h : G1 X g W st δ I { κ with nx := fun δ' I' => GB X g W rest δ' I' κ }) : GB X g W (st :: rest) δ I κ := fun σ G H E hE s hI k =>
  have A1 := h σ G H { E with nx := fun σ' H' => wgB g rest E σ' H' } hE s hI ⟨fun δ' σ' G' H' I' s1 t1 h1 r p => p σ' G' H' E r t1 h1 (k.mono s1), k.rt, k.bk, k.ct, k.ex⟩
  ⟨fun pins s0 J0 r0 hr => wpAny_execs_cons ((A1.run pins s0 J0).thn hr fun f r1 s1 hr1 q1 => by
    cases f with
    | next => exact match q1 with | ⟨σ1, H1, J1, w1⟩ => w1.run pins s1 J1 r1 hr1
    | ret v => exact ⟨s1, hr1, q1⟩
    | brk => exact ⟨s1, hr1, q1⟩
    | cont => exact ⟨s1, hr1, q1⟩)⟩
theorem g_one (h : G1 X g W st δ I κ) : GB X g W [st] δ I κ := g_cons fun σ G H E hE s hI k => h σ G H E hE s hI
  ⟨fun δ' σ' G' H' I' s1 t1 h1 r p => k.nx δ' σ' G' H' I' s1 t1 h1 r (GB.of (s_nil p)), k.rt, k.bk, k.ct, k.ex⟩
theorem g_con (h : S1 X W st δ I { κ with nx := fun δ' I' => GB X g W rest δ' I' κ }) : GB X g W (st :: rest) δ I κ := g_cons (G1.of h)
theorem g_set (i : Nat) (h : GE X g W (κ.r δ) e δ I fun d I1 => κ.nx (δ.set i (some d)) I1) {pos' : Pos} (hN : X.N.Nodup := by assumption) (hi : X.N[i]? = some x' := by rfl) (hx : Loc X.env.scope x' := by first | exact Or.inl rfl | exact Or.inr rfl) (hs : swapsWith e (some (.Name x' pos')) pos.line X.env = pure false := by rfl)
    (hf : X.fn x' = true ∨ X.env.scope.names.lookup x' = some .local := by first | exact .inl rfl | exact .inr rfl) : G1 X g W (.Assign [.Name x' pos'] e pos) δ I κ := fun σ G H E hE s hI k =>
  have A1 := h σ G H (fun v H1 => E.nx (σ.set i (some v)) H1) hE s hI (k.kx hE) fun v d G1 H1 I1 s1 t1 h1 r1 p => k.nx _ _ G1 H1 I1 s1 t1 h1 ((hE.mono s1).set r1) p
  ⟨fun pins s0 J0 r0 hr => wpAny_Assign_Name ((A1.run pins s0 J0).thn hr fun v r1 s1 hr1 ⟨y, H1, J1, ry, q1⟩ => J.of (store_ok J1 hN hi hx ry (fun s2 J2 => (⟨_, H1, J2, q1⟩ : SP X pins E .next s2)) hf) r1 hr1) hs⟩
theorem g_ret (h : GE X g W (κ.r δ) e δ I κ.rt) : G1 X g W (.Return (some e) pos) δ I κ := fun σ G H E hE s hI k =>
  ⟨fun pins s0 J0 r0 hr => wpAny_Return_some (((h σ G H _ hE s hI (k.kx hE) k.rt).run pins s0 J0).thn hr fun v r1 s1 hr1 ⟨x, H1, J1, rx, q1⟩ => ⟨s1, hr1, x, σ, H1, J1, rx, q1⟩)⟩
theorem g_if (h : GT X g W (κ.r δ) c δ I fun b I1 => if b = true then GB X g W sts δ I1 κ else GB X g W rest δ I1 κ) : G1 X g W (.If c sts rest pos) δ I κ := fun σ G H E hE s hI k =>
  have A1 := h σ G H (fun b H1 => if b = true then wgB g sts E σ H1 else wgB g rest E σ H1) hE s hI (k.kx hE) fun b G1 H1 I1 s1 t1 h1 p => by
    cases b with
    | true => exact (show GB X g W sts δ I1 κ from p) σ G1 H1 E (hE.mono s1) t1 h1 (k.mono s1)
    | false => exact (show GB X g W rest δ I1 κ from p) σ G1 H1 E (hE.mono s1) t1 h1 (k.mono s1)
  ⟨fun pins s0 J0 r0 hr => wpAny_If ((A1.run pins s0 J0).thn hr fun b r1 s1 hr1 ⟨H1, J1, q1⟩ => by
    cases b with
    | true => exact (show wgB g sts E σ H1 from q1).run pins s1 J1 r1 hr1
    | false => exact (show wgB g rest E σ H1 from q1).run pins s1 J1 r1 hr1)⟩
theorem g_ifP {k : Bool} (h : PVT X I c δ k) (h1 : k = true → GB X g W sts δ I κ) (h2 : k = false → GB X g W rest δ I κ) : G1 X g W (.If c sts rest pos) δ I κ := g_if (GT.of (h W _ _ (by
  cases k with
  | true => exact h1 rfl
  | false => exact h2 rfl)))
theorem g_asg {t : Expr} (h : GE X g W (κ.r δ) e δ I fun d I1 => ∃ δ1 ws, BindD X t d δ δ1 ws ∧ κ.nx δ1 I1) (hs : swapsWithSole [t] e pos.line X.env = pure false := by rfl) (hw : swappedStores [t] e X.env = pure none := by rfl)
    (h1 : (assignEach [t] X.env).map (·.2) = [assign t X.env] := by rfl) : G1 X g W (.Assign [t] e pos) δ I κ := fun σ G H E hE s hI k =>
  have A1 := h σ G H (fun v H1 => wpG X t v σ H1 E.nx) hE s hI (k.kx hE) fun v d1 G1 H1 I1 s1 t1 h1 r1 ⟨δ1, ws, b, q⟩ => b v σ G1 H1 _ (hE.mono s1) t1 r1 fun σ' e' _ => k.nx _ _ G1 H1 _ s1 t1 h1 e' q
  ⟨fun pins s0 J0 r0 hr => wpAny_Assign_stores ((A1.run pins s0 J0).thn hr fun v r1 s1 hr1 ⟨x, H1, J1, rx, q1⟩ => by
    rw [h1]
    exact J.of (m := assignAll v [assign t X.env]) (Q := fun _ s' => SP X pins E .next s') (thn (q1.run pins s1 v J1 rx) fun _ s2 q => q) r1 hr1) hs hw⟩
end
end GL
set_option Elab.async false
set_option linter.all false
set_option maxRecDepth 100000
set_option maxHeartbeats 4000000
namespace GL
open PySem PySem.Spec PyProof.Rows L2 DL
section
variable {X : Cx} {g : Gm X.prog X.w} {W : WX} {R : Rx X.K} {a b c e : Expr} {es : List Expr} {st : Stmt} {sts rest body : List Stmt} {δ : DEnv} {I : Iv X.K} {κ : Ko X.K} {pos p : Pos} {σ : L2.St} {H : Hp}
theorem wg_for {tg iter : Expr} (po : PassesOwn (model X.prog X.w) X.A X.env X.xe) (hc : X.calm = true) {B : Ends}
    (h : wpI X tg iter σ H fun Jt H1 => ∃ V : Nat → Nat → L2.St → Hp → Prop, (∃ m, V 0 m σ H1) ∧ ∀ i m σ H, V i m σ H → (Jt.stop i H ∧ B.nx σ H) ∨
      (Jt.go i H ∧ ∃ N : L2.St → Hp → Prop, (∀ σ' H', N σ' H' → ∃ m', m' < m ∧ V (i + 1) m' σ' H') ∧ ∀ x H', Jt.yld i H x H' → wpG X tg x σ H' fun σ2 H2 => wgB g body { B with nx := N, ct := N, bk := B.nx } σ2 H2))
    (hs : ∀ x, foldedSetIterable iter X.env x = pure x) : wgS g (.For tg iter body [] pos) B σ H := by
  have pG := passesG (G := g) po
  refine ⟨fun pins s J0 r hr => wpAny_For (thn (of2 (h.run pins s J0) hr) fun v r1 h1 => thn h1 fun itv r2 ⟨s2, hr2, h2⟩ => ?_) hs⟩
  obtain ⟨it, fp, tn, Jt, H2, eit, J2, T, st2, f2, V, ⟨m0, w0⟩, turn⟩ := h2
  subst eit
  have stay : ∀ {H' : Hp}, (∀ b ∈ fp, H' b = none) → ∀ b ∈ fp, FpOk X pins H' b := fun hn b hb => ⟨hn b hb, (f2 b hb).2⟩
  refine g.frl (fun n r' => ∃ s' i σ' H', g.R r' s' ∧ Inv X pins σ' H' s' ∧ tn i s'.heap ∧ (∀ b ∈ fp, H' b = none) ∧ V i n σ' H') ?_ m0 ⟨s2, 0, σ, H2, hr2, J2, st2, fun b hb => (f2 b hb).1, w0⟩
  rintro n r3 ⟨s3, i, σ3, H3, hr3, J3, st3, fr3, w3⟩
  rcases turn i n σ3 H3 w3 with ⟨stop, qn⟩ | ⟨go, N, hN, step⟩
  · refine wpAny_passesOwn pG (thn (g.of (T.done X rfl rfl rfl hc i pins s3 σ3 H3 X.xe J3 (stay fr3) st3 stop) hr3) fun x r4 ⟨s4, hr4, hx, J4⟩ => ?_)
    subst hx
    exact wpAny_execs_nil ⟨s4, hr4, σ3, H3, J4, qn⟩
  · refine wpAny_passesOwn pG (thn (g.of (T.item X rfl rfl rfl hc i pins s3 σ3 H3 X.xe J3 (stay fr3) st3 go) hr3) fun x r4 ⟨s4, hr4, u, hx, h4⟩ => ?_)
    subst hx
    refine wpAny_passesOwn pG (thn (g.of h4 hr4) fun _ r5 ⟨s5, hr5, x, H5, J5, rx5, y5, st5, fr5⟩ => ?_)
    have J5' := J5.pinned (stay fr5) (T.obj _ _ st5)
    refine wpAny_passesOwn pG (thn (g.of ((step x H5 y5).run _ s5 u J5' rx5) hr5) fun _ r6 ⟨s6, hr6, σ6, H6, J6, q6⟩ => ?_)
    refine wpAny_passesOwn pG ((q6.run _ s6 J6).thn hr6 fun f r7 s7 hr7 q7 => ?_)
    have back : ∀ {σ7 : L2.St} {H7 : Hp}, Inv X (pins ++ pinsAt fp s5.heap) σ7 H7 s7 → N σ7 H7 → ∃ m, m < n ∧ ∃ s' i σ' H', g.R r7 s' ∧ Inv X pins σ' H' s' ∧ tn i s'.heap ∧ (∀ b ∈ fp, H' b = none) ∧ V i m σ' H' := fun {σ7 H7} J7 n7 => by
      obtain ⟨m', hm, w7⟩ := hN σ7 H7 n7
      have pin7 : ∀ b o, b ∈ fp → s5.heap.get? b = some o → s7.heap.get? b = some o ∧ H7 b = none := fun b o hb e5 => by
        have z := J7.pin (b, o) (List.mem_append_right _ (List.mem_append_right _ (mem_pinsAt hb e5)))
        exact ⟨z.1, z.2.1⟩
      refine ⟨m', hm, s7, i + 1, σ7, H7, hr7, J7.unpinned, T.keep _ _ _ st5 fun b hb o e5 => (pin7 b o hb e5).1, fun b hb => ?_, w7⟩
      obtain ⟨o, e5, _⟩ := T.obj _ _ st5 b hb
      exact (pin7 b o hb e5).2
    cases f with
    | next => exact match q7 with | ⟨σ7, H7, J7, n7⟩ => back J7 n7
    | cont => exact match q7 with | ⟨σ7, H7, J7, n7⟩ => back J7 n7
    | brk => exact match q7 with | ⟨σ7, H7, J7, k7⟩ => ⟨s7, hr7, σ7, H7, J7.unpinned, k7⟩
    | ret v => exact match q7 with | ⟨x7, σ7, H7, J7, rx7, k7⟩ => ⟨s7, hr7, x7, σ7, H7, J7.unpinned, rx7, k7⟩
theorem wg_while (po : PassesOwn (model X.prog X.w) X.A X.env X.xe) {B : Ends} (V : Nat → L2.St → Hp → Prop) {m : Nat} (i0 : V m σ H)
    (h : ∀ n σ H, V n σ H → wgT g c σ H fun k H2 => if k = true then ∃ N : L2.St → Hp → Prop, (∀ σ' H', N σ' H' → ∃ m', m' < n ∧ V m' σ' H') ∧ wgB g body { B with nx := N, ct := N, bk := B.nx } σ H2 else B.nx σ H2) : wgS g (.While c body [] pos) B σ H := by
  have pG := passesG (G := g) po
  refine ⟨fun pins s J0 r hr => wpAny_While (g.whl (fun n r' => ∃ s' σ' H', g.R r' s' ∧ Inv X pins σ' H' s' ∧ V n σ' H') ?_ m ⟨s, σ, H, hr, J0, i0⟩)⟩
  rintro n r1 ⟨s1, σ1, H1, hr1, J1, w1⟩
  refine wpAny_passesOwn pG (((h n σ1 H1 w1).run pins s1 J1).thn hr1 fun k r2 s2 hr2 ⟨H2, J2, q2⟩ => ?_)
  cases k with
  | false => exact wpAny_execs_nil ⟨s2, hr2, σ1, H2, J2, q2⟩
  | true =>
    obtain ⟨N, hN, q2⟩ := q2
    refine wpAny_passesOwn pG ((q2.run pins s2 J2).thn hr2 fun f r3 s3 hr3 q3 => ?_)
    have back : ∀ {σ3 : L2.St} {H3 : Hp}, Inv X pins σ3 H3 s3 → N σ3 H3 → ∃ m, m < n ∧ ∃ s' σ' H', g.R r3 s' ∧ Inv X pins σ' H' s' ∧ V m σ' H' := fun {σ3 H3} J3 n3 => by
      obtain ⟨m', hm, w3⟩ := hN σ3 H3 n3
      exact ⟨m', hm, s3, σ3, H3, hr3, J3, w3⟩
    cases f with
    | next => exact match q3 with | ⟨σ3, H3, J3, n3⟩ => back J3 n3
    | cont => exact match q3 with | ⟨σ3, H3, J3, n3⟩ => back J3 n3
    | brk => exact ⟨s3, hr3, q3⟩
    | ret v => exact ⟨s3, hr3, q3⟩
theorem g_for {iter tg : Expr} (po : PassesOwn (model X.prog X.w) X.A X.env X.xe) (h : EvI X W (κ.r δ) tg iter δ I fun ds I1 => ∃ Nv : Nat → DEnv → Iv X.K → Prop, Nv 0 δ I1 ∧
      (∀ i d δ' I', ds[i]? = some d → Nv i δ' I' → ∃ δ'' vs, BindD X tg d δ' δ'' vs ∧ GB X g W body δ'' I' { κ with nx := Nv (i + 1), ct := Nv (i + 1), bk := κ.nx }) ∧ ∀ δ' I', Nv ds.length δ' I' → κ.nx δ' I')
    (hc : X.calm = true := by rfl) (hs : ∀ x, foldedSetIterable iter X.env x = pure x := by intro _; rfl) : G1 X g W (.For tg iter body [] pos) δ I κ := fun σ G H E hE s hI k =>
  wg_for po hc (h σ G H _ hE s hI (k.kx hE) fun Jt ds G1 H1 I1 s1 t1 h1 wk ⟨Nv, i0, step, fin⟩ => by
    refine ⟨fun i m σ' H' => m = ds.length - i ∧ i ≤ ds.length ∧ ∃ δ' G' I', Same G1 G' ∧ Same G' H' ∧ Hd I' G' H' ∧ EnvR X.K G' δ' σ' ∧ Nv i δ' I', ⟨_, rfl, Nat.zero_le _, δ, G1, I1, Same.refl G1, t1, h1, hE.mono s1, i0⟩, ?_⟩
    rintro i m σ' H' ⟨rfl, hi, δ', G', I', s2, t2, h2, e2, iv⟩
    rcases Nat.lt_or_ge i ds.length with hlt | hge
    · refine .inr ⟨wk.go i G' H' s2 t2 hlt, fun σ3 H3 => ∃ δ3 G3 I3, Same G1 G3 ∧ Same G3 H3 ∧ Hd I3 G3 H3 ∧ EnvR X.K G3 δ3 σ3 ∧ Nv (i + 1) δ3 I3, fun σ3 H3 ⟨δ3, G3, I3, q⟩ => ⟨ds.length - (i + 1), by omega, rfl, hlt, δ3, G3, I3, q⟩, fun x H3 hy => ?_⟩
      obtain ⟨G3, s3, t3, h3, _, d, hd, rd⟩ := wk.yld i G' H' I' x H3 s2 t2 h2 hlt hy
      obtain ⟨δ4, vs, bd, bs⟩ := step i d δ' I' hd iv
      refine bd x σ' G3 H3 _ (e2.mono s3) t3 rd fun σ4 e4 _ => ?_
      have s13 : Same G1 G3 := s2.trans s3
      have nx : ∀ δ5 σ5 G5 H5 I5, Same G3 G5 → Same G5 H5 → Hd I5 G5 H5 → EnvR X.K G5 δ5 σ5 → Nv (i + 1) δ5 I5 → ∃ δ3 G3 I3, Same G1 G3 ∧ Same G3 H5 ∧ Hd I3 G3 H5 ∧ EnvR X.K G3 δ3 σ5 ∧ Nv (i + 1) δ3 I3 := fun δ5 σ5 G5 H5 I5 s5 t5 h5 r5 p5 => ⟨δ5, G5, I5, s13.trans s5, t5, h5, r5, p5⟩
      exact bs σ4 G3 H3 _ e4 t3 h3 ⟨nx, k.rt.mono (s1.trans s13), k.nx.mono (s1.trans s13), nx, k.ex.mono (s1.trans s13)⟩
    · obtain rfl : i = ds.length := Nat.le_antisymm hi hge
      exact .inl ⟨wk.stop G' H' s2 t2, k.nx δ' σ' G' H' I' (s1.trans s2) t2 h2 e2 (fin δ' I' iv)⟩) hs
theorem g_while (po : PassesOwn (model X.prog X.w) X.A X.env X.xe) (Nv : Nat → DEnv → Iv X.K → Prop) (m : Nat) (i0 : Nv m δ I)
    (step : ∀ m δ' I', Nv m δ' I' → GT X g W (κ.r δ') c δ' I' fun b I1 => if b = true then GB X g W body δ' I1 { κ with nx := fun δ2 I2 => ∃ m', m' < m ∧ Nv m' δ2 I2, ct := fun δ2 I2 => ∃ m', m' < m ∧ Nv m' δ2 I2, bk := κ.nx } else κ.nx δ' I1) : G1 X g W (.While c body [] pos) δ I κ := fun σ G H E hE s hI k =>
  wg_while po (fun n σ' H' => ∃ δ' G' I', Same G G' ∧ Same G' H' ∧ Hd I' G' H' ∧ EnvR X.K G' δ' σ' ∧ Nv n δ' I') ⟨δ, G, I, Same.refl G, s, hI, hE, i0⟩ (by
    rintro n σ' H' ⟨δ', G', I', s2, t2, h2, e2, iv⟩
    refine step n δ' I' iv σ' G' H' _ e2 t2 h2 ((k.mono s2).kx e2) fun b G3 H3 I3 s3 t3 h3 q => ?_
    have s13 := s2.trans s3
    cases b with
    | true =>
      refine ⟨fun σ5 H5 => ∃ m', m' < n ∧ ∃ δ5 G5 I5, Same G G5 ∧ Same G5 H5 ∧ Hd I5 G5 H5 ∧ EnvR X.K G5 δ5 σ5 ∧ Nv m' δ5 I5, fun _ _ z => z, ?_⟩
      have nx : ∀ δ5 σ5 G5 H5 I5, Same G3 G5 → Same G5 H5 → Hd I5 G5 H5 → EnvR X.K G5 δ5 σ5 → (∃ m', m' < n ∧ Nv m' δ5 I5) → ∃ m', m' < n ∧ ∃ δ6 G6 I6, Same G G6 ∧ Same G6 H5 ∧ Hd I6 G6 H5 ∧ EnvR X.K G6 δ6 σ5 ∧ Nv m' δ6 I6 := fun δ5 σ5 G5 H5 I5 s5 t5 h5 r5 ⟨m', hm, p5⟩ => ⟨m', hm, δ5, G5, I5, s13.trans s5, t5, h5, r5, p5⟩
      exact (show GB X g W body δ' I3 _ from q) σ' G3 H3 _ (e2.mono s3) t3 h3 ⟨nx, k.rt.mono s13, k.nx.mono s13, nx, k.ex.mono s13⟩
    | false => exact k.nx δ' σ' G3 H3 I3 s13 t3 h3 (e2.mono s3) q)
end
end GL
set_option Elab.async false
set_option linter.all false
set_option maxRecDepth 100000
set_option maxHeartbeats 4000000
namespace GL
open PySem PySem.Spec PyProof.Rows L2 DL
structure FnG (P : Program) (w : World) (K : PySem.W.Frag) (mg : Str → Option Value) (base : Heap) (g : Gm P w) (k : Nat) (f : Addr) (fd : FuncData) (ps : List Str) (sp : Sp) : Prop where
  len : ∀ vs H Q E, sp vs H Q E → vs.length = ps.length
  run : ∀ (A : Around) (outer : List Env) (s : Shared) (H : Hp) (ar : Args) (us : List Value) (vs : List V) (Q : VK) (E : XK), Room k A → Env0 P w K mg base A outer s H → BindsTo s fd ar (ps.zip us) → Vals vs us → sp vs H Q E →
    JC g A (.call (.ref f) ar) (CR (L2.CX P w) outer P w H s Q E) s
section
variable {P : Program} {w : World} {K : PySem.W.Frag} {mg : Str → Option Value} {base : Heap} {g : Gm P w} {x qual : Str} {params : Arguments} {body : List Stmt} {scope : Scope} {dvs : List V} {kws : List (Str × V)} {f : Addr} {fd : FuncData} {ps : List Str} {k : Nat} {sp : Sp}
theorem FnG.of (F : FnOk P w K mg base (L2.CX P w) k f fd ps sp) : FnG P w K mg base g k f fd ps sp := ⟨F.len, fun A outer s H ar us vs Q E hr e0 hb r h => JC.of (F.run A outer s H ar us vs Q E hr e0 hb r h)⟩
theorem FnG.imp {sp' : Sp} (F : FnG P w K mg base g k f fd ps sp) (h : ∀ vs H Q E, sp' vs H Q E → sp vs H Q E) : FnG P w K mg base g k f fd ps sp' :=
  ⟨fun vs H Q E q => F.len vs H Q E (h _ _ _ _ q), fun A outer s H ar us vs Q E hr he hb hv hs => F.run A outer s H ar us vs Q E hr he hb hv (h _ _ _ _ hs)⟩
theorem fn_g {N : List Str} {S : Spec K} (F : FunD K x qual params body scope dvs kws f fd) (sc : FnScope N ps scope) (len : ∀ I ds P R, S I ds P R → ds.length = ps.length)
    (h : ∀ (cdv : Value) (A : Around) (outer : List Env) (s : Shared) (H : Hp) (E : XK), Room k (A.deeper (envOfC qual scope s.heap.objs.size f cdv)) →
      Takes (cxOf (L2.CX P w) P w K mg base N qual scope f cdv A outer s H E) (fun cls d _ H => E cls d H) →
      PassesOwn (model P w) (A.deeper (envOfC qual scope s.heap.objs.size f cdv)) (envOfC qual scope s.heap.objs.size f cdv) (cxOf (L2.CX P w) P w K mg base N qual scope f cdv A outer s H E).xe →
      ∀ (I : Iv K) (ds : List D) (Q : D → Iv K → Prop) (R : Rx K), S I ds Q R →
      GB (cxOf (L2.CX P w) P w K mg base N qual scope f cdv A outer s H E) g (fun cls d _ H => E cls d H) body (dstart N ds) I { nx := fun _ I' => Q .non I', rt := Q, ex := fun C fs _ I' => R C fs I' }) :
    FnG P w K mg base g (k + 1) f fd ps (spD K S) := by
  have len2 : ∀ vs H Q E, spD K S vs H Q E → vs.length = ps.length := fun vs H Q E ⟨I, G, ds, P', R, _, _, r, hS, _, _⟩ => by
    rw [r.length]
    exact len _ _ _ _ hS
  refine ⟨len2, fun A outer s H ar us vs Q E hr e0 hb r hsp => ?_⟩
  have hl := len2 _ _ _ _ hsp
  obtain ⟨oc, od, dV, kV, doc, pm, an, cdv, ct, osl, rfl, lk, hcd, _, _⟩ := F.ex
  have KX : K.In s.heap := e0.mod.kin.keeps fun b o e => (e0.bs b o e).1
  have lim : s.heap.NoLimit := e0.mod.nolimit.keeps fun b o e => (e0.bs b o e).1
  have kinds : ∀ y ∈ ps.zip us, scope.names.lookup y.1 = some .local ∨ (scope.names.lookup y.1 = some .cell ∧ ((cellsFrom (s.heap.objs.size + 1) scope.names []).lookup y.1).isSome = true) := fun y hy =>
    (sc.par y.1 (List.of_mem_zip (a := y.1) (b := y.2) hy).1).imp id fun q => ⟨q, PySem.W.cellsFrom_some _ _ _ (.inl q)⟩
  -- in the seen world: up to the body's start
  have walk : wpAny (model P w) A.in1 (bindArgs (PySem.W.fnOf x qual params body scope dV kV doc pm an cdv ct) ar) (fun bs s1 => wpAny (model P w) A.in1 (newFunctionEnv scope mainGlobals [] bs (qual ++ ".<locals>.") (some f) cdv none builtinsNs)
      (fun v s2 => s2.heap.NoLimit ∧ JC g A (.func body v) (CR (L2.CX P w) outer P w H s Q E) s2) (fun e s' => CR (L2.CX P w) outer P w H s Q E (.error e) s') s1) (fun e s' => CR (L2.CX P w) outer P w H s Q E (.error e) s') s := by
    refine hb _ _ _ _ (wpAny_newFunctionEnv_cells sc.kind kinds fun env he s1 ic => ?_)
    subst he
    refine ⟨lim.keeps ic.toInCall.keep, fun r2 hr2 => g.func ?_⟩
    have I1 : Inv (cxOf (L2.CX P w) P w K mg base N qual scope f cdv A outer s H E) [] (start N vs) H s1 := inv_start sc hr.hd e0 hl r ic
    obtain ⟨I, G, ds, P', R, sm, hI, rd, hS, kv, ke⟩ := hsp
    have bd := h cdv A outer s H E (hr.deeper _) (takes_of rfl rfl rfl rfl) (passes_of rfl) I ds P' R hS _ G H { nx := fun _ H' => Q .non H', rt := Q } (EnvR.start rd) sm hI
      ⟨fun δ σ G' H' I' s1 s2 h1 _ p => kv .non .non G' H' I' s1 s2 h1 rfl p, kv, fun _ _ _ _ _ _ _ _ _ p => p.elim, fun _ _ _ _ _ _ _ _ _ p => p.elim, fun C dd fs l δ σ G' H' I' s1 s2 h1 _ r2 hd p => ke C dd fs l G' H' I' s1 s2 h1 r2 hd p⟩
    have fin : ∀ {σ' : L2.St} {H' : Hp} {v : V} {u : Value} {s' : Shared}, Inv (cxOf (L2.CX P w) P w K mg base N qual scope f cdv A outer s H E) [] σ' H' s' → RelV v u → Q v H' → CE outer P w H s Q u s' := fun {σ' H' v u s'} Jv rv q => ⟨v, H', Jv.os, Jv.bare, Jv.base, Jv.hok, rv, q⟩
    refine wpAny_mono (bd.run [] s1 I1 r2 hr2) (fun fl r' ⟨s', hr', q⟩ => ?_) fun e r' ⟨s', hr', q⟩ => wpAny_mono (g.of q hr') (fun _ _ z => z) fun _ _ z => z
    cases fl with
    | ret u => exact match q with | ⟨v, σ', H', Jv, rv, q⟩ => ⟨s', hr', fin Jv rv q⟩
    | next => exact match q with | ⟨σ', H', Jv, q⟩ => ⟨s', hr', fin (v := V.non) (u := Value.none) Jv rfl q⟩
    | brk => exact match q with | ⟨_, _, _, q⟩ => q.elim
    | cont => exact match q with | ⟨_, _, _, q⟩ => q.elim
  intro r0 hr0
  refine g.call hr.depth (by rw [g.heap hr0]; exact KX _ _ lk) rfl sc.co sc.gen rfl (by rw [g.heap hr0]; exact PySem.W.codeRec_of KX hcd) ?_
  exact wpAny_mono (g.of walk hr0) (fun bs r1 ⟨s1, hr1, q⟩ => wpAny_mono (g.of q hr1) (fun v r2 ⟨s2, hr2, q2⟩ => ⟨by rw [g.heap hr2]; exact q2.1, q2.2 r2 hr2⟩) fun _ _ z => z) fun _ _ z => z
end
section
variable {X : Cx} {g : Gm X.prog X.w} {W : WX} {R : Rx X.K} {e : Expr} {es : List Expr} {δ : DEnv} {I : Iv X.K} {P : D → Iv X.K → Prop} {pos p apos : Pos} {x : Str} {f : Addr} {fd : FuncData} {ps : List Str} {k : Nat} {S : Spec X.K} {dvs : List V} {dds : List D} {us : List Value} {d : D} {sp : Sp}
theorem run_g {pins : List (Addr × Obj)} {σ : L2.St} {H : Hp} {s : Shared} {Q : VK} {us ds : List Value} {vs : List V} (tk : Takes X W) (F : FnG X.prog X.w X.K X.mg X.base g k f fd ps sp) (hr : Room k X.A) (hb : Binds X.K fd ps ds) (hd : Vals dvs ds)
    (J0 : Inv X pins σ H s) (r : Vals vs us) (h : sp (vs ++ dvs) H Q (WE W σ)) : J g X.A (call (.ref f) us) (EP X pins σ Q) X.xe s := by
  have r2 : Vals (vs ++ dvs) (us ++ ds) := r.append hd
  have hl : (us ++ ds).length = ps.length := by rw [← r2.length]; exact F.len _ _ _ _ h
  refine J.call (JC.mono (F.run X.A X.stack s H ⟨us, []⟩ (us ++ ds) (vs ++ dvs) Q (WE W σ) hr J0.env0 (hb s us J0.kIn hl) r2 h) fun r s' hq => ?_)
  cases r with
  | error e => exact passAt tk σ pins H s e s' J0 hq
  | ok fl =>
    cases fl with
    | ret u => exact J0.after hq
    | next => exact False.elim hq
    | brk => exact False.elim hq
    | cont => exact False.elim hq
theorem ge_callD (tk : Takes X W) (F : FnG X.prog X.w X.K X.mg X.base g k f fd ps (spD X.K S)) (hr : Room k X.A) (hm : X.mg x = some (.ref f)) (hk : PySem.W.keepIn X.K (.ref f) = true) (hb : Binds X.K fd ps us) (hd : Vals dvs us) (hdd : ∀ G, Reps X.K G dds dvs)
    (h : GA X g W R (e :: es) δ I fun ds I1 => S I1 (ds ++ dds) P R) (hg : Gl X x := by rfl) (hdb : (x == ("__debug__" : Str)) = false := by decide)
    (he : starEach (e :: es) X.env = (false, eval e X.env) :: starEach es X.env := by rfl) (hpl : (backTo pos (starEach es X.env)).any (·.1) = false := by rfl) : GE X g W R (.Call (.Name x p) (e :: es) [] pos) δ I P := fun σ G H Q hE s hI qx q =>
  have A1 := h σ G H (fun vs H1 => spD X.K S (vs ++ dvs) H1 Q (WE W σ)) hE s hI qx fun vs ds G1 H1 I1 s1 t1 h1 r1 k1 => spD_at t1 h1 (r1.append (hdd G1)) k1 (q.mono s1) (qx.mono s1)
  ⟨fun pins s0 J0 r0 hr0 => wpAny_Call_Name_kw (thn (g.of (ld_glob (E := X.xe) J0 hg hm (Q := fun v s' => v = .ref f ∧ s' = s0) ⟨rfl, rfl⟩ hdb) hr0) fun v r1 ⟨s1, hr1, ev, e1⟩ => by
    subst ev e1
    exact PySem.W.callWith_K (h₀ := X.base) J0.ok.mod.kin hk ((A1.run pos pins _ J0).thn hr1 fun us r2 s2 hr2 ⟨vs, H1, J1, r, q1⟩ => ⟨by rw [g.heap hr2]; exact J1.kIn, run_g tk F hr hb hd J1 r q1 r2 hr2⟩) he hpl)⟩
structure DefG (P : Program) (w : World) (K : PySem.W.Frag) (mg : Str → Option Value) (base : Heap) (g : Gm P w) (x : Str) (k : Nat) (ps : List Str) (dds : List D) (S : Spec K) : Prop where
  ex : ∃ (f : Addr) (fd : FuncData) (dvs : List V) (us : List Value), mg x = some (.ref f) ∧ PySem.W.keepIn K (.ref f) = true ∧ FnG P w K mg base g k f fd ps (spD K S) ∧ L2.Binds K fd ps us ∧ Vals dvs us ∧ ∀ G, Reps K G dds dvs
theorem DefG.of {P : Program} {w : World} {K : PySem.W.Frag} {mg : Str → Option Value} {base : Heap} {g : Gm P w} {x qual : Str} {params : Arguments} {body : List Stmt} {scope : Scope} {f : Addr} {fd : FuncData} {ps : List Str} {k : Nat} {S : Spec K} (gm : mg x = some (.ref f)) (F : FunD K x qual params body scope [] [] f fd) (ok : FnG P w K mg base g k f fd ps (spD K S))
    (h : ∀ (kV doc pm : Value) (an : Option Addr) (cdv ct : Value) (us : List Value), us.length = ps.length → bindArgs (PySem.W.fnOf x qual params body scope .none kV doc pm an cdv ct) ⟨us, []⟩ = pure (ps.zip us)) : DefG P w K mg base g x k ps [] S :=
  ⟨f, fd, [], [], gm, F.kp, ok, F.bindsN h, .nil, fun _ => rfl⟩
theorem ge_def (tk : Takes X W) (F : DefG X.prog X.w X.K X.mg X.base g x k ps dds S) (hr : Room k X.A) (h : GA X g W R (e :: es) δ I fun ds I1 => S I1 (ds ++ dds) P R) (hg : Gl X x := by rfl) (hdb : (x == ("__debug__" : Str)) = false := by decide)
    (he : starEach (e :: es) X.env = (false, eval e X.env) :: starEach es X.env := by rfl) (hpl : (backTo pos (starEach es X.env)).any (·.1) = false := by rfl) : GE X g W R (.Call (.Name x p) (e :: es) [] pos) δ I P := by
  obtain ⟨f, fd, dvs, us, m, kp, ok, b, v, r⟩ := F.ex
  exact ge_callD tk ok hr m kp b v r h hg hdb he hpl
theorem ge_methA {C : Addr} {m : Str} {n : Nat} {o : Expr} {pl : Sem Bool} (tk : Takes X W) (c : PlG X.K C) (hf : PySem.W.findIn X.K (.ref C) m = some (some (.ref (He.ma X.K C m)))) (hi : PySem.W.isFn X.K (.ref (He.ma X.K C m)) = true) (hk : PySem.W.keepIn X.K (.ref (He.ma X.K C m)) = true)
    (F : FnR X.prog X.w X.K X.mg X.base (L2.CX X.prog X.w) n (He.ma X.K C m) (spD X.K S)) (hr : Room n X.A)
    (h : GE X g W R o δ I fun x I1 => InsD C m x I1 ∧ EvA X W R (e :: es) δ I1 fun ds I2 => S I2 (x :: ds) P R)
    (hst : starEach (e :: es) X.env = (false, eval e X.env) :: starEach es X.env := by rfl) (hpl : (backTo pos (starEach es X.env)).any (·.1) = false := by rfl)
    (ht : eval (.Call (.Attribute o m apos) (e :: es) [] pos) X.env = (do
      let ov ← eval o X.env
      standAt apos.atName
      let (f, first) ← holding [ov] (getMethod ov m pl)
      callWith pos f first (backTo pos (starEach (e :: es) X.env)) (backToKw pos (keywordEach [] X.env))) := by rfl) : GE X g W R (.Call (.Attribute o m apos) (e :: es) [] pos) δ I P := fun σ G H Q hE s hI qx q =>
  have A1 := h σ G H (fun v H1 => ∃ a, v = .ref a ∧ IsI H1 a C m ∧ wpA X (e :: es) σ H1 fun vs H2 => spD X.K S (.ref a :: vs) H2 Q (WE W σ)) hE s hI qx fun v x G1 H1 I1 s1 t1 h1 r1 ⟨hx, ka⟩ => by
    obtain ⟨a, ea, hia⟩ := hx G1 H1 v t1 h1 r1
    refine ⟨a, ea, hia, ka σ G1 H1 _ (hE.mono s1) t1 h1 (qx.mono s1) fun vs ds G2 H2 I2 s2 t2 h2 r2 k2 => ?_⟩
    exact spD_at t2 h2 (.cons (by rw [← ea]; exact r1.mono s2) r2) k2 (q.mono (s1.trans s2)) (qx.mono (s1.trans s2))
  ⟨fun pins s0 J0 r0 hr0 => PySem.W.methodCall_KW (pl := pl) ((A1.run pins s0 J0).thn hr0 fun u r1 s1 hr1 ⟨x, H1, J1, rx, a, ea, hia, wa⟩ => by
    subst ea
    obtain rfl : u = Value.ref a := rx
    obtain ⟨ox, od, O, hl⟩ := isi_inst J1 hia
    refine of2 ?_ hr1
    refine PySem.W.method_fn J1.kIn O (PySem.W.plainGet_of (c.g m)).1 (PySem.W.plainGet_of (c.g m)).2 hf (beq_iff_eq.mp hi) (by show (PySem.W.lookIn m od).map (·.isSome) = some false; rw [hl]; rfl) ?_
    refine PySem.W.callWith_K (first := [.ref a]) (h₀ := X.base) J1.ok.mod.kin hk (thn (paC.run pos pins s1 σ H1 _ J1 wa) fun us s2 ⟨vs, H2, J2, r, q2⟩ => ⟨J2.kIn, ?_⟩) hst hpl
    exact wpAny_call (run_own tk F hr J2.env0 J2 (us := .ref a :: us) (ws := .ref a :: vs) (.cons rfl r) q2)) ht⟩
def MakeR {P : Program} {w : World} (g : Gm P w) : Prop := (∀ {r s : Shared} {h : Heap}, g.R r s → g.R { r with heap := h } { s with heap := h }) ∧
  ∀ {A : Around} {Z : Result → Shared → Prop} {r : Shared} {K : PySem.W.Frag} {C f : Addr} {vs : List Value}, K.In r.heap → PySem.W.makesIn K C = true → PySem.W.findIn K (.ref C) "__init__" = some (some (.ref f)) → PySem.W.typeIn K (.ref f) = some (.type "function") →
    codeAny g.M (A.under (.builtin "type.__call__" ⟨.ref C :: vs, []⟩)) (.call (.ref f) ⟨.ref (r.heap.objs.size + 1) :: vs, []⟩) (PySem.W.InitBack (r.heap.objs.size + 1) Z) { r with heap := (r.heap.push PySem.W.emptyDict).push (PySem.W.instObj C r.heap.objs.size) } →
    codeAny g.M A (.call (.ref C) ⟨vs, []⟩) Z r
theorem makeT {P : Program} {w : World} {T : Nat} : MakeR (gT P w T) := ⟨fun ⟨e, t⟩ => by subst e; exact ⟨rfl, t⟩, fun X m i f h => make_map X m i f h⟩
theorem ge_makeI {C : Addr} {x' : Str} {j : Nat} (mk : MakeR g) (tk : Takes X W) (M : Mk X.K C f) (F : FnG X.prog X.w X.K X.mg X.base g j f fd ps (spD X.K S)) (hr : Room (j + 1) X.A) (hm : X.mg x' = some (.ref C)) (hb : L2.Binds X.K fd ps [])
    (h : EvA X W R (e :: es) δ I fun ds I1 => ∀ y dy, (∀ a, ¬ (I1.F a ∧ (a = y ∨ a = dy))) → S (I1.and (iIns X.K y C dy [])) (.adr y :: ds) (fun v I3 => v = .non ∧ P (.adr y) I3) (fun C' fs I3 => R C' fs I3))
    (hg : Gl X x' := by rfl) (hdb : (x' == ("__debug__" : Str)) = false := by decide)
    (he : starEach (e :: es) X.env = (false, eval e X.env) :: starEach es X.env := by rfl) (hpl : (backTo pos (starEach es X.env)).any (·.1) = false := by rfl) : GE X g W R (.Call (.Name x' p) (e :: es) [] pos) δ I P := fun σ G H Q hE s hI qx q =>
  have A1 := h σ G H (fun vs H1 => ∀ x dx, H1 x = none → H1 dx = none → dx ≠ x → spD X.K S (.ref x :: vs) (upd (upd H1 dx (.own x)) x (.ins C dx [])) (fun v H2 => v = .non ∧ Q (.ref x) H2) (WE W σ)) hE s hI qx fun vs ds G1 H1 I1 s1 t1 h1 r1 hS y dy ny nd dn => by
    have gd : G1 dy = none := t1.free nd
    have gy : G1 y = none := t1.free ny
    have ny2 : upd H1 dy (.own y) y = none := by rw [upd_ne (Ne.symm dn)]; exact ny
    have na : ∀ a, ¬ (I1.F a ∧ (a = y ∨ a = dy)) := fun a ha => ha.2.elim (fun e => h1.dom ha.1 (by rw [e]; exact ny)) (fun e => h1.dom ha.1 (by rw [e]; exact nd))
    have hd3 : Hd (I1.and (iIns X.K y C dy [])) G1 (upd (upd H1 dy (.own y)) y (.ins C dy [])) := by
      refine Hd.mk2 ((h1.newp nd).newp ny2) ⟨⟨by rw [upd_ne dn, upd_same], dn, [], upd_same, rfl⟩, fun a ha => ?_⟩ na
      rcases ha with e | e
      · subst e; exact gy
      · subst e; exact gd
    refine spD_at (ds := .adr y :: ds) (same_upd (same_upd t1 gd) gy) hd3 (.cons rfl r1) (hS y dy na) ?_ ?_
    · intro v d G' H' I' s3 t3 h3 r3 ⟨ed, pp⟩
      subst ed
      exact ⟨r3, q (.ref y) (.adr y) G' H' I' (s1.trans s3) t3 h3 rfl pp⟩
    · exact fun C' dd fs l G' H' I' s3 t3 h3 r3 hx pp => qx C' dd fs l G' H' I' (s1.trans s3) t3 h3 r3 hx pp
  ⟨fun pins s0 J0 r0 hr0 => wpAny_Call_Name_kw (thn (g.of (ld_glob (E := X.xe) J0 hg hm (Q := fun v s' => v = .ref C ∧ s' = s0) ⟨rfl, rfl⟩ hdb) hr0) fun v r1 ⟨s1, hr1, ev, e1⟩ => by
    subst ev e1
    refine PySem.W.callWith_K (h₀ := X.base) J0.ok.mod.kin M.kp (thn (g.of (A1.run pos pins _ J0) hr1) fun us r2 ⟨s2, hr2, vs, H1, J1, r, q1⟩ => ⟨by rw [g.heap hr2]; exact J1.kIn, ?_⟩) he hpl
    have hq := q1 (s2.heap.objs.size + 1) s2.heap.objs.size (J1.hok.fresh (Nat.le_succ _)) (J1.hok.fresh (Nat.le_refl _)) (Nat.ne_of_lt (Nat.lt_succ_self _))
    have J2 := Inv.made (C := C) J1
    have r2' : Vals (V.ref (s2.heap.objs.size + 1) :: vs) (Value.ref (s2.heap.objs.size + 1) :: us) := .cons rfl r
    have hl : ((Value.ref (s2.heap.objs.size + 1) :: us) ++ []).length = ps.length := by
      rw [List.append_nil, ← r2'.length]
      exact F.len _ _ _ _ hq
    have run := F.run _ X.stack _ _ ⟨Value.ref (s2.heap.objs.size + 1) :: us, []⟩ ((Value.ref (s2.heap.objs.size + 1) :: us) ++ []) _ _ (WE W σ) (hr.make C us []) (J2.env0.make C us []) (hb _ (Value.ref (s2.heap.objs.size + 1) :: us) J2.kIn hl) (by rw [List.append_nil]; exact r2') hq
    have eh := g.heap hr2
    refine wpAny_call (mk.2 (f := f) (by rw [eh]; exact J1.kIn) M.makes M.init (beq_iff_eq.mp M.fn) ?_)
    rw [eh]
    refine codeAny_mono (run _ (mk.1 hr2)) fun x r' ⟨s', hr', hq'⟩ => ?_
    cases x with
    | error e => exact ⟨s', hr', passAt tk σ pins _ _ e s' J2 hq'⟩
    | ok fl =>
      cases fl with
      | ret u =>
        obtain ⟨v, H', J4, rv', ev, q3⟩ := J2.after hq'
        subst ev
        exact ⟨rv', ⟨s', hr', V.ref (s2.heap.objs.size + 1), H', J4, rfl, q3⟩⟩
      | next => exact False.elim hq'
      | brk => exact False.elim hq'
      | cont => exact False.elim hq')⟩
end
end GL
set_option Elab.async false
set_option linter.all false
set_option maxRecDepth 100000
set_option maxHeartbeats 4000000
namespace GL
open PySem PySem.Spec PyProof.Rows L2 DL
section
variable {T : List Addr} {K : PySem.W.Frag} {a : Addr} {l : Obj} {xs : List V} {h : Heap}
def hp0 (T : List Addr) (K : PySem.W.Frag) (a : Addr) (l : Obj) (xs : List V) : Hp := fun b => if b ∈ T then some (.tbl #[]) else if b = a ∧ K.lookup a = none then some (.frz l (.lst xs)) else none
inductive At0 (T : List Addr) (K : PySem.W.Frag) (a : Addr) (l : Obj) (xs : List V) (b : Addr) : Option HO → Prop
  | tbl (h : b ∈ T) : At0 T K a l xs b (some (.tbl #[]))
  | lst (h : b ∉ T) (e : b = a) (k : K.lookup a = none) : At0 T K a l xs b (some (.frz l (.lst xs)))
  | no (h : b ∉ T) (k : b = a → K.lookup a ≠ none) : At0 T K a l xs b none
theorem at0 (b : Addr) : At0 T K a l xs b (hp0 T K a l xs b) := by
  unfold hp0
  split
  · exact .tbl ‹_›
  · split
    · rename_i h1 h2
      exact .lst h1 h2.1 h2.2
    · rename_i h1 h2
      exact .no h1 fun e k => h2 ⟨e, k⟩
theorem at0_no (hT : ∀ b ∈ T, h.get? b = some { cls := .none, data := .fields #[] }) (ha : h.get? a = some l) (hl : ∃ vs n, l.data = .seq vs n) {b : Addr} {o : Obj} (e : h.get? b = some o) (n1 : ∀ vs n, o.data ≠ .seq vs n) (n2 : o.data ≠ .fields #[]) : hp0 T K a l xs b = none := by
  generalize hq : hp0 T K a l xs b = q
  have z := at0 (T := T) (K := K) (a := a) (l := l) (xs := xs) b
  rw [hq] at z
  cases z with
  | no => rfl
  | tbl hb =>
    have e2 := (hT b hb).symm.trans e
    cases e2
    exact (n2 rfl).elim
  | lst hb eb k =>
    subst eb
    have e2 := ha.symm.trans e
    cases e2
    obtain ⟨vs, n, hd⟩ := hl
    exact (n1 _ _ hd).elim
theorem at0_ns (hT : ∀ b ∈ T, h.get? b = some { cls := .none, data := .fields #[] }) (ha : h.get? a = some l) (hl : ∃ vs n, l.data = .seq vs n) {b : Addr} {m : Str → Option Value} (n : h.Ns b m) : (hidT h (hp0 T K a l xs)).Ns b m := by
  obtain ⟨o, es, ep, e, d, r⟩ := n
  exact ⟨o, es, ep, hidT_get e (at0_no hT ha hl e (fun _ _ z => by rw [d] at z; cases z) fun z => by rw [d] at z; cases z), d, r⟩
end
section
variable {P : Program} {w : World} {g : Gm P w} {K : PySem.W.Frag} {mg mb : Str → Option Value} {k : Nat} {fa a : Addr} {cs : List (Addr × Addr)} {fd : FuncData} {x : Str} {sp : Sp} {s₁ : Shared} {vs : List Value} {ns : List Int}
theorem law_callG (KX : K.In s₁.heap) (hns : s₁.heap.Ns mainGlobals mg) (hb : s₁.heap.Ns builtinsNs mb) (hbb : ∀ x : Str, x ≠ "__name__" → mb x = bootBuiltins x) (hlim : s₁.heap.NoLimit) (hg : s₁.gens = #[])
    (hT : ∀ p ∈ cs, s₁.heap.get? p.2 = some { cls := .none, data := .fields #[] }) (nT : ∀ p ∈ cs, K.lookup p.2 = none) (C : ∀ p ∈ cs, PySem.W.CodeHd s₁.heap p.1 p.2)
    (hbm : ∃ (bm : Addr) (ob : Obj), mg "__builtins__" = some (.ref bm) ∧ bm ≠ builtinsNs ∧ s₁.heap.get? bm = some ob ∧ ob.cls = .type "module" ∧ ob.dict = some builtinsNs ∧ ob.data = .plain)
    (ha : s₁.heap.get? a = some { cls := .type "list", data := .seq vs.toArray }) (hi : IntsAre vs ns) (hl : ns.length ≤ sizeLine) (hr : Room k callerA)
    (F : ∀ base : Heap, K.In base → base.Ns mainGlobals mg → (∀ p ∈ cs, LamX.TabB base mg p.1 p.2) → FnG P w K mg base g k fa fd [x] sp) (hbind : ∀ (s : Shared) (u : Value), BindsTo s fd ⟨[u], []⟩ [(x, u)])
    (hsp : ∀ H : Hp, (∀ p ∈ cs, H p.2 = some (.tbl #[])) → SqL K H a (ns.map V.int) → sp [.ref a] H (fun v _ => v = .bl true) fun _ _ _ => False) :
    JC g callerA (.call (.ref fa) ⟨[.ref a], []⟩) (fun r s' => r = .ok (.ret (.bool true)) ∧ OldK s₁.heap s'.heap ∧ s'.os = s₁.os ∧ AllBare s'.gens) s₁ := by
  let l : Obj := { cls := .type "list", data := .seq vs.toArray }
  let T := cs.map (·.2)
  let H := hp0 T K a l (ns.map V.int)
  have rv : Vals (ns.map V.int) vs := vals_ints hi
  have lv : vs.length = ns.length := hi.length
  have isT : ∀ b ∈ T, s₁.heap.get? b = some { cls := .none, data := .fields #[] } := fun b hb => by
    obtain ⟨p, hp, e⟩ := List.mem_map.mp hb
    subst e
    exact hT p hp
  have inT : ∀ p ∈ cs, p.2 ∈ T := fun p hp => List.mem_map_of_mem hp
  have aT : a ∉ T := fun z => by
    have e := (isT a z).symm.trans ha
    cases e
  have sl : ∃ vs' n, l.data = .seq vs' n := ⟨_, _, rfl⟩
  have free : ∀ {b : Addr} {o : Obj}, s₁.heap.get? b = some o → (∀ vs n, o.data ≠ .seq vs n) → o.data ≠ .fields #[] → H b = none := fun e n1 n2 => at0_no isT ha sl e n1 n2
  have nsB : ∀ {b : Addr} {m : Str → Option Value}, s₁.heap.Ns b m → (hidT s₁.heap H).Ns b m := fun n => at0_ns isT ha sl n
  have KB : K.In (hidT s₁.heap H) := fun b o e => hidT_get (KX b o e) (by
    have z := at0 (T := T) (K := K) (a := a) (l := l) (xs := ns.map V.int) b
    generalize hq : hp0 T K a l (ns.map V.int) b = q at z
    show hp0 T K a l (ns.map V.int) b = none
    rw [hq]
    cases z with
    | no => rfl
    | tbl hb =>
      obtain ⟨p, hp, ep⟩ := List.mem_map.mp hb
      have e3 := nT p hp
      rw [ep] at e3
      exact absurd (e.symm.trans e3) (fun z => nomatch z)
    | lst hb eb kk =>
      subst eb
      exact absurd (e.symm.trans kk) (fun z => nomatch z))
  have hS : SqL K H a (ns.map V.int) := by
    cases hk : K.lookup a with
    | none => exact .inl (.inr ⟨l, by show hp0 T K a l (ns.map V.int) a = _; unfold hp0; rw [if_neg aT, if_pos ⟨rfl, hk⟩]⟩)
    | some o =>
      have e := (KX a o hk).symm.trans ha
      cases e
      exact .inr ⟨_, vs.toArray, _, hk, rfl, rfl, rfl, by rw [List.size_toArray, lv]; exact hl, by simpa using rv⟩
  have hHT : ∀ p ∈ cs, H p.2 = some (.tbl #[]) := fun p hp => if_pos (inT p hp)
  have ok : HOk P w H s₁.heap := fun b u z => by
    have q := at0 (T := T) (K := K) (a := a) (l := l) (xs := ns.map V.int) b
    rw [show hp0 T K a l (ns.map V.int) b = some u from z] at q
    cases q with
    | tbl hb => exact isT b hb
    | lst hb eb kk =>
      subst eb
      exact ⟨ha, by rw [List.length_map]; exact hl, vs, _, rv, ha⟩
  have M0 : L2.Mod K mg (hidT s₁.heap H) := ⟨KB, nsB hns, ⟨mb, nsB hb, hbb⟩, by obtain ⟨mc, h1, h2⟩ := hlim; exact ⟨mc, nsB h1, h2⟩⟩
  have TB : ∀ p ∈ cs, LamX.TabB (hidT s₁.heap H) mg p.1 p.2 := fun p hp => by
    have tp := hT p hp
    refine ⟨?_, ?_, fun z => ?_⟩
    · obtain ⟨o, us, fl, tf, fg, tg, inF, tx, tt, e1, r1, r2, r3, q⟩ := C p hp
      exact ⟨o, us, fl, tf, fg, tg, inF, tx, tt, hidT_get e1 (free e1 (fun _ _ z => by rw [r2] at z; cases z) fun z => by
        rw [r2] at z
        cases z
        simp at r3), r1, r2, r3, q⟩
    · obtain ⟨bm, ob, b1, b2, b3, b4, b5, b6⟩ := hbm
      refine ⟨bm, ob, b1, b2, fun q => ?_, fun q => ?_, hidT_get b3 (free b3 (fun _ _ z => by rw [b6] at z; cases z) fun z => by rw [b6] at z; cases z), b4, b5, b6⟩
      · obtain ⟨o, es, ep, e, hd, _⟩ := hns
        rw [q] at b3
        have e2 := e.symm.trans b3
        cases e2
        rw [hd] at b6
        cases b6
      · rw [q] at b3
        have e2 := tp.symm.trans b3
        cases e2
        cases b6
    · obtain ⟨o, es, ep, e, hd, _⟩ := hns
      rw [z] at e
      have e2 := tp.symm.trans e
      cases e2
      cases hd
  have e0 : Env0 P w K mg (hidT s₁.heap H) callerA [] s₁ H := ⟨rfl, M0, fun b o e => of_hidT e, Nat.le_of_eq (hidT_size _ _), trivial, (fun b hb => nomatch hb), ok, AllBare.of_eq hg⟩
  refine JC.mono ((F _ KB (nsB hns) TB).run callerA [] s₁ H ⟨[.ref a], []⟩ [.ref a] [.ref a] _ _ hr e0 (hbind s₁ (.ref a)) (.cons rfl .nil) (hsp H hHT hS)) fun r s' q => ?_
  cases r with
  | error e => exact (DL.cx0 q).elim
  | ok fl =>
    cases fl with
    | next => exact False.elim q
    | brk => exact False.elim q
    | cont => exact False.elim q
    | ret u =>
      obtain ⟨v, H', os, bare, un, ok', rvu, ev⟩ := q
      obtain rfl : v = .bl true := ev
      obtain rfl : u = Value.bool true := rvu
      have rest : ∀ b o, b ∉ T → s₁.heap.get? b = some o → s'.heap.get? b = some o := fun b o nb e => by
        have q := at0 (T := T) (K := K) (a := a) (l := l) (xs := ns.map V.int) b
        generalize hq : hp0 T K a l (ns.map V.int) b = q0 at q
        cases q with
        | tbl hb => exact absurd hb nb
        | no _ _ => exact un.keep b o e hq (fun z => nomatch z) (fun z => nomatch z)
        | lst _ _ _ =>
          have e1 := (ok b _ hq).1
          have e2 := (ok' b _ (un.frzs b l _ hq)).1
          rw [e] at e1
          cases e1
          exact e2
      have grown : ∀ b ∈ T, ∃ more : Array Value, s'.heap.get? b = some { cls := .none, data := .fields more } := fun b hb => by
        obtain ⟨p, hp, ep⟩ := List.mem_map.mp hb
        subst ep
        obtain ⟨more, z⟩ := un.tbls p.2 #[] (hHT p hp)
        exact ⟨_, ok' p.2 _ z⟩
      refine ⟨rfl, ⟨fun b o e => ?_, fun b o e => ?_⟩, os, bare⟩
      · rcases Classical.em (b ∈ T) with hb | hb
        · obtain ⟨p, hp, ep⟩ := List.mem_map.mp hb
          obtain ⟨more, hm⟩ := grown b hb
          have e2 := (isT b hb).symm.trans e
          cases e2
          subst ep
          exact .inr (.inl ⟨((C p hp).tab (hT p hp)).isCodeTable, rfl, #[], more, rfl, by rw [Array.empty_append]; exact hm⟩)
        · exact .inl (rest b o hb e)
      · rcases Classical.em (b ∈ T) with hb | hb
        · obtain ⟨more, hm⟩ := grown b hb
          exact ⟨_, hm⟩
        · exact ⟨o, rest b o hb e⟩
end
end GL
set_option Elab.async false
set_option linter.all false
set_option maxRecDepth 100000
set_option maxHeartbeats 4000000
namespace GL
open PySem PySem.Spec PySem.W PyProof.Rows L2 DL HandSHeadRun
def LawAtG (l : OpenLaw) (w : World) (K : Frag) (g : Gm l.prog w) (k n : Nat) (x : Str) (mg : Str → Option Value) (fa : Addr) (h : Heap) : Prop :=
  ∃ (fd : FuncData) (cs : List (Addr × Addr)) (sp : Sp), (∀ p ∈ cs, h.get? p.2 = some { cls := .none, data := .fields #[] }) ∧ (∀ p ∈ cs, K.lookup p.2 = none) ∧ (∀ p ∈ cs, CodeHd h p.1 p.2) ∧ (∀ (s : Shared) (u : Value), BindsTo s fd ⟨[u], []⟩ [(x, u)]) ∧
    (∀ (H : Hp) (a : Addr) (ns : List Int), ns.length ≤ n → (∀ p ∈ cs, H p.2 = some (.tbl #[])) → SqL K H a (ns.map V.int) → sp [.ref a] H (fun v _ => v = .bl true) fun _ _ _ => False) ∧
    ∀ base : Heap, K.In base → base.Ns mainGlobals mg → (∀ p ∈ cs, LamX.TabB base mg p.1 p.2) → FnG l.prog w K mg base g k fa fd [x] sp
theorem quoK_ok {K : Frag} {T : Nat} {h : Heap} {mg : Str → Option Value} (X : K.In h) (G : h.Ns mainGlobals mg) (q : quoK K T = true) : ∃ t : Tok, mg "QUOTE" = some (.str "'" t) ∧ t ≠ 0 ∧ t < T := by
  unfold quoK at q
  split at q
  · rename_i x t e
    obtain ⟨q1, q2⟩ := Bool.and_eq_true_iff.mp q
    obtain ⟨q2, q3⟩ := Bool.and_eq_true_iff.mp q2
    have ex := of_decide_eq_true q1
    subst ex
    refine ⟨t, mg_of X G e, fun z => ?_, Nat.le_of_ble_eq_true q3⟩
    subst z
    exact absurd q2 (by decide)
  · cases q
section
variable {l : OpenLaw} {n k : Nat} {q : Program} {loose : List Str} {XP : (Str → Option Value) → Heap → Prop} {H : Hook} {d : DefRec} {x : Str}
def HookT (H : Hook) (s : Shared) : H.α × Bool := (H.obs s, quoK (KS s.heap.get?) s.toks)
theorem walk_T (hn : l.most = some n) (hn2 : n ≤ sizeLine) (hdf : d.params.defaults = []) (hr : Room k callerA)
    (F : ∀ (w : World) (mg : Str → Option Value) (fa : Addr) (h : Heap) (T : Nat), H.says w h → h.Ns mainGlobals mg → mg d.name = some (.ref fa) → (∃ t : Tok, mg "QUOTE" = some (.str "'" t) ∧ t ≠ 0 ∧ t < T) → ∃ K : Frag, K.In h ∧ LawAtG l w K (gT l.prog w T) k n x mg fa h) :
    WalkX q loose XP (HookT H) (fun w => (H.val w, true)) l.row.toRowW d [] (fun f vs => PySem.call f vs) := by
  intro w s₀ s₁ mg mb G Y fa o pm cd doc dV kV ho hd hcd hD hmg hg args vals as L hpre hlay hrd hwl hlo
  have e1 : H.obs s₀ = H.val w := congrArg Prod.fst Y
  have e2 : quoK (KS s₀.heap.get?) s₀.toks = true := congrArg Prod.snd Y
  have t0 := quoK_ok (Frag.In.keeps He.frT_in L.keeps) G.T.g e2
  obtain ⟨ord, _, hlaid⟩ := L.laid
  have t1 : s₀.toks ≤ s₁.toks := (layAllW_grows _ _ _ hlaid).toks
  have sy := H.keeps w _ _ (H.of w s₀ e1) L.keeps
  obtain rfl : dV = .none := Dflts.none hD hdf
  obtain rfl : kV = .none := Dflts.noKw hD
  obtain ⟨a, vs, ns, rfl, rfl, hobj, hints, hlen⟩ := Att.script_of hn hpre hwl
  obtain ⟨K, KX, fd, cs, sp, hT, nT, C, hb, hsp, hF⟩ := F w mg fa _ s₀.toks sy G.T.g hmg t0
  have run := law_callG KX G.T.g G.T.b G.T.builtins G.T.nolimit hg hT nT C G.T.bmain hobj hints (Nat.le_trans hlen hn2) hr hF hb (fun H hH hS => hsp H a ns hlen hH hS)
  refine enter_call (codeAny_mono (run s₁ ⟨rfl, t1⟩) fun r s' hq => ?_)
  obtain ⟨s2, ⟨es, _⟩, rfl, h2, h3, h4⟩ := hq
  subst es
  exact ⟨.inl ⟨.bool true, .bool true, [], rfl, fun _ => rfl, .bool true, Att.post_true l _, fun _ => ⟨List.Pairwise.nil, fun _ hm => (nomatch hm)⟩⟩, h2, h3, h4⟩
end
def RunT (r : OpenRow) (q : Program) (H : Hook) (ob : SharedT → H.α) (M : Nat) (loose : List PySem.Str) (w : World) : Prop :=
  ∀ os : OsState, (endF (stepQ (denQ tabQ) r.prog w) M r.prog w os).map (fun s => (looksF r.prog (boot_heap w.params) s.abs, seenQ q loose (importedModules r.prog.main.body) (fun s => xlAt q [] s && recOk r.toRowW.records s) s.abs, (ob s, quoK (KS (getT s)) s.toks))) = some (true, openGood q loose, (H.val w, true))
theorem head_T {r : OpenRow} {q : Program} {H : Hook} {ob : SharedT → H.α} {M : Nat} {loose : List PySem.Str} {d : DefRec} {kwd : List (PySem.Str × PySem.Expr)} (ho : ∀ s : SharedT, ob s = H.obs s.abs)
    (e : opening r.prog = plainProg r.prog.main.scope.names) (f : ∀ s, fenceModules? r.prog s = some s) (run : ∀ w, RunT r q H ob M loose w)
    (hdef : defOf q r.name = some (d, kwd)) (hp : r.prog.theDef r.name = some (d.params, d.body, d.scope)) (hk : kwWritten? d.params.kwonlyargs d.params.kw_defaults = some kwd)
    (hwr : (!r.writes || r.records.isEmpty) = true) (k1 : r.wellSaid = true) (ok : (chainsOk q && opensWell r.prog && (frees r.toRowW && r.within.isEmpty)) = true) (hb : r.prog.bare) (hw : r.toRowW.promised)
    (call : WalkX q loose (XL q []) (HookT H) (fun w => (H.val w, true)) r.toRowW d kwd fun f vs => PySem.call f vs) : r.Holds := by
  have eo : ob = fun s => H.obs s.abs := funext ho
  subst eo
  have ek : (fun s : SharedT => quoK (KS (getT s)) s.toks) = fun s => quoK (KS s.abs.heap.get?) s.abs.toks := funext fun s => by
    have e : getT s = s.abs.heap.get? := funext fun a => getT_eq s a
    rw [e]; rfl
  have left : LeftO r.prog q loose (fun s => xlAt q [] s && recOk r.toRowW.records s) (HookT H) (fun w => (H.val w, true)) (M + 600) true :=
    left_one (M := M) e (Nat.ble_eq_true_of_le (by omega)) f (Nat.ble_eq_true_of_le (by omega)) fun w os => by
      have z := run w os
      have z2 : (endF (stepQ (denQ tabQ) r.prog w) M r.prog w os).map (fun s => (looksF r.prog (boot_heap w.params) s.abs, seenQ q loose (importedModules r.prog.main.body) (fun s => xlAt q [] s && recOk r.toRowW.records s) s.abs, HookT H s.abs)) = some (true, openGood q loose, (H.val w, true)) := by
        rw [← z]
        congr 1
        funext s
        have := congrFun ek s
        unfold HookT
        rw [← this]
      simp only [endQ_eq, seenQ_eq]
      exact z2
  exact holds_openX left (fun s z => xl_of s (Bool.and_eq_true_iff.mp z).1) XL.keeps hdef hp hk (fun s z => recFacts_of (Bool.and_eq_true_iff.mp z).2) hwr k1 ok hb hw call
theorem runT_of {r : OpenRow} {q : Program} {H : Hook} {ob : SharedT → H.α} {M : Nat} {loose : List PySem.Str} {w : World} (h : RunEq r q H ob M loose w) (t : ∀ os : OsState, (endF (stepQ (denQ tabQ) r.prog w) M r.prog w os).map (fun s => quoK (KS (getT s)) s.toks) = some true) : RunT r q H ob M loose w := fun os => by
  have h1 := h os
  have h2 := t os
  cases e : endF (stepQ (denQ tabQ) r.prog w) M r.prog w os with
  | none => rw [e] at h2; cases h2
  | some s =>
    rw [e] at h1 h2
    have e1 := Option.some.inj h1
    have e2 : quoK (KS (getT s)) s.toks = true := Option.some.inj h2
    have f1 := congrArg Prod.fst e1
    have f2 := congrArg (fun z => z.2.1) e1
    have f3 := congrArg (fun z => z.2.2) e1
    exact congrArg some (Prod.ext f1 (Prod.ext f2 (Prod.ext f3 e2)))
end GL
set_option Elab.async false
set_option linter.all false
set_option maxRecDepth 100000
set_option maxHeartbeats 4000000
namespace GL
open PySem PySem.Spec PyProof.Rows L2 DL
structure Quo (X : Cx) (n : Str) (y : Str) (T : Nat) : Prop where
  ex : ∃ t : Tok, X.mg n = some (.str y t) ∧ t ≠ 0 ∧ t < T
section
variable {X : Cx} {T : Nat} {W : WX} {R : Rx X.K} {o : Expr} {δ : DEnv} {I : Iv X.K} {P : D → Iv X.K → Prop} {apos pos p1 p2 p3 p4 : Pos} {x : Str}
theorem q_len {x : Str} (h : x.length ≤ 100000) : x.length + (x.length + 1) * ("''" : Str).length ≤ 16777216 := by
  rw [show ("''" : Str).length = 2 from by decide]
  omega
theorem q_len1 {x : Str} (h : x.length ≤ 100000) : x.length + (x.length + 1) * ("'" : Str).length ≤ 16777216 := by
  rw [show ("'" : Str).length = 1 from by decide]
  omega
theorem gt_replD (k : Quo X "QUOTE" "'" T) (hg : Gl X "QUOTE") (hz : x.length ≤ 100000) (ho : PV X I o δ (.str x)) (p : P (.str (Txt.replace x "'" "''")) I)
    (hst : starEach [.Name "QUOTE" p1, .BinOp (.Name "QUOTE" p2) .Add (.Name "QUOTE" p3) p4] X.env = [(false, eval (.Name "QUOTE" p1) X.env), (false, eval (.BinOp (.Name "QUOTE" p2) .Add (.Name "QUOTE" p3) p4) X.env)] := by rfl)
    (hbase : attributeBase o "replace" X.env (eval o X.env) = eval o X.env := by rfl) (hline : (apos.endLine == pos.line) = true := by rfl) :
    GE X (gT X.prog X.w T) W R (.Call (.Attribute o "replace" apos) [.Name "QUOTE" p1, .BinOp (.Name "QUOTE" p2) .Add (.Name "QUOTE" p3) p4] [] pos) δ I P := fun σ G H Q hE s hI qx q => by
  have A1 := ho W R (fun z J => z = .str x ∧ J = I) ⟨rfl, rfl⟩ σ G H (fun v H1 => v = .str x ∧ Q (.str (Txt.replace x "'" "''")) H1) hE s hI qx fun v d G1 H1 I1 s1 t1 h1 r1 ⟨ed, ei⟩ => by
    subst ed ei
    exact ⟨r1, q _ (.str (Txt.replace x "'" "''")) G1 H1 _ s1 t1 h1 rfl p⟩
  obtain ⟨t0, hm, h0, ht⟩ := k.ex
  refine ⟨fun pins s0 J0 r0 hr => ?_⟩
  obtain ⟨er, hT⟩ := hr
  subst er
  refine (J.of (G := gT X.prog X.w T) ?_) r0 ⟨rfl, hT⟩
  refine PySem.Call_method2 hbase hst hline (wpAny_mono (PySem.wpAny_toks (A1.run pins r0 J0)) (fun v s1 q => ?_) fun _ _ z => z.2)
  obtain ⟨hk, v', H1, J1, r1, e1, q1⟩ := q
  subst e1
  obtain ⟨tx, rfl⟩ := r1
  have lt : @LT.lt Nat _ t0 s1.toks := Nat.lt_of_lt_of_le ht (Nat.le_trans hT hk)
  have n0 : s1.toks ≠ 0 := Nat.ne_of_gt (Nat.lt_of_le_of_lt (Nat.zero_le _) lt)
  refine ⟨"str", _, PySem.F.plainAttrs_str, PySem.F.slot_str_replace, PySem.F.type_str_replace, typeIs_str _ _ _, (fun _ e => nomatch e), Calls.callWith_builtin rfl (Calls.evalArgs_plain (Calls.spliced_cons ?_))⟩
  refine ld_glob J1 hg hm (Calls.spliced_cons ?_)
  refine wpAny_BinOp (ld_glob J1 hg hm (ld_glob J1 hg hm (PySem.P.add_str ?_)))
  refine ⟨Nat.le_of_ble_eq_true (by decide +kernel), Calls.spliced_nil ?_⟩
  exact PySem.SC.replace h0 n0 (Nat.ne_of_lt lt) (by decide) (q_len hz) fun t' k => ⟨.str (Txt.replace x "'" "''"), H1, J1.tok k, ⟨t', rfl⟩, q1⟩
theorem gt_replU (k : Quo X "QUOTE" "'" T) (hg : Gl X "QUOTE") (hz : x.length ≤ 100000) (ho : PV X I o δ (.str x)) (p : P (.str (Txt.replace x "''" "'")) I)
    (hst : starEach [.BinOp (.Name "QUOTE" p2) .Add (.Name "QUOTE" p3) p4, .Name "QUOTE" p1] X.env = [(false, eval (.BinOp (.Name "QUOTE" p2) .Add (.Name "QUOTE" p3) p4) X.env), (false, eval (.Name "QUOTE" p1) X.env)] := by rfl)
    (hbase : attributeBase o "replace" X.env (eval o X.env) = eval o X.env := by rfl) (hline : (apos.endLine == pos.line) = true := by rfl) :
    GE X (gT X.prog X.w T) W R (.Call (.Attribute o "replace" apos) [.BinOp (.Name "QUOTE" p2) .Add (.Name "QUOTE" p3) p4, .Name "QUOTE" p1] [] pos) δ I P := fun σ G H Q hE s hI qx q => by
  have A1 := ho W R (fun z J => z = .str x ∧ J = I) ⟨rfl, rfl⟩ σ G H (fun v H1 => v = .str x ∧ Q (.str (Txt.replace x "''" "'")) H1) hE s hI qx fun v d G1 H1 I1 s1 t1 h1 r1 ⟨ed, ei⟩ => by
    subst ed ei
    exact ⟨r1, q _ (.str (Txt.replace x "''" "'")) G1 H1 _ s1 t1 h1 rfl p⟩
  obtain ⟨t0, hm, h0, ht⟩ := k.ex
  refine ⟨fun pins s0 J0 r0 hr => ?_⟩
  obtain ⟨er, hT⟩ := hr
  subst er
  refine (J.of (G := gT X.prog X.w T) ?_) r0 ⟨rfl, hT⟩
  refine PySem.Call_method2 hbase hst hline (wpAny_mono (PySem.wpAny_toks (A1.run pins r0 J0)) (fun v s1 q => ?_) fun _ _ z => z.2)
  obtain ⟨hk, v', H1, J1, r1, e1, q1⟩ := q
  subst e1
  obtain ⟨tx, rfl⟩ := r1
  have lt : @LT.lt Nat _ t0 s1.toks := Nat.lt_of_lt_of_le ht (Nat.le_trans hT hk)
  have n0 : s1.toks ≠ 0 := Nat.ne_of_gt (Nat.lt_of_le_of_lt (Nat.zero_le _) lt)
  refine ⟨"str", _, PySem.F.plainAttrs_str, PySem.F.slot_str_replace, PySem.F.type_str_replace, typeIs_str _ _ _, (fun _ e => nomatch e), Calls.callWith_builtin rfl (Calls.evalArgs_plain (Calls.spliced_cons ?_))⟩
  refine wpAny_BinOp (ld_glob J1 hg hm (ld_glob J1 hg hm (PySem.P.add_str ?_)))
  refine ⟨Nat.le_of_ble_eq_true (by decide +kernel), Calls.spliced_cons (ld_glob (J1.tok (s1.toks + 1)) hg hm (Calls.spliced_nil ?_))⟩
  exact PySem.SC.replace n0 h0 (Nat.ne_of_gt lt) (by decide) (q_len1 hz) fun t' k => ⟨.str (Txt.replace x "''" "'"), H1, J1.tok k, ⟨t', rfl⟩, q1⟩
end
end GL
set_option Elab.async false
set_option linter.all false
set_option maxRecDepth 100000
set_option maxHeartbeats 1000000
namespace LK
open PySem PySem.Spec PyProof.Rows L2 DL GL
def QuoM (mg : Str → Option Value) (T : Nat) : Prop := ∃ t : Tok, mg "QUOTE" = some (.str "'" t) ∧ t ≠ 0 ∧ t < T
theorem QuoM.x {X : Cx} {T : Nat} (h : QuoM X.mg T) : Quo X "QUOTE" "'" T := ⟨h⟩
def sQEnd2 {K : PySem.W.Frag} : Spec K := fun I ds P _ => ∃ (z : Str) (i : Nat), ds = [.str z, .int i] ∧ z.length ≤ 1000 ∧
  ((∃ (x r : List Nat), z.cps.toList.drop (i + 1) = dblQ x ++ 39 :: r ∧ r.head? ≠ some 39 ∧ P (.int ((i + 1 + (dblQ x).length + 1 : Nat) : Int)) I) ∨ (39 ∉ z.cps.toList.drop (i + 1) ∧ P .non I))
def sTokAt2 {K : PySem.W.Frag} : Spec K := fun I ds P _ => ∃ (z : Str) (i : Nat) (t : Tk) (r : List Nat), ds = [.str z, .int i] ∧ z.length ≤ 1000 ∧ z.cps.toList.drop i = t.cps ++ r ∧ t.Ok ∧ t.Stop r ∧ P (.tup [t.d (i + 1), .int ((i + t.cps.length : Nat) : Int)]) I
def sToks2 {K : PySem.W.Frag} : Spec K := fun I ds P _ => ∃ (z : Str) (ts : List D), ds = [.str z] ∧ z.length ≤ 1000 ∧ Lay 0 z.cps.toList ts ∧ P (.lst (ts ++ [tkD "end" "" (z.length + 1)])) I
def sRdInit2 {K : PySem.W.Frag} : Spec K := fun I ds P _ => ∃ (x dx : Addr) (J : Iv K) (z : Str) (n : Nat) (ts : List D), ds = [.adr x, .str z, .int n] ∧ I = J.and (iIns K x (cRd K) dx []) ∧ z.length ≤ 1000 ∧ Lay 0 z.cps.toList ts ∧ P .non (J.and (iRd K x dx n (ts ++ [tkD "end" "" (z.length + 1)]) 0))
theorem cut2_eq {z : Str} {k : Nat} {r : List Nat} (h : z.cps.toList.drop k = 39 :: r) : decide (cutS z (some (k : Int)) (some ((k + 2 : Nat) : Int)) = "''") = decide (r.head? = some 39) := by
  have hl : k ≤ z.length := by
    have := drop_lt h
    rw [← str_len] at this
    omega
  have e := cutS_take (z := z) (a := k) (n := 2) hl
  rw [h] at e
  have e2 : (("''" : Str)).cps.toList = [39, 39] := by decide
  cases r with
  | nil =>
    refine (decide_eq_false fun q => ?_).trans (decide_eq_false (by simp)).symm
    rw [q, e2] at e
    simp at e
  | cons a b =>
    by_cases ha : a = 39
    · subst ha
      refine (decide_eq_true (str_ext ?_)).trans (decide_eq_true (by simp)).symm
      rw [e, e2]; rfl
    · refine (decide_eq_false fun q => ?_).trans (decide_eq_false (by simpa using ha)).symm
      rw [q, e2] at e
      simp at e
      exact ha e.symm
section
variable {P : Program} {w : World} {K : PySem.W.Frag} {mg : Str → Option Value} {base : Heap} {T : Nat}
theorem D_qEnd2 (E : Env P w K mg base) : Def P w K mg base "quoted_end" 1 ["row", "start"] [] sQEnd2 := mk_f_quoted_end E fun fd F => by
  refine fn_d F sc_f_quoted_end (fun I ds P R h => by obtain ⟨z, i, rfl, _⟩ := h; rfl) fun cdv A outer s H EE hr tk po I ds Q R h => ?_
  obtain ⟨z, i, rfl, hz, hc⟩ := h
  have nd := sc_f_quoted_end.nd
  have hu := hr.units
  have hzs : z.length ≤ sizeLine := by rw [sizeLine_eq]; omega
  have hlen : z.cps.toList.length = z.length := (str_len z).symm
  refine s_cons (s_setP (d := .int ((i + 1 : Nat) : Int)) 2 (PV.is (pv_op op_add (pv_v (d := .int i) 1) pv_int p2_add) (by simp)) ?_)
  rcases hc with ⟨x, r, hd, hh, q⟩ | ⟨h39, q⟩
  · refine s_cons (s_whileP po (fun n δ' I' => ∃ (k : Nat) (y : List Nat), z.cps.toList.drop k = dblQ y ++ 39 :: r ∧ k + (dblQ y).length = i + 1 + (dblQ x).length ∧ n = y.length ∧ I' = I ∧ δ' = [some (.str z), some (.int i), some (.int k)]) x.length ⟨i + 1, x, hd, rfl, rfl, rfl, rfl⟩ ?_)
    rintro n δ' I' ⟨k, y, hk, hs, rfl, rfl, rfl⟩
    have hkl : k < z.length := by
      have := congrArg List.length hk
      rw [List.length_drop, List.length_append, List.length_cons, hlen] at this
      omega
    refine ⟨true, PVT.is (pt_cmp op_lt (pv_v (d := .int k) 2) (pv_len E.b_len (pv_v (d := .str z) 0) (by omega)) p2_lt) (by simp; omega), fun _ => ?_, fun h => nomatch h⟩
    cases y with
    | nil =>
      have hk2 : z.cps.toList.drop k = 39 :: r := hk
      obtain ⟨e1, _⟩ := at_drop hk2
      refine s_one (s_ifF (PVT.is (pt_ne hu (pv_ix ix_str (pv_v (d := .str z) 0) (pv_v (d := .int k) 2) (p2_ixS hzs (atI_n e1))) (pv_gstr E.c_QUOTE) trivial) (by rw [rdq_one]; simp)) ?_)
      refine s_one (s_ifF (PVT.is (pt_eq hu (pv_slS (h := some ((k + 2 : Nat) : Int)) (pv_v (d := .str z) 0) (vo_some (pv_v (d := .int k) 2)) (vo_some (PV.is (pv_op op_add (pv_v (d := .int k) 2) pv_int p2_add) (by simp))) (by omega)) (PV.is (pv_op op_addT (pv_gstr E.c_QUOTE) (pv_gstr E.c_QUOTE) (p2_addT (by decide))) (congrArg D.str (by decide : ("'" : Str) ++ "'" = "''"))) trivial) ?_) ?_)
      · rw [cut2_eq hk2]
        exact decide_eq_false hh
      · have e3 : k + 1 = i + 1 + (dblQ x).length + 1 := by
          have : (dblQ ([] : List Nat)).length = 0 := rfl
          omega
        exact s_one (s_retP (d := .int ((i + 1 + (dblQ x).length + 1 : Nat) : Int)) (PV.is (pv_op op_add (pv_v (d := .int k) 2) pv_int p2_add) (by rw [← e3]; simp)) q)
    | cons c y =>
      rw [dblQ_cons] at hk hs
      by_cases hcq : c = 39
      · subst hcq
        rw [if_pos rfl] at hk hs
        have hk2 : z.cps.toList.drop k = 39 :: 39 :: (dblQ y ++ 39 :: r) := hk
        obtain ⟨e1, e2⟩ := at_drop hk2
        obtain ⟨_, e3⟩ := at_drop e2
        refine s_one (s_ifF (PVT.is (pt_ne hu (pv_ix ix_str (pv_v (d := .str z) 0) (pv_v (d := .int k) 2) (p2_ixS hzs (atI_n e1))) (pv_gstr E.c_QUOTE) trivial) (by rw [rdq_one]; simp)) ?_)
        refine s_one (s_ifT (PVT.is (pt_eq hu (pv_slS (h := some ((k + 2 : Nat) : Int)) (pv_v (d := .str z) 0) (vo_some (pv_v (d := .int k) 2)) (vo_some (PV.is (pv_op op_add (pv_v (d := .int k) 2) pv_int p2_add) (by simp))) (by omega)) (PV.is (pv_op op_addT (pv_gstr E.c_QUOTE) (pv_gstr E.c_QUOTE) (p2_addT (by decide))) (congrArg D.str (by decide : ("'" : Str) ++ "'" = "''"))) trivial) ?_) ?_)
        · rw [cut2_eq hk2]
          exact decide_eq_true rfl
        · refine s_one (s_augP 2 rfl pv_int ?_)
          exact ⟨y.length, by simp, k + 2, y, e3, by simp only [List.length_cons] at hs; omega, rfl, rfl, by simp⟩
      · rw [if_neg hcq] at hk hs
        have hk2 : z.cps.toList.drop k = c :: (dblQ y ++ 39 :: r) := hk
        obtain ⟨e1, e2⟩ := at_drop hk2
        refine s_one (s_ifT (PVT.is (pt_ne hu (pv_ix ix_str (pv_v (d := .str z) 0) (pv_v (d := .int k) 2) (p2_ixS hzs (atI_n e1))) (pv_gstr E.c_QUOTE) trivial) (by rw [rdq_one]; simp [hcq])) ?_)
        refine s_one (s_augP 2 rfl pv_int ?_)
        exact ⟨y.length, by simp, k + 1, y, e2, by simp only [List.length_cons] at hs; omega, rfl, rfl, by simp⟩
  · refine s_consI (fun δ' I' => I' = I ∧ ∃ o, δ' = [some (.str z), some (.int i), o]) (s_whileP po (fun n δ' I' => ∃ k : Nat, i + 1 ≤ k ∧ n = z.length - k ∧ I' = I ∧ δ' = [some (.str z), some (.int i), some (.int k)]) (z.length - (i + 1)) ⟨i + 1, Nat.le_refl _, rfl, rfl, rfl⟩ ?_) ?_
    · rintro n δ' I' ⟨k, hk, rfl, rfl, rfl⟩
      rcases Nat.lt_or_ge k z.length with hl | hl
      · refine ⟨true, PVT.is (pt_cmp op_lt (pv_v (d := .int k) 2) (pv_len E.b_len (pv_v (d := .str z) 0) (by omega)) p2_lt) (by simp; omega), fun _ => ?_, fun h => nomatch h⟩
        obtain ⟨c, hc⟩ : ∃ c, z.cps.toList[k]? = some c := ⟨z.cps.toList[k]'(by omega), List.getElem?_eq_getElem _⟩
        have cne : c ≠ 39 := fun e => h39 (by
          subst e
          refine List.mem_of_getElem? (i := k - (i + 1)) ?_
          rw [List.getElem?_drop, show i + 1 + (k - (i + 1)) = k by omega]
          exact hc)
        refine s_one (s_ifT (PVT.is (pt_ne hu (pv_ix ix_str (pv_v (d := .str z) 0) (pv_v (d := .int k) 2) (p2_ixS hzs (atI_n hc))) (pv_gstr E.c_QUOTE) trivial) (by rw [rdq_one]; simp [cne])) ?_)
        refine s_one (s_augP 2 rfl pv_int ?_)
        exact ⟨z.length - (k + 1), by omega, k + 1, by omega, rfl, rfl, by simp⟩
      · exact ⟨false, PVT.is (pt_cmp op_lt (pv_v (d := .int k) 2) (pv_len E.b_len (pv_v (d := .str z) 0) (by omega)) p2_lt) (by simp; omega), fun h => (nomatch h), fun _ => ⟨rfl, _, rfl⟩⟩
    · rintro δ' I' ⟨rfl, o, rfl⟩
      exact s_one (s_retP pv_non q)
end
end LK
set_option Elab.async false
set_option linter.all false
set_option maxRecDepth 100000
set_option maxHeartbeats 1000000
namespace LK
open PySem PySem.Spec PyProof.Rows L2 DL GL
theorem goodX_iff {x : Str} : goodX x = (decide ((x.length : Int) ≤ 40) && x.cps.toList.all fun c => decide (c ∈ SIGNS.cps.toList)) := by
  unfold goodX
  congr 1
  by_cases h : x.length ≤ 40
  · rw [decide_eq_true h, decide_eq_true (by omega)]
  · rw [decide_eq_false h, decide_eq_false (by omega)]
theorem cut_of {z : Str} {i n : Nat} {a r : List Nat} (h : z.cps.toList.drop i = a ++ r) (hn : n = a.length) : (cutS z (some (i : Int)) (some ((i + n : Nat) : Int))).cps.toList = a := by
  subst hn
  cases hi : decide (i ≤ z.length) with
  | true =>
    rw [cutS_take (of_decide_eq_true hi), h, List.take_left']
    rfl
  | false =>
    have hi2 : z.length < i := by have := of_decide_eq_false hi; omega
    have e : z.cps.toList.length = z.length := (str_len z).symm
    have e2 : z.cps.toList.drop i = [] := List.drop_eq_nil_of_le (by omega)
    rw [e2] at h
    have e3 : a = [] := by
      cases a with
      | nil => rfl
      | cons c b => cases h
    subst e3
    unfold cutS
    rw [HT.sIx_nat, HT.sIx_nat]
    show (z.cps.toList.drop _).take _ = []
    rw [List.length_nil, Nat.add_zero, Nat.sub_self, List.take_zero]
section
variable {P : Program} {w : World} {K : PySem.W.Frag} {mg : Str → Option Value} {base : Heap} {T : Nat}
theorem DG_tokAt (E : Env P w K mg base) (qm : QuoM mg T) : DefG P w K mg base (gT P w T) "token_at" 2 ["row", "start"] [] sTokAt2 := by
  obtain ⟨fd, F⟩ := E.has _ in_f_token_at
  have F : FunD K "token_at" "token_at" (defArgs f_token_at) (defBody f_token_at) (defScope f_token_at) [] [] (He.ga K "token_at") fd := F
  refine DefG.of E.g_token_at F ?_ fun _ _ _ _ _ _ us hl => match us, hl with | [_, _], _ => rfl
  refine fn_g F sc_f_token_at (fun I ds P R h => by obtain ⟨z, i, t, r, rfl, _⟩ := h; rfl) fun cdv A outer s H EE hr tk po I ds Q R h => ?_
  obtain ⟨z, i, t, r, rfl, hz, hd, ok, st, q⟩ := h
  have nd := sc_f_token_at.nd
  have hu := hr.units
  have hr1 : Room 1 _ := hr
  have hzs : z.length ≤ sizeLine := by rw [sizeLine_eq]; omega
  have hlen : z.cps.toList.length = z.length := (str_len z).symm
  have dl : t.cps.length + r.length + i = z.length := by
    have h1 := congrArg List.length hd
    obtain ⟨c, cs, e, _⟩ := Tk.ne ok
    have h2 : i < z.cps.toList.length := drop_lt (c := c) (r := cs ++ r) (by rw [hd, e]; rfl)
    rw [List.length_drop, List.length_append, hlen] at h1
    omega
  -- from the first sign on
  have quo : ∀ (rest : List Nat), z.cps.toList.drop i = 39 :: rest → z.cps.toList[i]? = some 39 ∧ z.cps.toList.drop (i + 1) = rest := fun rest h => at_drop h
  cases t with
  | word v =>
    obtain ⟨hne, hsm⟩ := ok
    have hcp : (Tk.word v).cps = v.cps.toList := rfl
    rw [hcp] at hd dl q
    generalize hj : i + v.cps.toList.length = j at q
    have hij : i < j := by
      have : v.cps.toList.length ≠ 0 := fun e => hne (List.length_eq_zero_iff.mp e)
      omega
    have h3 : ∀ k, i ≤ k → k < j → ∃ c, z.cps.toList[k]? = some c ∧ c ∈ smallL := fun k h1 h2 => by
      have e : (z.cps.toList.drop i)[k - i]? = z.cps.toList[k]? := by rw [List.getElem?_drop, show i + (k - i) = k by omega]
      rw [hd, List.getElem?_append_left (by omega)] at e
      obtain ⟨c, hc⟩ : ∃ c, v.cps.toList[k - i]? = some c := ⟨v.cps.toList[k - i]'(by omega), List.getElem?_eq_getElem _⟩
      exact ⟨c, by rw [← e, hc], hsm c (List.mem_of_getElem? hc)⟩
    have h4 : ∀ c, z.cps.toList[j]? = some c → c ∉ smallL := fun c hc => by
      have e : (z.cps.toList.drop i)[j - i]? = z.cps.toList[j]? := by rw [List.getElem?_drop, show i + (j - i) = j by omega]
      rw [hd, List.getElem?_append_right (by omega), show j - i - v.cps.toList.length = 0 by omega] at e
      exact st c (by rw [← List.head?_eq_getElem?] at e; rw [e, hc])
    obtain ⟨c0, e0, m0⟩ := h3 i (Nat.le_refl _) hij
    have n0 : c0 ≠ 39 := fun e => by subst e; exact absurd m0 (by decide)
    have hjz : j ≤ z.length := by omega
    have hcut : cutS z (some (i : Int)) (some (j : Int)) = v := str_ext (by rw [← hj]; exact cut_of hd rfl)
    refine GB.of ?_
    refine s_cons (s_ifF (PVT.is (pt_eq hu (pv_ix ix_str (pv_v (d := .str z) 0) (pv_v (d := .int i) 1) (p2_ixS hzs (atI_n e0))) (pv_gstr E.c_QUOTE) trivial) (by rw [rdq_one]; simp [n0])) (s_nil ?_))
    refine s_cons (s_setP (d := .int i) 2 (pv_v (d := .int i) 1) ?_)
    refine s_consI (fun δ' I' => I' = I ∧ δ' = [some (.str z), some (.int i), some (.int j), none, none, none]) (s_whileP po (fun n δ' I' => ∃ k : Nat, i ≤ k ∧ k ≤ j ∧ n = j - k ∧ I' = I ∧ δ' = [some (.str z), some (.int i), some (.int k), none, none, none]) (j - i) ⟨i, by omega, by omega, rfl, rfl, rfl⟩ ?_) ?_
    · rintro n δ' I' ⟨k, g1, g2, rfl, rfl, rfl⟩
      rcases Nat.lt_or_ge k j with hk | hk
      · obtain ⟨c, e1, e2⟩ := h3 k g1 hk
        refine ⟨true, ptw (ww_andT (PVT.is (pt_cmp op_lt (pv_v (d := .int k) 2) (pv_len E.b_len (pv_v (d := .str z) 0) (by omega)) p2_lt) (by simp; omega)) (ww_and1 (PVT.is (pt_cmp op_signIn (pv_ix ix_str (pv_v (d := .str z) 0) (pv_v (d := .int k) 2) (p2_ixS hzs (atI_n e1))) (pv_gstr E.c_SMALL) p2_signIn) (decide_eq_true e2)))), fun _ => ?_, fun h => nomatch h⟩
        refine s_one (s_augP 2 rfl pv_int ?_)
        exact ⟨j - (k + 1), by omega, k + 1, by omega, by omega, rfl, rfl, by simp⟩
      · obtain rfl : k = j := by omega
        rcases Nat.lt_or_ge k z.length with hl | hl
        · obtain ⟨c, hc⟩ : ∃ c, z.cps.toList[k]? = some c := ⟨z.cps.toList[k]'(by omega), List.getElem?_eq_getElem _⟩
          exact ⟨false, ptw (ww_andT (PVT.is (pt_cmp op_lt (pv_v (d := .int k) 2) (pv_len E.b_len (pv_v (d := .str z) 0) (by omega)) p2_lt) (by simp; omega)) (ww_and1 (PVT.is (pt_cmp op_signIn (pv_ix ix_str (pv_v (d := .str z) 0) (pv_v (d := .int k) 2) (p2_ixS hzs (atI_n hc))) (pv_gstr E.c_SMALL) p2_signIn) (decide_eq_false (h4 c hc))))), fun h => (nomatch h), fun _ => ⟨rfl, rfl⟩⟩
        · exact ⟨false, ptw (ww_andF (PVT.is (pt_cmp op_lt (pv_v (d := .int k) 2) (pv_len E.b_len (pv_v (d := .str z) 0) (by omega)) p2_lt) (by simp; omega))), fun h => (nomatch h), fun _ => ⟨rfl, rfl⟩⟩
    · rintro δ' I' ⟨rfl, rfl⟩
      refine s_cons (s_ifT (PVT.is (pt_cmp op_gt (pv_v (d := .int j) 2) (pv_v (d := .int i) 1) p2_gt) (by simp; omega)) ?_)
      exact s_one (s_retP (pv_tup (va_cons (PV.is (pv_tup (va_cons (pv_gstr E.c_WORD) (va_cons (pv_slS (pv_v (d := .str z) 0) (vo_some (pv_v (d := .int i) 1)) (vo_some (pv_v (d := .int j) 2)) (by omega)) (va_cons (pv_op op_add (pv_v (d := .int i) 1) pv_int p2_add) va_nil)))) (show D.tup [.str "word", .str (cutS z (some (i : Int)) (some (j : Int))), .int ((i : Int) + 1)] = (Tk.word v).d (i + 1) from by rw [hcut]; unfold Tk.d tkD; simp [Tk.sort, Tk.txt])) (va_cons (pv_v (d := .int j) 2) va_nil))) q)
  | sign c =>
    obtain ⟨n1, n2, n3⟩ := ok
    have hcp : (Tk.sign c).cps = [c] := rfl
    rw [hcp] at hd dl q
    obtain ⟨h3, _⟩ := at_drop (c := c) (r := r) hd
    have hiz : i < z.length := by simp at dl; omega
    refine GB.of ?_
    refine s_cons (s_ifF (PVT.is (pt_eq hu (pv_ix ix_str (pv_v (d := .str z) 0) (pv_v (d := .int i) 1) (p2_ixS hzs (atI_n h3))) (pv_gstr E.c_QUOTE) trivial) (by rw [rdq_one]; simp [n2])) (s_nil ?_))
    refine s_cons (s_setP (d := .int i) 2 (pv_v (d := .int i) 1) ?_)
    refine s_consI (fun δ' I' => I' = I ∧ δ' = [some (.str z), some (.int i), some (.int i), none, none, none]) (s_whileP po (fun n δ' I' => I' = I ∧ δ' = [some (.str z), some (.int i), some (.int i), none, none, none]) 0 ⟨rfl, rfl⟩ ?_) ?_
    · rintro n δ' I' ⟨rfl, rfl⟩
      exact ⟨false, ptw (ww_andT (PVT.is (pt_cmp op_lt (pv_v (d := .int i) 2) (pv_len E.b_len (pv_v (d := .str z) 0) (by omega)) p2_lt) (by simp; omega)) (ww_and1 (PVT.is (pt_cmp op_signIn (pv_ix ix_str (pv_v (d := .str z) 0) (pv_v (d := .int i) 2) (p2_ixS hzs (atI_n h3))) (pv_gstr E.c_SMALL) p2_signIn) (decide_eq_false n1)))), fun h => (nomatch h), fun _ => ⟨rfl, rfl⟩⟩
    · rintro δ' I' ⟨rfl, rfl⟩
      have em : decide (c ∈ ((":;" : Str)).cps.toList) = decide (c = 58 ∨ c = 59) := by
        have e1 : ((":;" : Str)).cps.toList = [58, 59] := by decide
        rw [e1]; simp
      refine s_cons (s_ifF (PVT.is (pt_cmp op_gt (pv_v (d := .int i) 2) (pv_v (d := .int i) 1) p2_gt) (by simp)) (s_nil ?_))
      refine s_one (s_retP (pv_tup (va_cons (PV.is (pv_tup (va_cons (PV.is (pv_if (z := .str (if decide (c = 58 ∨ c = 59) = true then "mark" else "wrong")) (PVT.is (pt_cmp op_signIn (pv_ix ix_str (pv_v (d := .str z) 0) (pv_v (d := .int i) 1) (p2_ixS hzs (atI_n h3))) pv_str p2_signIn) em) (fun e => by rw [if_pos e]; exact pv_gstr E.c_MARK) (fun e => by rw [if_neg (by rw [e]; exact Bool.false_ne_true)]; exact pv_gstr E.c_WRONG)) (show D.str (if decide (c = 58 ∨ c = 59) = true then "mark" else "wrong") = .str (Tk.sign c).sort from by unfold Tk.sort; simp)) (va_cons (pv_ix ix_str (pv_v (d := .str z) 0) (pv_v (d := .int i) 1) (p2_ixS hzs (atI_n h3))) (va_cons (pv_op op_add (pv_v (d := .int i) 1) pv_int p2_add) va_nil)))) (show D.tup [.str (Tk.sign c).sort, .str ⟨#[c]⟩, .int ((i : Int) + 1)] = (Tk.sign c).d (i + 1) from by unfold Tk.d tkD; simp [Tk.txt])) (va_cons (PV.is (pv_op op_add (pv_v (d := .int i) 1) pv_int p2_add) (show D.int ((i : Int) + 1) = .int ((i + [c].length : Nat) : Int) from by simp)) va_nil))) q)
  | opn v =>
    subst st
    have hcp : (Tk.opn v).cps = 39 :: v := rfl
    rw [hcp] at hd dl q
    rw [List.append_nil] at hd
    obtain ⟨h3, h4⟩ := quo _ hd
    have e5 : i + (39 :: v).length = z.length := by simp at dl ⊢; omega
    rw [e5] at q
    refine GB.of ?_
    refine s_cons (s_ifT (PVT.is (pt_eq hu (pv_ix ix_str (pv_v (d := .str z) 0) (pv_v (d := .int i) 1) (p2_ixS hzs (atI_n h3))) (pv_gstr E.c_QUOTE) trivial) (by decide)) ?_)
    refine s_cons (s_ifNn (en_named 2 ((pv_def (d := .non) (D_qEnd2 E) hr1 (va_cons (pv_v (d := .str z) 0) (va_cons (pv_v (d := .int i) 1) va_nil)) (fun P pp => ⟨z, i, rfl, hz, .inr ⟨by rw [h4]; exact ok, pp⟩⟩)).ev ⟨fun _ => ?_, fun h => (nomatch h)⟩)))
    exact s_one (s_retP (pv_tup (va_cons (PV.is (pv_tup (va_cons (pv_gstr E.c_WRONG) (va_cons pv_str (va_cons (pv_op op_add (pv_v (d := .int i) 1) pv_int p2_add) va_nil)))) (show D.tup [.str "wrong", .str "", .int ((i : Int) + 1)] = (Tk.opn v).d (i + 1) from by unfold Tk.d tkD; simp [Tk.sort, Tk.txt])) (va_cons (pv_len E.b_len (pv_v (d := .str z) 0) (by omega)) va_nil))) q)
  | text x =>
    have hcp : (Tk.text x).cps = 39 :: (dblQ x.cps.toList ++ [39]) := rfl
    rw [hcp] at hd dl q
    have hd2 : z.cps.toList.drop i = 39 :: (dblQ x.cps.toList ++ 39 :: r) := by rw [hd]; simp
    obtain ⟨h3, h4⟩ := quo _ hd2
    generalize hn : (dblQ x.cps.toList).length = n at *
    have e5 : i + (39 :: (dblQ x.cps.toList ++ [39])).length = i + 1 + n + 1 := by simp [hn]; omega
    rw [e5] at q
    have hy : (cutS z (some ((i + 1 : Nat) : Int)) (some ((i + 1 + n : Nat) : Int))).cps.toList = dblQ x.cps.toList := cut_of h4 hn.symm
    generalize hyy : cutS z (some ((i + 1 : Nat) : Int)) (some ((i + 1 + n : Nat) : Int)) = y at hy
    have hyl : y.length ≤ 1000 := by rw [str_len, hy, hn]; simp at dl; omega
    have hxl : x.length ≤ 1000 := by
      have h6 := dblQ_ge x.cps.toList
      rw [str_len, hy] at hyl
      rw [str_len]
      omega
    refine g_cons (g_ifP (k := true) (PVT.is (pt_eq hu (pv_ix ix_str (pv_v (d := .str z) 0) (pv_v (d := .int i) 1) (p2_ixS hzs (atI_n h3))) (pv_gstr E.c_QUOTE) trivial) (by decide)) (fun _ => ?_) (fun h => nomatch h))
    refine g_con (s_ifNn (en_named 2 ((pv_def (d := .int ((i + 1 + n + 1 : Nat) : Int)) (D_qEnd2 E) hr1 (va_cons (pv_v (d := .str z) 0) (va_cons (pv_v (d := .int i) 1) va_nil)) (fun P pp => ⟨z, i, rfl, hz, .inl ⟨x.cps.toList, r, h4, st, by rw [hn]; exact pp⟩⟩)).ev ⟨fun h => (nomatch h), fun _ => s_nil ?_⟩)))
    refine g_cons (g_set 3 (gt_replU (x := y) (QuoM.x qm) (by rfl) (by omega) (PV.is (pv_slS (l := some ((i + 1 : Nat) : Int)) (h := some ((i + 1 + n : Nat) : Int)) (pv_v (d := .str z) 0) (vo_some (PV.is (pv_op op_add (pv_v (d := .int i) 1) pv_int p2_add) (by simp))) (vo_some (PV.is (pv_op op_sub (pv_v (d := .int ((i + 1 + n + 1 : Nat) : Int)) 2) pv_int p2_sub) (show D.int _ = D.int _ from by congr 1; omega))) (by omega)) (by rw [hyy])) ?_))
    rw [repl_und hy]
    refine GB.of ?_
    refine s_cons (s_setP (d := .bl (goodX x)) 4 (PV.is (pv_andB (k := decide ((x.length : Int) ≤ 40)) (l := x.cps.toList.all fun c => decide (c ∈ SIGNS.cps.toList)) (PV.is (pv_cmp op_le (pv_len E.b_len (pv_v (d := .str x) 3) (by omega)) (pv_gint E.c_MOST_SIGNS) p2_le) rfl) fun hle => pv_one ?_) (by rw [goodX_iff])) ?_)
    · have h9 : x.length ≤ 40 := by have := of_decide_eq_true hle; omega
      have el : D.lst ((x.cps.toList.map fun c => D.str ⟨#[c]⟩).map fun d => .bl (match d with | .str s => decide (s.cps.toList.headD 0 ∈ SIGNS.cps.toList) | _ => false)) = .lst ((x.cps.toList.map fun c => decide (c ∈ SIGNS.cps.toList)).map D.bl) := by
        rw [List.map_map, List.map_map]; rfl
      refine PV.is (pv_cb (cr_all rfl) E.b_all (va_cons (PV.is ?_ el) va_nil) pn_all) ?_
      · refine pv_lcMap _ [("sign", 5)] (fun d => [some (.str z), some (.int i), some (.int ((i + 1 + n + 1 : Nat) : Int)), some (.str x), none, some d]) (vi_str (pv_v (d := .str x) 3)) (by rw [List.length_map, ← str_len]; exact Nat.le_trans h9 (by decide)) (fun d s H C cl fp => bind_name 5) fun d hd J s H C cl fp => ?_
        obtain ⟨c, hc, rfl⟩ := List.mem_map.mp hd
        exact pv_cmp op_signIn (pv_v 5) (pv_gstr E.c_SIGNS) p2_signIn
      · rw [List.all_map]
        rfl
    exact s_one (s_retP (pv_tup (va_cons (PV.is (pv_tup (va_cons (PV.is (pv_if (z := .str (if goodX x = true then "text" else "wrong")) (pt_v (pv_v (d := .bl (goodX x)) 4)) (fun e => by rw [if_pos e]; exact pv_gstr E.c_TEXT) (fun e => by rw [if_neg (by rw [e]; exact Bool.false_ne_true)]; exact pv_gstr E.c_WRONG)) (show D.str (if goodX x = true then "text" else "wrong") = .str (Tk.text x).sort from rfl)) (va_cons (pv_v (d := .str x) 3) (va_cons (pv_op op_add (pv_v (d := .int i) 1) pv_int p2_add) va_nil)))) (show D.tup [.str (Tk.text x).sort, .str x, .int ((i : Int) + 1)] = (Tk.text x).d (i + 1) from by unfold Tk.d tkD; simp [Tk.txt])) (va_cons (pv_v (d := .int ((i + 1 + n + 1 : Nat) : Int)) 2) va_nil))) q)
end
end LK
set_option Elab.async false
set_option linter.all false
set_option maxRecDepth 100000
set_option maxHeartbeats 4000000
namespace GL
open PySem PySem.Spec PyProof.Rows L2 DL
section
variable {X : Cx} {g : Gm X.prog X.w} {W : WX} {R : Rx X.K} {o a b c e : Expr} {es : List Expr} {δ : DEnv} {I : Iv X.K} {κ : Ko X.K} {P : D → Iv X.K → Prop} {pos p q' : Pos} {f : Str} {C : Addr}
theorem g_fld (cl : Cls X.K C) (n : NoAttr X.K C f) (h : GE X g W (κ.r δ) e δ I fun d I1 => ∃ (k : Rc X.K) (x dx : Addr) (fs : List (Str × D)), I1 = k.fill (iIns X.K x C dx fs) ∧ PV X I1 o δ (.adr x) ∧ fs.length < 1000 ∧ κ.nx δ (k.fill (iIns X.K x C dx (putA f d fs))))
    (hs : swapsWith e (some (.Attribute o f q')) pos.line X.env = pure false := by rfl) : G1 X g W (.Assign [.Attribute o f q'] e pos) δ I κ := fun σ G H E hE s hI kk =>
  have A1 := h σ G H (fun y H1 => wpE X o σ H1 fun x H2 => ∃ a dx fs, x = .ref a ∧ H2 a = some (.ins C dx fs) ∧ fs.length < 1000 ∧ E.nx σ (upd H2 a (.ins C dx (putF f y fs)))) hE s hI (kk.kx hE) fun v d1 G1 H1 I1 s1 t1 h1 r1 ⟨k, x, dx, fs, ei, ho, hl, nx⟩ => by
    subst ei
    refine ho W (κ.r δ) (fun z J => z = .adr x ∧ J = k.fill (iIns X.K x C dx fs)) ⟨rfl, rfl⟩ σ G1 H1 _ (hE.mono s1) t1 h1 ((kk.kx hE).mono s1) fun v2 d2 G2 H2 I2 s2 t2 h2 r2 ⟨ed2, ei2⟩ => ?_
    subst ed2 ei2
    obtain ⟨vs, h3, h4, h5⟩ := h2.ins
    refine ⟨x, dx, vs, r2, h3, by rw [h4.len]; exact hl, ?_⟩
    exact kk.nx δ σ G2 _ _ (s1.trans s2) (same_upd t2 h5) (h2.insSet (r1.mono s2) h3 h4) (hE.mono (s1.trans s2)) nx
  ⟨fun pins s0 J0 r0 hr0 => plainObj_wpAny_Assign_Attribute ((A1.run pins s0 J0).thn hr0 fun u r1 s1 hr1 ⟨y, H1, J1, ry, q1⟩ => of2 (Q := fun _ s' => SP X pins E .next s') (k := fun ov => setAttr ov f u) (thn (q1.run pins s1 J1) fun ov s2 ⟨x, H2, J2, rx, a, dx, fs, ex, ea, l, q2⟩ => by
    subst ex
    obtain rfl : ov = Value.ref a := rx
    exact setattr_ok J2 ea cl n l ry fun s3 J3 => ⟨σ, _, J3, q2⟩) hr1) hs⟩
theorem g_forT {α : Type} {xs : List α} {gg : α → D} {tg iter : Expr} {body : List Stmt} (po : PassesOwn (model X.prog X.w) X.A X.env X.xe) (hi : PVI X I tg iter δ (xs.map gg)) (Nv : List α → DEnv → Iv X.K → Prop) (h0 : Nv [] δ I)
    (step : ∀ p x r δ' I', xs = p ++ x :: r → Nv p δ' I' → ∃ δ'' vs, BindD X tg (gg x) δ' δ'' vs ∧ GB X g W body δ'' I' { κ with nx := Nv (p ++ [x]), ct := Nv (p ++ [x]), bk := κ.nx }) (fin : ∀ δ' I', Nv xs δ' I' → κ.nx δ' I')
    (hc : X.calm = true := by rfl) (hs : ∀ x, foldedSetIterable iter X.env x = pure x := by intro _; rfl) : G1 X g W (.For tg iter body [] pos) δ I κ :=
  g_for po (hi W (κ.r δ) _ ⟨fun i => Nv (xs.take i), h0, fun i d δ' I' hd nv => by
    obtain ⟨x, hx, rfl⟩ := get_map hd
    have hl := (List.getElem?_eq_some_iff.mp hx).1
    have e : xs = xs.take i ++ x :: xs.drop (i + 1) := by
      rw [← (List.getElem?_eq_some_iff.mp hx).2, List.getElem_cons_drop hl, List.take_append_drop]
    obtain ⟨δ2, vs, b, q⟩ := step _ x _ δ' I' e nv
    rw [← take_snoc hx] at q
    exact ⟨δ2, vs, b, q⟩, fun δ' I' nv => fin δ' I' (by rw [List.length_map, List.take_length] at nv; exact nv)⟩) hc hs
theorem gb_drop {sts : List Stmt} {J : Iv X.K} (h : GB X g W sts δ I κ) : GB X g W sts δ (I.and J) κ := fun σ G H E hE s hI k => h σ G H E hE s hI.left k
theorem gb_dropX {sts : List Stmt} (h : GB X g W sts δ I { κ with ex := fun C fs δ' I' => κ.ex C fs δ' I' ∨ ∃ I'' J, I' = I''.and J ∧ κ.ex C fs δ' I'' }) : GB X g W sts δ I κ := fun σ G H E hE s hI k =>
  h σ G H E hE s hI ⟨k.nx, k.rt, k.bk, k.ct, fun C dd fs l δ' σ' G' H' I' s1 t1 h1 r q hd p => p.elim (k.ex C dd fs l δ' σ' G' H' I' s1 t1 h1 r q hd) fun ⟨I'', J, ei, p⟩ => k.ex C dd fs l δ' σ' G' H' I'' s1 t1 (by subst ei; exact h1.left) r q hd p⟩
end
end GL
set_option Elab.async false
set_option linter.all false
set_option maxRecDepth 100000
set_option maxHeartbeats 1000000
namespace LK
open PySem PySem.Spec PyProof.Rows L2 DL GL
section
variable {P : Program} {w : World} {K : PySem.W.Frag} {mg : Str → Option Value} {base : Heap} {T : Nat}
theorem DG_toks (E : Env P w K mg base) (qm : QuoM mg T) : DefG P w K mg base (gT P w T) "tokens_of" 3 ["row"] [] sToks2 := by
  obtain ⟨fd, F⟩ := E.has _ in_f_tokens_of
  have F : FunD K "tokens_of" "tokens_of" (defArgs f_tokens_of) (defBody f_tokens_of) (defScope f_tokens_of) [] [] (He.ga K "tokens_of") fd := F
  refine DefG.of E.g_tokens_of F ?_ fun _ _ _ _ _ _ us hl => match us, hl with | [_], _ => rfl
  refine fn_g F sc_f_tokens_of (fun I ds P R h => by obtain ⟨z, ts, rfl, _⟩ := h; rfl) fun cdv A outer s H EE hr tk po I ds Q R h => ?_
  obtain ⟨z, ts, rfl, hz, ht, q⟩ := h
  have nd := sc_f_tokens_of.nd
  have hu := hr.units
  have hr2 : Room 2 _ := hr
  have hzs : z.length ≤ sizeLine := by rw [sizeLine_eq]; omega
  have hlen : z.cps.toList.length = z.length := (str_len z).symm
  have htl := lay_len ht
  refine g_con (s_set 1 (ev_lstM' va_nil (by decide) fun p => ?_))
  refine g_con (s_setP (d := .int (0 : Nat)) 2 pv_int ?_)
  refine g_cons (g_while po (fun n δ' I' => ∃ (i : Nat) (fs rs : List D) (r : List Nat) (o : Option D), i ≤ z.length ∧ z.cps.toList.drop i = r ∧ Lay i r rs ∧ ts = fs ++ rs ∧ fs.length ≤ i ∧ n = z.length - i ∧ I' = I.and (iLst K p fs) ∧ δ' = [some (.str z), some (.adr p), some (.int i), o]) z.length ⟨0, [], ts, _, none, by omega, rfl, ht, rfl, by simp, rfl, rfl, rfl⟩ ?_)
  rintro n δ' I' ⟨i, fs, rs, r, o, hi, hd, hl, rfl, hfl, rfl, rfl, rfl⟩
  cases hl with
  | done =>
    have e : i = z.length := by
      have := congrArg List.length hd
      rw [List.length_drop, hlen] at this
      simp at this
      omega
    subst e
    refine GT.of (PVT.ev (b := false) (PVT.is (pt_cmp op_lt (pv_w (d := .int z.length) 2 rfl) (pv_len E.b_len (pv_w (d := .str z) 0 rfl) (by omega)) p2_lt) (by simp)) ?_)
    rw [if_neg Bool.false_ne_true]
    refine GB.of ?_
    refine s_cons (s_append (.r I .here) (pv_w (d := .adr p) 1 rfl) rfl ((PV.is (pv_tup (va_cons (pv_gstr E.c_END) (va_cons pv_str (va_cons (pv_op op_add (pv_len E.b_len (pv_w (d := .str z) 0 rfl) (by omega)) pv_int p2_add) va_nil)))) (show D.tup [.str "end", .str "", .int ((z.length : Int) + 1)] = tkD "end" "" (z.length + 1) from by unfold tkD; simp)).ev ⟨rfl, by omega, ?_⟩))
    refine sx_freezeL (j := 1) rfl ?_
    rw [List.append_nil] at q
    exact s_one (s_retP (pv_w 1 rfl) q)
  | @space _ r' _ h =>
    obtain ⟨e, hd2⟩ := at_drop hd
    have hk : i < z.length := by
      have := drop_lt hd
      omega
    refine GT.of (PVT.ev (b := true) (PVT.is (pt_cmp op_lt (pv_w (d := .int i) 2 rfl) (pv_len E.b_len (pv_w (d := .str z) 0 rfl) (by omega)) p2_lt) (by simp; omega)) ?_)
    rw [if_pos rfl]
    refine GB.of ?_
    refine s_one (s_ifT (PVT.is (pt_eq hu (pv_ix ix_str (pv_w (d := .str z) 0 rfl) (pv_w (d := .int i) 2 rfl) (p2_ixS hzs (atI_n e))) pv_str trivial) (by decide)) ?_)
    refine s_one (s_augP 2 rfl pv_int ?_)
    exact ⟨z.length - (i + 1), by omega, i + 1, fs, rs, r', o, by omega, hd2, h, rfl, by omega, rfl, rfl, by simp⟩
  | @tok _ r' ts' t ok st h =>
    obtain ⟨c, cs, ec, hc⟩ := Tk.ne ok
    have hd1 : z.cps.toList.drop i = c :: (cs ++ r') := by rw [hd, ec]; rfl
    obtain ⟨e, _⟩ := at_drop hd1
    have hk : i < z.length := by
      have := drop_lt hd1
      omega
    have hp := Tk.pos ok
    have hd2 : z.cps.toList.drop (i + t.cps.length) = r' := by
      rw [← List.drop_drop, hd, List.drop_left']
      rfl
    have hle : i + t.cps.length ≤ z.length := by
      have := congrArg List.length hd
      rw [List.length_drop, hlen, List.length_append] at this
      omega
    refine GT.of (PVT.ev (b := true) (PVT.is (pt_cmp op_lt (pv_w (d := .int i) 2 rfl) (pv_len E.b_len (pv_w (d := .str z) 0 rfl) (by omega)) p2_lt) (by simp; omega)) ?_)
    rw [if_pos rfl]
    refine g_one (g_ifP (k := false) (PVT.is (pt_eq hu (pv_ix ix_str (pv_w (d := .str z) 0 rfl) (pv_w (d := .int i) 2 rfl) (p2_ixS hzs (atI_n e))) pv_str trivial) (by rw [rds_one]; simp [hc])) (fun h => (nomatch h)) (fun _ => ?_))
    refine g_cons (g_asg (ge_def tk (DG_tokAt E qm) hr2 (GA.of (PVA.ev (va_cons (pv_w (d := .str z) 0 rfl) (va_cons (pv_w (d := .int i) 2 rfl) va_nil)) ⟨z, i, t, r', rfl, hz, hd, ok, st, _, _, bind_tup (ws := [3, 2]) (bs_cons (bind_name 3) (bs_cons (bind_name 2) bs_nil)), ?_⟩))))
    refine GB.of ?_
    refine s_one (s_append (.r I .here) (pv_w (d := .adr p) 1 rfl) rfl ((pv_w (d := t.d (i + 1)) 3 rfl).ev ⟨rfl, by omega, ?_⟩))
    exact ⟨z.length - (i + t.cps.length), by omega, i + t.cps.length, fs ++ [t.d (i + 1)], ts', r', some (t.d (i + 1)), hle, hd2, h, by simp, by simp; omega, rfl, rfl, rfl⟩
theorem MG_rdInit (E : Env P w K mg base) (qm : QuoM mg T) : ∃ fd, FnG P w K mg base (gT P w T) 4 (He.ma K (cRd K) "__init__") fd ["self", "text", "line"] (spD K sRdInit2) ∧ L2.Binds K fd ["self", "text", "line"] [] := by
  obtain ⟨fd, F⟩ := E.has _ in_m_Reader_init
  have F : FunD K "__init__" "Reader.__init__" (defArgs m_Reader_init) (defBody m_Reader_init) (defScope m_Reader_init) [] [] (He.ma K (cRd K) "__init__") fd := F
  refine ⟨fd, ?_, F.bindsN fun _ _ _ _ _ _ us hl => match us, hl with | [_, _, _], _ => rfl⟩
  refine fn_g F sc_m_Reader_init (fun I ds P R h => by obtain ⟨x, dx, J, z, n, ts, rfl, _⟩ := h; rfl) fun cdv A outer s H EE hr tk po I ds Q R h => ?_
  obtain ⟨x, dx, J, z, n, ts, rfl, rfl, hz, ht, q⟩ := h
  have hr3 : Room 3 _ := hr
  refine g_con (s_fldP (.r J .here) E.l_Reader E.a_Reader_line (pv_v (d := .adr x) 0) (pv_v (d := .int n) 2) ?_)
  refine g_cons (g_fld E.l_Reader E.a_Reader_row (ge_def tk (DG_toks E qm) hr3 (GA.of (PVA.ev (va_cons (pv_v (d := .str z) 1) va_nil) ⟨z, ts, rfl, hz, ht, .r J .here, x, dx, _, rfl, pv_v (d := .adr x) 0, of_decide_eq_true rfl, ?_⟩))))
  refine GB.of ?_
  refine s_one (s_fldP (.r J .here) E.l_Reader E.a_Reader_at (pv_v (d := .adr x) 0) pv_int ?_)
  exact q
end
end LK
set_option Elab.async false
set_option linter.all false
set_option maxRecDepth 100000
set_option maxHeartbeats 1000000
namespace LK
open PySem PySem.Spec PyProof.Rows L2 DL GL
abbrev T3 := Str × Str × Nat
def t3D (p : T3) : D := tkD p.1 p.2.1 p.2.2
def soA (l : List T3) (k : Nat) : Str := (l[k]?.map (·.1)).getD ""
def txA (l : List T3) (k : Nat) : Str := (l[k]?.map (·.2.1)).getD ""
def coA (l : List T3) (k : Nat) : Nat := (l[k]?.map (·.2.2)).getD 0
def isA (l : List T3) (k : Nat) (s : Str) (ws : List Str) : Bool := decide (soA l k = s) && decide (txA l k ∈ ws)
structure EndL (l : List T3) : Prop where
  n : 1 ≤ l.length
  last : ∀ k, k + 1 = l.length → soA l k = "end"
  only : ∀ k, k + 1 < l.length → soA l k ≠ "end"
  good : ∀ k, soA l k = "text" → goodX (txA l k) = true
theorem EndL.next {l : List T3} (h : EndL l) {k : Nat} (hk : k < l.length) (hs : soA l k ≠ "end") : k + 1 < l.length := by
  rcases Nat.lt_or_ge (k + 1) l.length with q | q
  · exact q
  · exact absurd (h.last k (by omega)) hs
theorem at3 {l : List T3} {k : Nat} (hk : k < l.length) : (l.map t3D)[k]? = some (tkD (soA l k) (txA l k) (coA l k)) := by
  rw [List.getElem?_map, List.getElem?_eq_getElem hk]
  unfold soA txA coA
  rw [List.getElem?_eq_getElem hk]
  rfl
abbrev kindsL : List Str := ["say", "ask", "reply", "show"]
abbrev leadsL : List Str := ["", "return", "wipe", "fresh"]
abbrev tailsL : List Str := ["", "erase", "newline"]
def ldP (l : List T3) (f : Str) (k : Nat) : Str × Nat := if f ≠ "reply" ∧ isA l k "word" leadsL = true then (txA l k, k + 1) else ("", k)
def tlP (l : List T3) (f : Str) (k : Nat) : Str × Nat := if f ≠ "ask" ∧ isA l k "word" tailsL = true then (txA l k, k + 1) else ("", k)
def wrP (l : List T3) (k : Nat) : Except Nat (Wr × Nat) :=
  if isA l k "word" kindsL = false then .error k else
  let f := txA l k
  let a := ldP l f (k + 1)
  if (f = "ask" ∨ f = "reply") ∧ isA l a.2 "text" [""] = true then .error a.2 else
  if soA l a.2 ≠ "text" then .error a.2 else
  let b := tlP l f (a.2 + 1)
  .ok (⟨f, txA l a.2, a.1, b.1⟩, b.2)
theorem isA_so {l : List T3} {k : Nat} {s : Str} {ws : List Str} (h : isA l k s ws = true) : soA l k = s ∧ txA l k ∈ ws := by
  unfold isA at h
  obtain ⟨h1, h2⟩ := Bool.and_eq_true_iff.mp h
  exact ⟨of_decide_eq_true h1, of_decide_eq_true h2⟩
theorem ldP_lt {l : List T3} (e : EndL l) {f : Str} {k : Nat} (hk : k < l.length) : k ≤ (ldP l f k).2 ∧ (ldP l f k).2 < l.length ∧ (ldP l f k).1 ∈ leadsL ∧ (f = "reply" → (ldP l f k).1 = "") := by
  unfold ldP
  split
  · rename_i h
    have := isA_so h.2
    exact ⟨Nat.le_succ _, e.next hk (by rw [this.1]; decide), this.2, fun z => absurd z h.1⟩
  · exact ⟨Nat.le_refl _, hk, by simp, fun _ => rfl⟩
theorem tlP_lt {l : List T3} (e : EndL l) {f : Str} {k : Nat} (hk : k < l.length) : k ≤ (tlP l f k).2 ∧ (tlP l f k).2 < l.length ∧ (tlP l f k).1 ∈ tailsL ∧ (f = "ask" → (tlP l f k).1 = "") := by
  unfold tlP
  split
  · rename_i h
    have := isA_so h.2
    exact ⟨Nat.le_succ _, e.next hk (by rw [this.1]; decide), this.2, fun z => absurd z h.1⟩
  · exact ⟨Nat.le_refl _, hk, by simp, fun _ => rfl⟩
theorem goodX_l {x : Str} (h : goodX x = true) : x.length ≤ 40 ∧ ∀ c ∈ x.cps.toList, c ∈ SIGNS.cps.toList := by
  unfold goodX at h
  obtain ⟨h1, h2⟩ := Bool.and_eq_true_iff.mp h
  exact ⟨of_decide_eq_true h1, fun c hc => of_decide_eq_true (List.all_eq_true.mp h2 c hc)⟩
theorem wrP_ok {l : List T3} (e : EndL l) {k : Nat} {w : Wr} {k' : Nat} (hk : k < l.length) (h : wrP l k = .ok (w, k')) : k < k' ∧ k' < l.length ∧ GoodR w := by
  unfold wrP at h
  split at h
  · cases h
  rename_i h1
  have h1' : isA l k "word" kindsL = true := by simpa using h1
  obtain ⟨s1, m1⟩ := isA_so h1'
  have k1 := e.next hk (by rw [s1]; decide)
  obtain ⟨a1, a2, a3, a4⟩ := ldP_lt e (f := txA l k) k1
  dsimp only at h
  split at h
  · cases h
  rename_i h2
  split at h
  · cases h
  rename_i h3
  have h3' : soA l (ldP l (txA l k) (k + 1)).2 = "text" := Classical.byContradiction h3
  have k2 := e.next a2 (by rw [h3']; decide)
  obtain ⟨b1, b2, b3, b4⟩ := tlP_lt e (f := txA l k) k2
  have g := goodX_l (e.good _ h3')
  cases h
  refine ⟨by omega, b2, ⟨?_, g.1⟩⟩
  refine ⟨m1, a3, b3, a4, b4, fun hf => ?_, g.2⟩
  refine Nat.pos_of_ne_zero fun hz => h2 ⟨hf, ?_⟩
  unfold isA
  have ez : txA l (ldP l (txA l k) (k + 1)).2 = "" := str_ext (by
    have : (txA l (ldP l (txA l k) (k + 1)).2).cps.toList.length = 0 := by rw [← str_len]; exact hz
    rw [List.length_eq_zero_iff.mp this]; rfl)
  rw [h3', ez]
  decide
inductive RestR (l : List T3) : Nat → Except Nat (List Wr) → Prop where
  | more {k k' : Nat} {w : Wr} {r : Except Nat (List Wr)} (hm : isA l k "mark" [";"] = true) (hw : wrP l (k + 1) = .ok (w, k')) (h : RestR l k' r) : RestR l k (r.map (w :: ·))
  | bad {k j : Nat} (hm : isA l k "mark" [";"] = true) (hw : wrP l (k + 1) = .error j) : RestR l k (.error j)
  | fin {k : Nat} (hm : isA l k "mark" [";"] = false) (he : soA l k = "end") : RestR l k (.ok [])
  | junk {k : Nat} (hm : isA l k "mark" [";"] = false) (he : soA l k ≠ "end") : RestR l k (.error k)
inductive LineR (has : Str → Bool) (l : List T3) : Except Nat (Str × List Wr) → Prop where
  | name (h : ¬ (soA l 0 = "word" ∧ (txA l 0).length ≤ 8 ∧ has (txA l 0) = false)) : LineR has l (.error 0)
  | colon (h : soA l 0 = "word" ∧ (txA l 0).length ≤ 8 ∧ has (txA l 0) = false) (hm : isA l 1 "mark" [":"] = false) : LineR has l (.error 1)
  | first {j : Nat} (h : soA l 0 = "word" ∧ (txA l 0).length ≤ 8 ∧ has (txA l 0) = false) (hm : isA l 1 "mark" [":"] = true) (hw : wrP l 2 = .error j) : LineR has l (.error j)
  | rest {w : Wr} {k : Nat} {r : Except Nat (List Wr)} (h : soA l 0 = "word" ∧ (txA l 0).length ≤ 8 ∧ has (txA l 0) = false) (hm : isA l 1 "mark" [":"] = true) (hw : wrP l 2 = .ok (w, k)) (hr : RestR l k r) : LineR has l (r.map fun ws => (txA l 0, w :: ws))
end LK
set_option Elab.async false
set_option linter.all false
set_option maxRecDepth 100000
set_option maxHeartbeats 1000000
namespace LK
open PySem PySem.Spec PyProof.Rows L2 DL GL
abbrev xTx (K : PySem.W.Frag) : Addr := He.ga K "InvalidText"
abbrev xTf (col n : Nat) : List (Str × D) := [("column", .int col), ("line", .int n)]
def sTake2 {K : PySem.W.Frag} : Spec K := fun I ds P R => ∃ (x dx : Addr) (n : Nat) (l : List T3) (k : Nat) (c : Rc K) (s : Str), ds = [.adr x, .str s] ∧ I = c.fill (iRd K x dx n (l.map t3D) k) ∧ k < l.length ∧
  if soA l k = s then P (.str (txA l k)) (c.fill (iRd K x dx n (l.map t3D) (k + 1))) else R (xTx K) (xTf (coA l k) n) I
def sTakeName2 {K : PySem.W.Frag} : Spec K := fun I ds P R => ∃ (x dx : Addr) (n : Nat) (l : List T3) (k : Nat) (c : Rc K) (q : Addr) (c2 : Rc K) (kds : List (Key × D)), ds = [.adr x, .adr q] ∧ I = c.fill (iRd K x dx n (l.map t3D) k) ∧ I = c2.fill (iDic K q kds) ∧ k < l.length ∧ (txA l k).length ≤ 1000 ∧
  if soA l k = "word" ∧ (txA l k).length ≤ 8 ∧ (getG kds (.inr (txA l k))).isSome = false then P (.str (txA l k)) (c.fill (iRd K x dx n (l.map t3D) (k + 1))) else R (xTx K) (xTf (coA l k) n) I
def sRdWrite2 {K : PySem.W.Frag} : Spec K := fun I ds P R => ∃ (x dx : Addr) (n : Nat) (l : List T3) (k : Nat) (c : Rc K), ds = [.adr x] ∧ I = c.fill (iRd K x dx n (l.map t3D) k) ∧ EndL l ∧ k < l.length ∧
  (∀ w k', wrP l k = .ok (w, k') → P (wrD K w) (c.fill (iRd K x dx n (l.map t3D) k'))) ∧ (∀ j, wrP l k = .error j → R (xTx K) (xTf (coA l j) n) (c.fill (iRd K x dx n (l.map t3D) j)))
section
variable {X : Cx} {δ : DEnv} {o a b : Expr} {es : List Expr} {apos pos : Pos} {x dx : Addr} {n k : Nat} {l : List T3} {c : Rc X.K} {pl : Sem Bool} {s : Str} {ws : List Str} {I : Iv X.K}
theorem pt_next (E : Env X.prog X.w X.K X.mg X.base) (hr1 : Room 1 X.A) (mn : FnR X.prog X.w X.K X.mg X.base (L2.CX X.prog X.w) 1 (He.ma X.K (cRd X.K) "is_next") (spD X.K sIsNext)) (ho : PV X I o δ (.adr x)) (ha : PV X I a δ (.str s)) (hb : PV X I b δ (.tup (ws.map D.str))) (hk : k < l.length) (eI : I = c.fill (iRd X.K x dx n (l.map t3D) k) := by rfl)
    (h1 : starEach [a, b] X.env = (false, eval a X.env) :: starEach [b] X.env := by rfl) (h2 : starEach [b] X.env = (false, eval b X.env) :: starEach [] X.env := by rfl) (hpl : (backTo pos (starEach [b] X.env)).any (·.1) = false := by rfl)
    (ht : eval (.Call (.Attribute o "is_next" apos) [a, b] [] pos) X.env = (do
      let ov ← eval o X.env
      standAt apos.atName
      let (f, first) ← holding [ov] (getMethod ov "is_next" pl)
      callWith pos f first (backTo pos (starEach [a, b] X.env)) (backToKw pos (keywordEach [] X.env))) := by rfl)
    (he : ∀ whole, isTrue (.Call (.Attribute o "is_next" apos) [a, b] [] pos) X.env whole = (do let v ← whole; standAt (Expr.pos (.Call (.Attribute o "is_next" apos) [a, b] [] pos)); holding [v] (truthy v)) := by intro _; rfl) : PVT X I (.Call (.Attribute o "is_next" apos) [a, b] [] pos) δ (isA l k s ws) := by
  subst eI
  exact pt_v (fun W R P pp => EvX.weak (ev_methA (pl := pl) takesF ⟨fun f => E.l_Reader.get f⟩ E.h_Reader_is_next.f E.h_Reader_is_next.i E.h_Reader_is_next.k mn hr1 (ho.ev ⟨insD_ins c (rd_none (by simp)), (PVA.ev (va_cons ha (va_cons hb va_nil h2) h1) ⟨x, dx, n, l.map t3D, k, c, s, soA l k, txA l k, ws, coA l k, rfl, rfl, at3 hk, pp⟩)⟩) h1 hpl ht)) he
end
section
variable {P : Program} {w : World} {K : PySem.W.Frag} {mg : Str → Option Value} {base : Heap}
theorem M_take2 (E : Env P w K mg base) : FnR P w K mg base (L2.CX P w) 4 (He.ma K (cRd K) "take") (spD K sTake2) := mk_m_Reader_take E fun fd F => by
  refine fn_d F sc_m_Reader_take (fun I ds P R h => by obtain ⟨x, dx, n, l, k, c, s, rfl, _⟩ := h; rfl) fun cdv Ac outer s0 H EE hr tk po I ds Q R h => ?_
  obtain ⟨x, dx, n, l, k, c, s, rfl, rfl, hk, q⟩ := h
  have hu := hr.units
  have hr3 : Room 3 _ := hr
  have ht := at3 hk
  refine s_cons (s_ifP (b := !decide (soA l k = s)) (pt_ne hu (pv_ix ix_tup (pv_ix ix_list (pv_fld (d := .lst (l.map t3D)) c E.l_Reader E.a_Reader_row (pv_w (d := .adr x) 0 rfl) rfl) (pv_fld (d := .int k) c E.l_Reader E.a_Reader_at (pv_w (d := .adr x) 0 rfl) rfl) (p2_ixL (atI_n ht))) pv_int (p2_ixT (i := 0) rfl)) (pv_w (d := .str s) 1 rfl) trivial) (fun hb => ?_) fun hb => s_nil ?_)
  · have hne : ¬ soA l k = s := by simpa using hb
    rw [if_neg hne] at q
    exact s_one (s_expr (ev_meth0 tk ⟨fun f => E.l_Reader.get f⟩ E.h_Reader_refuse.f E.h_Reader_refuse.i E.h_Reader_refuse.k (M_refuse E) hr3 ((pv_w (d := .adr x) 0 rfl).ev ⟨insD_ins c (rd_none (by simp)), x, dx, n, l.map t3D, k, c, _, _, _, rfl, rfl, ht, q⟩)))
  · have he : soA l k = s := by simpa using hb
    rw [if_pos he] at q
    refine s_cons (s_fldaug c E.l_Reader E.a_Reader_at in_add (pv_w (d := .adr x) 0 rfl) rfl pv_int p2_addA ?_)
    exact s_one (s_retP (d := .str (txA l k)) (pv_ix ix_tup (pv_ix ix_list (pv_fld (d := .lst (l.map t3D)) c E.l_Reader E.a_Reader_row (pv_w (d := .adr x) 0 rfl) rfl) (PV.is (pv_op op_sub (pv_fld (d := .int ((k : Int) + 1)) c E.l_Reader E.a_Reader_at (pv_w (d := .adr x) 0 rfl) rfl) pv_int p2_sub) (show _ = D.int (k : Int) from by simp)) (p2_ixL (atI_n ht))) pv_int (p2_ixT (i := 1) rfl)) q)
theorem M_takeName2 (E : Env P w K mg base) : FnR P w K mg base (L2.CX P w) 5 (He.ma K (cRd K) "take_name") (spD K sTakeName2) := mk_m_Reader_take_name E fun fd F => by
  refine fn_d F sc_m_Reader_take_name (fun I ds P R h => by obtain ⟨x, dx, n, l, k, c, q0, c2, kds, rfl, _⟩ := h; rfl) fun cdv Ac outer s0 H EE hr tk po I ds Q R h => ?_
  obtain ⟨x, dx, n, l, k, c, q0, c2, kds, rfl, rfl, e2, hk, hl, q⟩ := h
  have nd := sc_m_Reader_take_name.nd
  have hu := hr.units
  have hu1 := hr.u1
  have hr3 : Room 3 _ := hr.mono (by decide)
  have hr4 : Room 4 _ := hr
  have ht := at3 hk
  refine s_cons (s_setP (d := .str (txA l k)) 2 (pv_ix ix_tup (pv_ix ix_list (pv_fld (d := .lst (l.map t3D)) c E.l_Reader E.a_Reader_row (pv_w (d := .adr x) 0 rfl) rfl) (pv_fld (d := .int k) c E.l_Reader E.a_Reader_at (pv_w (d := .adr x) 0 rfl) rfl) (p2_ixL (atI_n ht))) pv_int (p2_ixT (i := 1) rfl)) ?_)
  refine s_cons (s_ifP (b := !decide (soA l k = "word") || (decide (((txA l k).length : Int) > 8) || (getG kds (.inr (txA l k))).isSome)) (ptw (ww_or (pt_ne hu (pv_ix ix_tup (pv_ix ix_list (pv_fld (d := .lst (l.map t3D)) c E.l_Reader E.a_Reader_row (pv_w (d := .adr x) 0 rfl) rfl) (pv_fld (d := .int k) c E.l_Reader E.a_Reader_at (pv_w (d := .adr x) 0 rfl) rfl) (p2_ixL (atI_n ht))) pv_int (p2_ixT (i := 0) rfl)) (pv_gstr E.c_WORD) trivial) fun _ => ww_or (pt_cmp op_gt (pv_len E.b_len (pv_w (d := .str (txA l k)) 2 rfl) (by omega)) (pv_gint E.c_MOST_NAME) p2_gt) fun _ => ww_or1 (pt_din hu1 (.inr ⟨q0, c2, rfl, e2⟩) (pv_w (d := .str (txA l k)) 2 rfl) (pv_w (d := .adr q0) 1 rfl) rfl))) (fun hb => ?_) fun hb => s_nil ?_)
  · rw [if_neg (fun z => by
      obtain ⟨z1, z2, z3⟩ := z
      have z4 : ¬ ((txA l k).length : Int) > 8 := by omega
      simp [z1, z3, z4] at hb)] at q
    exact s_one (s_expr (ev_meth0 tk ⟨fun f => E.l_Reader.get f⟩ E.h_Reader_refuse.f E.h_Reader_refuse.i E.h_Reader_refuse.k (M_refuse E) hr3 ((pv_w (d := .adr x) 0 rfl).ev ⟨insD_ins c (rd_none (by simp)), x, dx, n, l.map t3D, k, c, _, _, _, rfl, rfl, ht, q⟩)))
  · obtain ⟨b1, b2⟩ := Bool.or_eq_false_iff.mp hb
    obtain ⟨b2, b3⟩ := Bool.or_eq_false_iff.mp b2
    have h1 : soA l k = "word" := by simpa using b1
    have h2 : (txA l k).length ≤ 8 := by have := of_decide_eq_false b2; omega
    rw [if_pos ⟨h1, h2, b3⟩] at q
    exact s_one (s_ret (ev_methA tk ⟨fun f => E.l_Reader.get f⟩ E.h_Reader_take.f E.h_Reader_take.i E.h_Reader_take.k (M_take2 E) hr4 ((pv_w (d := .adr x) 0 rfl).ev ⟨insD_ins c (rd_none (by simp)), (PVA.ev (va_cons (pv_gstr E.c_WORD) va_nil) ⟨x, dx, n, l, k, c, "word", rfl, rfl, hk, by rw [if_pos h1]; exact q⟩)⟩)))
theorem M_rdWrite2 (E : Env P w K mg base) : FnR P w K mg base (L2.CX P w) 5 (He.ma K (cRd K) "write") (spD K sRdWrite2) := mk_m_Reader_write E fun fd F => by
  refine fn_d F sc_m_Reader_write (fun I ds P R h => by obtain ⟨x, dx, n, l, k, c, rfl, _⟩ := h; rfl) fun cdv Ac outer s0 H EE hr tk po I ds Q R h => ?_
  obtain ⟨x, dx, n, l, k, c, rfl, rfl, el, hk, qo, qe⟩ := h
  have nd := sc_m_Reader_write.nd
  have hu := hr.units
  have hr1 : Room 1 _ := hr.mono (by decide)
  have hr3 : Room 3 _ := hr.mono (by decide)
  have hr4 : Room 4 _ := hr
  have ht := at3 hk
  refine s_cons (s_ifP (b := !isA l k "word" kindsL) (ptn (pt_next E hr1 (M_isNext E) (pv_w (d := .adr x) 0 rfl) (pv_gstr E.c_WORD) (pv_gtup E.c_KINDS) hk)) (fun hb => ?_) fun hb => s_nil ?_)
  · have hb' : isA l k "word" kindsL = false := by simpa using hb
    have e1 : wrP l k = .error k := by unfold wrP; rw [if_pos hb']
    exact s_one (s_expr (ev_meth0 tk ⟨fun f => E.l_Reader.get f⟩ E.h_Reader_refuse.f E.h_Reader_refuse.i E.h_Reader_refuse.k (M_refuse E) hr3 ((pv_w (d := .adr x) 0 rfl).ev ⟨insD_ins c (rd_none (by simp)), x, dx, n, l.map t3D, k, c, _, _, _, rfl, rfl, ht, qe _ e1⟩)))
  have hb' : isA l k "word" kindsL = true := by simpa using hb
  obtain ⟨s1, m1⟩ := isA_so hb'
  have k1 := el.next hk (by rw [s1]; decide)
  generalize hf : txA l k = f at *
  refine s_cons (s_set 1 (ev_methA tk ⟨fun f => E.l_Reader.get f⟩ E.h_Reader_take.f E.h_Reader_take.i E.h_Reader_take.k (M_take2 E) hr4 ((pv_w (d := .adr x) 0 rfl).ev ⟨insD_ins c (rd_none (by simp)), (PVA.ev (va_cons (pv_gstr E.c_WORD) va_nil) ⟨x, dx, n, l, k, c, "word", rfl, rfl, hk, ?_⟩)⟩)))
  rw [if_pos s1, hf]
  refine s_cons (s_setP (d := .str "") 2 pv_str ?_)
  -- the lead
  obtain ⟨a1, a2, a3, a4⟩ := ldP_lt el (f := f) k1
  refine s_consI (fun δ' I' => δ' = [some (.adr x), some (.str f), some (.str (ldP l f (k + 1)).1), none, none] ∧ I' = c.fill (iRd K x dx n (l.map t3D) (ldP l f (k + 1)).2)) ?_ ?_
  · refine s_ifP (b := !decide (f = "reply") && isA l (k + 1) "word" leadsL) (ptw (ww_and (pt_ne hu (pv_w (d := .str f) 1 rfl) (pv_gstr E.c_REPLY) trivial) fun _ => ww_and1 (pt_next E hr1 (M_isNext E) (pv_w (d := .adr x) 0 rfl) (pv_gstr E.c_WORD) (pv_gtup E.c_LEADS) k1))) (fun hc => ?_) fun hc => s_nil ?_
    · obtain ⟨c1, c2⟩ := Bool.and_eq_true_iff.mp hc
      have c1' : f ≠ "reply" := by simpa using c1
      have c3 := (isA_so c2).1
      have e1 : ldP l f (k + 1) = (txA l (k + 1), k + 1 + 1) := by unfold ldP; rw [if_pos ⟨c1', c2⟩]
      rw [e1]
      refine s_one (s_set 2 (ev_methA tk ⟨fun f => E.l_Reader.get f⟩ E.h_Reader_take.f E.h_Reader_take.i E.h_Reader_take.k (M_take2 E) hr4 ((pv_w (d := .adr x) 0 rfl).ev ⟨insD_ins c (rd_none (by simp)), (PVA.ev (va_cons (pv_gstr E.c_WORD) va_nil) ⟨x, dx, n, l, k + 1, c, "word", rfl, rfl, k1, ?_⟩)⟩)))
      rw [if_pos c3]
      exact ⟨rfl, rfl⟩
    · have e1 : ldP l f (k + 1) = ((("" : Str)), k + 1) := by
        unfold ldP
        rw [if_neg (fun z => by
          have z1 : decide (f = "reply") = false := decide_eq_false z.1
          rw [z1, z.2] at hc
          exact absurd hc (by decide))]
      rw [e1]
      exact ⟨rfl, rfl⟩
  rintro δ' I' ⟨rfl, rfl⟩
  generalize hk2 : (ldP l f (k + 1)).2 = k2 at *
  generalize hld : (ldP l f (k + 1)).1 = ld at *
  have ht2 := at3 a2
  -- an empty text
  refine s_cons (s_ifP (b := decide (f ∈ (["ask", "reply"] : List Str)) && isA l k2 "text" [""]) (ptw (ww_and (pt_cmp op_in_seq (pv_w (d := .str f) 1 rfl) (pv_tup (va_cons (pv_gstr E.c_ASK) (va_cons (pv_gstr E.c_REPLY) va_nil))) (p2_inStr (ws := ["ask", "reply"]))) fun _ => ww_and1 (pt_next (ws := [""]) E hr1 (M_isNext E) (pv_w (d := .adr x) 0 rfl) (pv_gstr E.c_TEXT) (pv_tup (va_cons pv_str va_nil)) a2))) (fun hc => ?_) fun hc => s_nil ?_)
  · obtain ⟨c1, c2⟩ := Bool.and_eq_true_iff.mp hc
    have c1' : f = "ask" ∨ f = "reply" := by simpa using c1
    have e1 : wrP l k = .error k2 := by unfold wrP; rw [if_neg (by rw [hb']; decide), hf]; dsimp only; rw [hk2, if_pos ⟨c1', c2⟩]
    exact s_one (s_expr (ev_meth0 tk ⟨fun f => E.l_Reader.get f⟩ E.h_Reader_refuse.f E.h_Reader_refuse.i E.h_Reader_refuse.k (M_refuse E) hr3 ((pv_w (d := .adr x) 0 rfl).ev ⟨insD_ins c (rd_none (by simp)), x, dx, n, l.map t3D, k2, c, _, _, _, rfl, rfl, ht2, qe _ e1⟩)))
  have hc' : ¬ ((f = "ask" ∨ f = "reply") ∧ isA l k2 "text" [""] = true) := fun z => by
    have z1 : decide (f ∈ (["ask", "reply"] : List Str)) = true := by simpa using z.1
    rw [z1, z.2] at hc
    exact absurd hc (by decide)
  -- the text
  refine s_cons (s_set 3 (ev_methA tk ⟨fun f => E.l_Reader.get f⟩ E.h_Reader_take.f E.h_Reader_take.i E.h_Reader_take.k (M_take2 E) hr4 ((pv_w (d := .adr x) 0 rfl).ev ⟨insD_ins c (rd_none (by simp)), (PVA.ev (va_cons (pv_gstr E.c_TEXT) va_nil) ⟨x, dx, n, l, k2, c, "text", rfl, rfl, a2, ?_⟩)⟩)))
  by_cases hs : soA l k2 = "text"
  case neg =>
    rw [if_neg hs]
    refine qe _ ?_
    unfold wrP
    rw [if_neg (by rw [hb']; decide), hf]
    dsimp only
    rw [hk2, if_neg hc', if_pos hs]
  rw [if_pos hs]
  have k3 := el.next a2 (by rw [hs]; decide)
  obtain ⟨b1, b2, b3, b4⟩ := tlP_lt el (f := f) k3
  have e1 : wrP l k = .ok (⟨f, txA l k2, ld, (tlP l f (k2 + 1)).1⟩, (tlP l f (k2 + 1)).2) := by
    unfold wrP
    rw [if_neg (by rw [hb']; decide), hf]
    dsimp only
    rw [hk2, if_neg hc', if_neg (fun z => z hs), hld]
  obtain ⟨_, _, gr⟩ := wrP_ok el hk e1
  have qq := qo _ _ e1
  generalize htx : txA l k2 = tx at *
  generalize hk4 : (tlP l f (k2 + 1)).2 = k4 at *
  generalize htl : (tlP l f (k2 + 1)).1 = tl at *
  refine s_cons (s_setP (d := .str "") 4 pv_str ?_)
  refine s_consI (fun δ' I' => δ' = [some (.adr x), some (.str f), some (.str ld), some (.str tx), some (.str tl)] ∧ I' = c.fill (iRd K x dx n (l.map t3D) k4)) ?_ ?_
  · refine s_ifP (b := !decide (f = "ask") && isA l (k2 + 1) "word" tailsL) (ptw (ww_and (pt_ne hu (pv_w (d := .str f) 1 rfl) (pv_gstr E.c_ASK) trivial) fun _ => ww_and1 (pt_next E hr1 (M_isNext E) (pv_w (d := .adr x) 0 rfl) (pv_gstr E.c_WORD) (pv_gtup E.c_TAILS) k3))) (fun hc => ?_) fun hc => s_nil ?_
    · obtain ⟨c1, c2⟩ := Bool.and_eq_true_iff.mp hc
      have c1' : f ≠ "ask" := by simpa using c1
      have c3 := (isA_so c2).1
      have e1 : tlP l f (k2 + 1) = (txA l (k2 + 1), k2 + 1 + 1) := by unfold tlP; rw [if_pos ⟨c1', c2⟩]
      rw [e1] at htl hk4
      subst htl hk4
      refine s_one (s_set 4 (ev_methA tk ⟨fun f => E.l_Reader.get f⟩ E.h_Reader_take.f E.h_Reader_take.i E.h_Reader_take.k (M_take2 E) hr4 ((pv_w (d := .adr x) 0 rfl).ev ⟨insD_ins c (rd_none (by simp)), (PVA.ev (va_cons (pv_gstr E.c_WORD) va_nil) ⟨x, dx, n, l, k2 + 1, c, "word", rfl, rfl, k3, ?_⟩)⟩)))
      rw [if_pos c3]
      exact ⟨rfl, rfl⟩
    · have e1 : tlP l f (k2 + 1) = ((("" : Str)), k2 + 1) := by
        unfold tlP
        rw [if_neg (fun z => by
          have z1 : decide (f = "ask") = false := decide_eq_false z.1
          rw [z1, z.2] at hc
          exact absurd hc (by decide))]
      rw [e1] at htl hk4
      subst htl hk4
      exact ⟨rfl, rfl⟩
  rintro δ' I' ⟨rfl, rfl⟩
  exact s_one (s_retP (pv_write E hr4 (pv_w (d := .str f) 1 rfl) (pv_w (d := .str tx) 3 rfl) (pv_w (d := .str ld) 2 rfl) (pv_w (d := .str tl) 4 rfl) gr.g gr.h) qq)
end
end LK
set_option Elab.async false
set_option linter.all false
set_option maxRecDepth 100000
set_option maxHeartbeats 1000000
namespace LK
open PySem PySem.Spec PyProof.Rows L2 DL GL
theorem sx_dropX {X : Cx} {W : WX} {sts : List Stmt} {δ : DEnv} {I : Iv X.K} {κ : Ko X.K} (h : SX X W sts δ I { κ with ex := fun C fs δ' I' => κ.ex C fs δ' I' ∨ ∃ I'' J, I' = I''.and J ∧ κ.ex C fs δ' I'' }) : SX X W sts δ I κ := fun σ G H E hE s hI k =>
  h σ G H E hE s hI ⟨k.nx, k.rt, k.bk, k.ct, fun C dd fs l δ' σ' G' H' I' s1 t1 h1 r q hd p => p.elim (k.ex C dd fs l δ' σ' G' H' I' s1 t1 h1 r q hd) fun ⟨I'', J, ei, p⟩ => k.ex C dd fs l δ' σ' G' H' I'' s1 t1 (by subst ei; exact h1.left) r q hd p⟩
def sRdWork2 {K : PySem.W.Frag} : Spec K := fun I ds P R => ∃ (x dx : Addr) (n : Nat) (l : List T3) (c : Rc K) (q : Addr) (c2 : Nat → Rc K) (kds : List (Key × D)) (res : Except Nat (Str × List Wr)), ds = [.adr x, .adr q] ∧ I = c.fill (iRd K x dx n (l.map t3D) 0) ∧ (∀ k, c.fill (iRd K x dx n (l.map t3D) k) = (c2 k).fill (iDic K q kds)) ∧
  EndL l ∧ l.length ≤ 2000 ∧ (txA l 0).length ≤ 1000 ∧ LineR (fun s => (getG kds (.inr s)).isSome) l res ∧
  (∀ nm ws, res = .ok (nm, ws) → ∀ k, P (.tup [.str nm, .lst (ws.map (wrD K))]) (c.fill (iRd K x dx n (l.map t3D) k))) ∧ (∀ j, res = .error j → ∀ k, R (xTx K) (xTf (coA l j) n) (c.fill (iRd K x dx n (l.map t3D) k)))
section
variable {P : Program} {w : World} {K : PySem.W.Frag} {mg : Str → Option Value} {base : Heap}
theorem M_rdWork2 (E : Env P w K mg base) : FnR P w K mg base (L2.CX P w) 6 (He.ma K (cRd K) "work") (spD K sRdWork2) := mk_m_Reader_work E fun fd F => by
  refine fn_d F sc_m_Reader_work (fun I ds P R h => by obtain ⟨x, dx, n, l, c, q0, c2, kds, res, rfl, _⟩ := h; rfl) fun cdv Ac outer s0 H EE hr tk po I ds Q R h => ?_
  obtain ⟨x, dx, n, l, c, q0, c2, kds, res, rfl, rfl, e2, el, hl2, hnm, hres, qo, qe⟩ := h
  have nd := sc_m_Reader_work.nd
  have hu := hr.units
  have hr1 : Room 1 _ := hr.mono (by decide)
  have hr3 : Room 3 _ := hr.mono (by decide)
  have hr4 : Room 4 _ := hr.mono (by decide)
  have hr5 : Room 5 _ := hr
  have k0 : 0 < l.length := el.n
  refine sx_dropX ?_
  refine s_cons (s_set 2 (ev_methA tk ⟨fun f => E.l_Reader.get f⟩ E.h_Reader_take_name.f E.h_Reader_take_name.i E.h_Reader_take_name.k (M_takeName2 E) hr5 ((pv_w (d := .adr x) 0 rfl).ev ⟨insD_ins c (rd_none (by simp)), (PVA.ev (va_cons (pv_w (d := .adr q0) 1 rfl) va_nil) ⟨x, dx, n, l, 0, c, q0, c2 0, kds, rfl, rfl, e2 0, k0, hnm, ?_⟩)⟩)))
  by_cases hn : soA l 0 = "word" ∧ (txA l 0).length ≤ 8 ∧ (getG kds (.inr (txA l 0))).isSome = false
  case neg =>
    rw [if_neg hn]
    refine .inl (qe 0 ?_ 0)
    cases hres with
    | name h => rfl
    | colon h _ => exact absurd h hn
    | first h _ _ => exact absurd h hn
    | rest h _ _ _ => exact absurd h hn
  rw [if_pos hn]
  have k1 := el.next k0 (by rw [hn.1]; decide)
  have ht1 := at3 k1
  generalize hnn : txA l 0 = nm at *
  refine s_cons (s_expr (ev_methA tk ⟨fun f => E.l_Reader.get f⟩ E.h_Reader_take_mark.f E.h_Reader_take_mark.i E.h_Reader_take_mark.k (M_takeMark E) hr4 ((pv_w (d := .adr x) 0 rfl).ev ⟨insD_ins c (rd_none (by simp)), (PVA.ev (va_cons pv_str va_nil) ⟨x, dx, n, l.map t3D, 1, c, soA l 1, txA l 1, ":", coA l 1, rfl, rfl, ht1, ?_⟩)⟩)))
  by_cases hm : soA l 1 = "mark" ∧ txA l 1 = ":"
  case neg =>
    rw [if_neg hm]
    refine .inl (qe 1 ?_ 1)
    have hf : isA l 1 "mark" [":"] = false := by
      unfold isA
      cases e1 : decide (soA l 1 = "mark") with
      | false => rfl
      | true => exact decide_eq_false fun z => hm ⟨of_decide_eq_true e1, by simpa using z⟩
    cases hres with
    | name h => rw [hnn] at h; exact absurd hn h
    | colon h _ => rfl
    | first h h2 _ => rw [hf] at h2; cases h2
    | rest h h2 _ _ => rw [hf] at h2; cases h2
  rw [if_pos hm]
  have hmt : isA l 1 "mark" [":"] = true := by
    unfold isA
    rw [hm.1, hm.2]
    decide
  have k2 := el.next k1 (by rw [hm.1]; decide)
  -- the first write
  cases hres with
  | name h => rw [hnn] at h; exact absurd hn h
  | colon h h2 => rw [hmt] at h2; cases h2
  | @first j _ _ hw =>
    refine s_cons (s_set 3 (ev_lstMM (ea_cons (ev_meth0 tk ⟨fun f => E.l_Reader.get f⟩ E.h_Reader_write.f E.h_Reader_write.i E.h_Reader_write.k (M_rdWrite2 E) hr5 ((pv_w (d := .adr x) 0 rfl).ev ⟨insD_ins c (rd_none (by simp)), x, dx, n, l, 2, c, rfl, rfl, el, k2, fun w k' e => (by rw [hw] at e; cases e), fun j' e => (by rw [hw] at e; cases e; exact .inl (qe j rfl j))⟩)))))
  | @rest w1 k r _ _ hw hr' =>
    obtain ⟨b1, b2, b3⟩ := wrP_ok el k2 hw
    refine s_cons (s_set 3 (ev_lstMM (ea_cons (ev_meth0 tk ⟨fun f => E.l_Reader.get f⟩ E.h_Reader_write.f E.h_Reader_write.i E.h_Reader_write.k (M_rdWrite2 E) hr5 ((pv_w (d := .adr x) 0 rfl).ev ⟨insD_ins c (rd_none (by simp)), x, dx, n, l, 2, c, rfl, rfl, el, k2, fun w k' e => ?_, fun j' e => (by rw [hw] at e; cases e)⟩)))))
    rw [hw] at e
    cases e
    refine ea_nil ⟨Nat.le_of_ble_eq_true rfl, fun p _ => ?_⟩
    refine s_cons (s_whileP po (fun m δ' I' => ∃ (ws : List Wr) (k : Nat) (r' : Except Nat (List Wr)), m = l.length - k ∧ k < l.length ∧ RestR l k r' ∧ r.map (fun vs => w1 :: vs) = r'.map (fun vs => ws ++ vs) ∧ ws.length ≤ k ∧ I' = (c.fill (iRd K x dx n (l.map t3D) k)).and (iLst K p (ws.map (wrD K))) ∧ δ' = [some (.adr x), some (.adr q0), some (.str nm), some (.adr p)]) (l.length - k) ⟨[w1], k, r, rfl, b2, hr', rfl, by simp; omega, rfl, rfl⟩ ?_)
    rintro m δ' I' ⟨ws, k, r', rfl, hk, hR, hcomb, hws, rfl, rfl⟩
    have ht := at3 hk
    have bad : ∀ j, r' = .error j → (Except.map (fun ws => (nm, w1 :: ws)) r : Except Nat (Str × List Wr)) = .error j := fun j e => by
      subst e
      cases r with
      | error i => cases hcomb; rfl
      | ok vs => cases hcomb
    refine ⟨isA l k "mark" [";"], pt_next (c := .l c (iLst K p (ws.map (wrD K)))) E hr1 (M_isNext E) (pv_w (d := .adr x) 0 rfl) (pv_gstr E.c_MARK) (pv_tup (va_cons pv_str va_nil)) hk rfl, fun hmk => ?_, fun hmk => ?_⟩
    · have k1' := el.next hk (by rw [(isA_so hmk).1]; decide)
      refine s_cons (s_fldaug (.l c (iLst K p (ws.map (wrD K)))) E.l_Reader E.a_Reader_at in_add (pv_w (d := .adr x) 0 rfl) rfl pv_int p2_addA ?_)
      refine s_one (s_appendE (p := p) (ds := ws.map (wrD K)) (pv_w (d := .adr p) 3 rfl) (LsI.m (.r (c.fill (iRd K x dx n (l.map t3D) (k + 1))) .here)) (ev_meth0 tk ⟨fun f => E.l_Reader.get f⟩ E.h_Reader_write.f E.h_Reader_write.i E.h_Reader_write.k (M_rdWrite2 E) hr5 ((pv_w (d := .adr x) 0 rfl).ev ⟨insD_ins (.l c (iLst K p (ws.map (wrD K)))) (rd_none (by simp)), x, dx, n, l, k + 1, .l c (iLst K p (ws.map (wrD K))), rfl, rfl, el, k1', fun w k' e => ?_, fun j e => ?_⟩)))
      · cases hR with
        | bad _ hw' => rw [hw'] at e; cases e
        | fin hm' _ => rw [hmk] at hm'; cases hm'
        | junk hm' _ => rw [hmk] at hm'; cases hm'
        | @more _ k'' w'' r'' _ hw' hR' =>
          rw [hw'] at e
          cases e
          obtain ⟨d1, d2, _⟩ := wrP_ok el k1' hw'
          refine ⟨.r (c.fill (iRd K x dx n (l.map t3D) k')) .here, ws.map (wrD K), rfl, by rw [List.length_map]; omega, l.length - k', by omega, ws ++ [w], k', r'', rfl, d2, hR', ?_, by simp; omega, by rw [List.map_append]; rfl, rfl⟩
          rw [hcomb]
          cases r'' with
          | error j => rfl
          | ok vs => show Except.ok _ = Except.ok _; simp
      · cases hR with
        | more _ hw' _ => rw [hw'] at e; cases e
        | fin hm' _ => rw [hmk] at hm'; cases hm'
        | junk hm' _ => rw [hmk] at hm'; cases hm'
        | bad _ hw' =>
          rw [hw'] at e
          cases e
          exact .inr ⟨_, _, rfl, qe j (by rw [hnn]; exact bad j rfl) j⟩
    · refine s_cons (s_ifP (b := !decide (soA l k = "end")) (pt_ne hu (pv_ix ix_tup (pv_ix ix_list (pv_fld (d := .lst (l.map t3D)) (.l c (iLst K p (ws.map (wrD K)))) E.l_Reader E.a_Reader_row (pv_w (d := .adr x) 0 rfl) rfl) (pv_fld (d := .int k) (.l c (iLst K p (ws.map (wrD K)))) E.l_Reader E.a_Reader_at (pv_w (d := .adr x) 0 rfl) rfl) (p2_ixL (atI_n ht))) pv_int (p2_ixT (i := 0) rfl)) (pv_gstr E.c_END) trivial) (fun hb => ?_) fun hb => s_nil ?_)
      · have hne : soA l k ≠ "end" := by simpa using hb
        refine s_one (s_expr (ev_meth0 tk ⟨fun f => E.l_Reader.get f⟩ E.h_Reader_refuse.f E.h_Reader_refuse.i E.h_Reader_refuse.k (M_refuse E) hr3 ((pv_w (d := .adr x) 0 rfl).ev ⟨insD_ins (.l c (iLst K p (ws.map (wrD K)))) (rd_none (by simp)), x, dx, n, l.map t3D, k, .l c (iLst K p (ws.map (wrD K))), _, _, _, rfl, rfl, ht, ?_⟩)))
        cases hR with
        | more hm' _ _ => rw [hmk] at hm'; cases hm'
        | bad hm' _ => rw [hmk] at hm'; cases hm'
        | fin _ he => exact absurd he hne
        | junk _ _ => exact .inr ⟨_, _, rfl, qe k (by rw [hnn]; exact bad k rfl) k⟩
      · have he : soA l k = "end" := by simpa using hb
        cases hR with
        | more hm' _ _ => rw [hmk] at hm'; cases hm'
        | bad hm' _ => rw [hmk] at hm'; cases hm'
        | junk _ hne => exact absurd he hne
        | fin _ _ =>
          have eo : (Except.map (fun ws => (nm, w1 :: ws)) r : Except Nat (Str × List Wr)) = .ok (nm, ws) := by
            cases r with
            | error i => cases hcomb
            | ok vs =>
              have h5 : (Except.ok (w1 :: vs) : Except Nat (List Wr)) = .ok (ws ++ []) := hcomb
              have h6 := Except.ok.inj h5
              rw [List.append_nil] at h6
              rw [← h6]; rfl
          refine sx_freezeL (j := 3) rfl ?_
          exact s_one (s_retP (pv_tup (va_cons (pv_w (d := .str nm) 2 rfl) (va_cons (pv_w (d := .lst (ws.map (wrD K))) 3 rfl) va_nil))) (qo nm ws (by rw [hnn]; exact eo) k))
end
end LK
set_option Elab.async false
set_option linter.all false
set_option maxRecDepth 100000
set_option maxHeartbeats 1000000
namespace LK
open PySem PySem.Spec PyProof.Rows L2 DL GL
structure RowL (r : Str) (l : List T3) : Prop where
  n : r.length ≤ 1000
  lay : ∃ ts, Lay 0 r.cps.toList ts ∧ ts ++ [tkD "end" "" (r.length + 1)] = l.map t3D
  el : EndL l
  m : l.length ≤ 2000
  w : (txA l 0).length ≤ 1000
inductive ReadR : Nat → Tb → List (List T3) → Except (Nat × Nat) Tb → Prop where
  | done {n : Nat} {t : Tb} : ReadR n t [] (.ok t)
  | bad {n j : Nat} {t : Tb} {l : List T3} {ls : List (List T3)} (h : LineR (fun s => decide (s ∈ t.map (·.1))) l (.error j)) : ReadR n t (l :: ls) (.error (n, coA l j))
  | go {n : Nat} {t : Tb} {l : List T3} {ls : List (List T3)} {nm : Str} {ws : List Wr} {r : Except (Nat × Nat) Tb} (h : LineR (fun s => decide (s ∈ t.map (·.1))) l (.ok (nm, ws))) (q : ReadR (n + 1) (t ++ [(nm, ws)]) ls r) : ReadR n t (l :: ls) r
def wksT (t : Tb) : List (Str × Wv) := t.map fun p => (p.1, lsW p.2)
abbrev kdsT (K : PySem.W.Frag) (t : Tb) : List (Key × D) := t.map fun p => (.inr p.1, .lst (p.2.map (wrD K)))
def sReadG {K : PySem.W.Frag} : Spec K := fun I ds P R => ∃ (z : Str) (rows : List Str) (ls : List (List T3)) (res : Except (Nat × Nat) Tb), ds = [.str z] ∧ z.length ≤ 100000 ∧ Txt.split z "\n" = rows ∧ ls.length = rows.length ∧ rows.length ≤ 1000 ∧ (∀ (i : Nat) (r : Str) (l : List T3), rows[i]? = some r → ls[i]? = some l → RowL r l) ∧ ReadR 1 [] ls res ∧
  (∀ n c, res = .error (n, c) → R (xTx K) (xTf c n) I) ∧
  (∀ t, res = .ok t → (TbOk t ∧ P (cD K (sortW t)) I) ∨ (WksOk (wksT t) ∧ ∃ no, castFault (wksT t) = some no ∧ R (He.ga K "InvalidCast") (xCast K no.1 no.2) I))
theorem kds_has {K : PySem.W.Frag} (t : Tb) (s : Str) : (getG (kdsT K t) (.inr s)).isSome = decide (s ∈ t.map (·.1)) := by
  induction t with
  | nil => rfl
  | cons p t ih =>
    unfold getG at ih ⊢
    show (Option.map _ (List.find? _ (((.inr p.1 : Key), D.lst (p.2.map (wrD K))) :: kdsT K t))).isSome = _
    rw [List.find?_cons]
    by_cases h : p.1 = s
    · subst h
      simp
    · have h1 : ¬ ((.inr p.1 : Key) = .inr s) := fun e => h (Sum.inr.inj e)
      have h2 : ¬ s = p.1 := fun e => h e.symm
      rw [decide_eq_false h1]
      simp only [List.map_cons, List.mem_cons, h2, false_or]
      exact ih
theorem lineR_new {has : Str → Bool} {l : List T3} {nm : Str} {ws : List Wr} (h : LineR has l (.ok (nm, ws))) : has nm = false ∧ soA l 0 = "word" ∧ nm = txA l 0 ∧ nm.length ≤ 8 := by
  generalize hr : (Except.ok (nm, ws) : Except Nat (Str × List Wr)) = r at h
  cases h with
  | name h => cases hr
  | colon h _ => cases hr
  | first h _ _ => cases hr
  | @rest w k r h _ _ _ =>
    cases r with
    | error j => cases hr
    | ok vs =>
      cases hr
      exact ⟨h.2.2, h.1, rfl, h.2.1⟩
section
variable {P : Program} {w : World} {K : PySem.W.Frag} {mg : Str → Option Value} {base : Heap} {T : Nat}
theorem DG_read (E : Env P w K mg base) (qm : QuoM mg T) : DefG P w K mg base (gT P w T) "read_cast" 7 ["text"] [] sReadG := by
  obtain ⟨fd, F⟩ := E.has _ in_f_read_cast
  have F : FunD K "read_cast" "read_cast" (defArgs f_read_cast) (defBody f_read_cast) (defScope f_read_cast) [] [] (He.ga K "read_cast") fd := F
  refine DefG.of E.g_read_cast F ?_ fun _ _ _ _ _ _ us hl => match us, hl with | [_], _ => rfl
  refine fn_g F sc_f_read_cast (fun I ds P R h => by obtain ⟨z, rows, ls, res, rfl, _⟩ := h; rfl) fun cdv A outer s H EE hr tk po I ds Q R h => ?_
  obtain ⟨z, rows, ls, res, rfl, hz, hsp, hlen, hn, hrow, hread, qe, qo⟩ := h
  have nd := sc_f_read_cast.nd
  have hu := hr.units
  have hu1 := hr.u1
  have hr5 : Room 5 _ := hr.mono (by decide)
  have hr6 : Room 6 _ := hr
  obtain ⟨fdR, FR, bR⟩ := MG_rdInit (T := T) E qm
  refine gb_dropX (gb_dropX ?_)
  refine g_con (s_set 1 (ev_dnew fun qd _ => ?_))
  refine g_cons (g_forT (xs := rows.zipIdx) (gg := fun p => .tup [.int p.2, .str p.1]) po (by rw [← enumD_map]; exact vi_enumL E.b_enumerate ((pv_split (pv_v (d := .str z) 0) pv_str (by decide) hz).is (by rw [hsp])))
    (fun p δ' I' => ∃ (t : Tb) (o2 o3 o4 o5 : Option D), t.length = p.length ∧ ReadR (p.length + 1) t (ls.drop p.length) res ∧ I' = I.and (iDic K qd (kdsT K t)) ∧ δ' = [some (.str z), some (.adr qd), o2, o3, o4, o5]) ⟨[], _, _, _, _, rfl, hread, rfl, rfl⟩ ?_ ?_)
  · rintro p' ⟨row, i⟩ r' δ' I' e ⟨t, o2, o3, o4, o5, ht, hR, rfl, rfl⟩
    have e2 : rows.zipIdx[p'.length]? = some (row, i) := by rw [e]; simp
    rw [List.getElem?_zipIdx] at e2
    obtain ⟨row', e3, e4⟩ := Option.map_eq_some_iff.mp e2
    obtain ⟨rfl, rfl⟩ : row = row' ∧ i = 0 + p'.length := by cases e4; exact ⟨rfl, rfl⟩
    generalize hpl : p'.length = m at *
    have hm : m < rows.length := (List.getElem?_eq_some_iff.mp e3).1
    obtain ⟨l, hl⟩ : ∃ l, ls[m]? = some l := ⟨ls[m]'(by omega), List.getElem?_eq_getElem _⟩
    have rw1 := hrow m row l e3 hl
    obtain ⟨ts, hlay, hts⟩ := rw1.lay
    have hdrop : ls.drop m = l :: ls.drop (m + 1) := by
      rw [← (List.getElem?_eq_some_iff.mp hl).2, List.getElem_cons_drop]
    rw [hdrop] at hR
    refine ⟨_, [2, 3], bind_tup (ws := [2, 3]) (bs_cons (bind_name 2) (bs_cons (bind_name 3) bs_nil)), ?_⟩
    have hhas : (fun s => (getG (kdsT K t) (.inr s)).isSome) = fun s => decide (s ∈ t.map (·.1)) := funext fun s => kds_has t s
    have wk : ∃ lr, LineR (fun s => (getG (kdsT K t) (.inr s)).isSome) l lr ∧ (∀ j, lr = .error j → res = .error (m + 1, coA l j)) ∧ (∀ nm ws, lr = .ok (nm, ws) → ReadR (m + 1 + 1) (t ++ [(nm, ws)]) (ls.drop (m + 1)) res) := by
      rw [hhas]
      cases hR with
      | bad h => exact ⟨_, h, fun j e => (by cases e; rfl), fun nm ws e => (by cases e)⟩
      | go h q => exact ⟨_, h, fun j e => (by cases e), fun nm ws e => (by cases e; exact q)⟩
    obtain ⟨lr, hlr, hle, hlo⟩ := wk
    refine g_cons (g_asg (ge_methA tk ⟨fun f => E.l_Reader.get f⟩ E.h_Reader_work.f E.h_Reader_work.i E.h_Reader_work.k (M_rdWork2 E) hr6 (ge_makeI makeT tk E.m_Reader FR hr5 E.g_Reader bR (ea_cons ((pv_w (d := .str row) 3 rfl).ev (ea_cons ((PV.is (pv_op op_add (pv_w (d := .int ((0 + m : Nat) : Int)) 2 rfl) pv_int p2_add) (show D.int _ = D.int ((m + 1 : Nat) : Int) from by congr 1; omega)).ev (ea_nil fun y dy na => ⟨y, dy, _, row, m + 1, ts, rfl, rfl, rw1.n, hlay, rfl, ?_⟩))))))))
    rw [hts]
    refine ⟨insD_ins (.r (I.and (iDic K qd (kdsT K t))) .here) (rd_none (by simp)), ?_⟩
    refine PVA.ev (va_cons (pv_w (d := .adr qd) 1 rfl) va_nil) ⟨y, dy, m + 1, l, .r (I.and (iDic K qd (kdsT K t))) .here, qd, fun k => .l (.r I .here) (iRd K y dy (m + 1) (l.map t3D) k), kdsT K t, lr, rfl, rfl, fun k => rfl, rw1.el, rw1.m, rw1.w, hlr, fun nm ws e k => ?_, fun j e k => ?_⟩
    · have hq := hlo nm ws e
      subst e
      obtain ⟨nw, _, _, _⟩ := lineR_new hlr
      rw [kds_has] at nw
      have nw2 : nm ∉ t.map (·.1) := of_decide_eq_false nw
      refine ⟨_, _, bind_tup (ws := [4, 5]) (bs_cons (bind_name 4) (bs_cons (bind_name 5) bs_nil)), ?_⟩
      refine gb_drop (g_one (G1.of (s_dput (y := .str nm) (k := .inr nm) (p := qd) (kds := kdsT K t) hu1 (.r I .here) (PV.ev (pv_w (d := .lst (ws.map (wrD K))) 5 rfl) ⟨rfl, pv_w 1 rfl, pv_w 4 rfl, rfl, by rw [List.length_map]; omega, ?_⟩))))
      refine ⟨t ++ [(nm, ws)], _, _, _, _, by simp [ht]; omega, by simp [hpl]; exact hq, ?_, rfl⟩
      rw [put_newT (k := fun y : Str × List Wr => y.1) (v := fun y => D.lst (y.2.map (wrD K))) nw2, kdsT, List.map_append]
      rfl
    · exact .inr ⟨_, _, rfl, .inr ⟨_, _, rfl, qe _ _ (hle j e)⟩⟩
  · rintro δ' I' ⟨t, o2, o3, o4, o5, ht, hR, rfl, rfl⟩
    rw [List.length_zipIdx, ← hlen, List.drop_length] at hR
    cases hR with
    | done =>
      refine GB.of ?_
      refine sx_freezeD (j := 1) rfl ?_
      rcases qo t rfl with ⟨ok, q⟩ | ⟨wk, no, hf, q⟩
      · exact s_one (s_retP (pv_castL E hr5 ok (pv_v (d := dicT t (·.1) fun p => .lst (p.2.map (wrD K))) 1)) q)
      · refine s_one (s_ret (ev_cast E tk hr5 ((pv_v (d := dicD (kdsT K t)) 1).ev ⟨wksT t, ?_, wk, ?_⟩)))
        · unfold wksT wksD dicT
          rw [List.map_map]
          congr 1
          exact List.map_congr_left fun p _ => by
            show ((.inr p.1 : Key), D.lst (p.2.map (wrD K))) = ((.inr p.1 : Key), (lsW p.2).d K)
            rw [lsW_d]
        · rw [hf]
          exact .inl (.inl q)
end
end LK
set_option Elab.async false
set_option linter.all false
set_option maxRecDepth 100000
set_option maxHeartbeats 1000000
namespace LK
open PySem PySem.Spec PyProof.Rows L2 DL GL
def Tk.s (t : Tk) : Str := ⟨t.cps.toArray⟩
theorem Tk.s_n (t : Tk) : t.s.length = t.cps.length := str_len _
def gapOk (a b : Nat) (n : Nat) : Prop := (a ∈ smallL ∧ b ∈ smallL → 1 ≤ n) ∧ (a = 39 ∧ b = 39 → 1 ≤ n)
def Tk.fst (t : Tk) : Nat := t.cps.headD 0
def Tk.lst (t : Tk) : Nat := t.cps.getLastD 0
inductive Loose : Option Tk → Nat → List Tk → List Nat → List Nat → Prop where
  | nil {p : Option Tk} {i : Nat} (m : Nat) : Loose p i [] (List.replicate m 32) [i + m + 1]
  | cons {p : Option Tk} {i : Nat} {t : Tk} {ts : List Tk} {r cs : List Nat} (n : Nat) (hg : ∀ q, p = some q → gapOk q.lst t.fst n) (h : Loose (some t) (i + n + t.cps.length) ts r cs) : Loose p i (t :: ts) (List.replicate n 32 ++ (t.cps ++ r)) ((i + n + 1) :: cs)
theorem lay_spaces {r : List Nat} {ts : List D} : ∀ (n i : Nat), Lay (i + n) r ts → Lay i (List.replicate n 32 ++ r) ts
  | 0, i, h => h
  | n + 1, i, h => .space (lay_spaces n (i + 1) (by rw [show i + 1 + n = i + (n + 1) by omega]; exact h))
theorem last_small {w : Str} (h : (Tk.word w).Ok) : (Tk.word w).lst ∈ smallL := by
  obtain ⟨h1, h2⟩ := h
  show w.cps.toList.getLastD 0 ∈ smallL
  refine h2 _ ?_
  rw [List.getLastD_eq_getLast?, List.getLast?_eq_some_getLast h1]
  exact List.getLast_mem h1
theorem last_text (x : Str) : (Tk.text x).lst = 39 := by
  show (39 :: (dblQ x.cps.toList ++ [39])).getLastD 0 = 39
  rw [List.getLastD_eq_getLast?, ← List.cons_append, List.getLast?_append]; rfl
theorem head_loose {p : Tk} {i : Nat} {ts : List Tk} {r cs : List Nat} (h : Loose (some p) i ts r cs) (ok : ∀ t ∈ ts, t.Ok) (c : Nat) (hc : r.head? = some c) : c = 32 ∨ ∃ t ∈ ts, c = t.fst ∧ gapOk p.lst t.fst 0 := by
  cases h with
  | nil m =>
    cases m with
    | zero => cases hc
    | succ m => exact .inl (by cases hc; rfl)
  | @cons _ _ t ts r cs n hg h =>
    cases n with
    | zero =>
      refine .inr ⟨t, List.mem_cons_self .., ?_, hg p rfl⟩
      obtain ⟨c', cs', e, _⟩ := Tk.ne (ok t (List.mem_cons_self ..))
      have e2 : (t.cps ++ r).head? = some c := hc
      rw [e] at e2
      unfold Tk.fst
      rw [e]
      cases e2; rfl
    | succ n => exact .inl (by cases hc; rfl)
def isOpn : Tk → Bool | .opn _ => true | _ => false
theorem loose_lay {p : Option Tk} {i : Nat} {ts : List Tk} {r cs : List Nat} (h : Loose p i ts r cs) : (∀ t ∈ ts, t.Ok) → (∀ t ∈ ts.dropLast, isOpn t = false) →
    cs.length = ts.length + 1 ∧ cs.getLastD 0 = i + r.length + 1 ∧ ∃ ds, Lay i r ds ∧ ds = (ts.zip cs).map fun z => tkD z.1.sort z.1.txt z.2 := by
  induction h with
  | @nil p i m =>
    intro _ _
    refine ⟨rfl, by simp, [], ?_, rfl⟩
    have := lay_spaces (r := []) (ts := []) m i .done
    rwa [List.append_nil] at this
  | @cons p i t ts r cs n hg h ih =>
    intro ok op
    have ok' : ∀ t ∈ ts, t.Ok := fun t ht => ok t (List.mem_cons_of_mem _ ht)
    have okt := ok t (List.mem_cons_self ..)
    have op' : ∀ t ∈ ts.dropLast, isOpn t = false := fun u hu => op u (by
      cases ts with
      | nil => cases hu
      | cons a b => exact List.mem_cons_of_mem _ hu)
    obtain ⟨h1, h2, ds, h3, h4⟩ := ih ok' op'
    have hlast : ((i + n + 1) :: cs).getLastD 0 = cs.getLastD 0 := by
      cases cs with
      | nil => simp at h1
      | cons a b => simp [List.getLastD_eq_getLast?, List.getLast?_cons_cons]
    refine ⟨by simp [h1], by rw [hlast, h2]; simp; omega, ?_⟩
    have main : t.Stop r → ∃ ds, Lay i (List.replicate n 32 ++ (t.cps ++ r)) ds ∧ ds = ((t :: ts).zip ((i + n + 1) :: cs)).map fun z => tkD z.1.sort z.1.txt z.2 := fun st =>
      ⟨_, lay_spaces n i (.tok t okt st h3), by rw [h4]; rfl⟩
    cases ht : t with
    | sign c =>
      subst ht
      exact main trivial
    | word w =>
      subst ht
      refine main fun c hc => ?_
      rcases head_loose h ok' c hc with e | ⟨u, hu, e, g⟩
      · rw [e]; decide
      · intro hs
        have := g.1 ⟨last_small okt, by rw [← e]; exact hs⟩
        omega
    | text x =>
      subst ht
      refine main fun hc => ?_
      rcases head_loose h ok' 39 hc with e | ⟨u, hu, e, g⟩
      · exact absurd e (by decide)
      · have := g.2 ⟨last_text x, e.symm⟩
        omega
    | opn w =>
      subst ht
      have hn : ts = [] := by
        cases ts with
        | nil => rfl
        | cons a b =>
          have := op (.opn w) (List.mem_cons_self ..)
          cases this
      subst hn
      cases h with
      | nil m =>
        have ok2 : (Tk.opn (w ++ List.replicate m 32)).Ok := fun hm => by
          rcases List.mem_append.mp hm with q | q
          · exact okt q
          · have := List.eq_of_mem_replicate q
            exact absurd this (by decide)
        have e3 : (Tk.opn (w ++ List.replicate m 32)).cps ++ [] = (Tk.opn w).cps ++ List.replicate m 32 := by simp [Tk.cps]
        have la := lay_spaces n i (.tok (r := []) (ts := []) (.opn (w ++ List.replicate m 32)) ok2 rfl .done)
        rw [e3] at la
        exact ⟨_, la, rfl⟩
end LK
set_option Elab.async false
set_option linter.all false
set_option maxRecDepth 100000
set_option maxHeartbeats 1000000
namespace LK
open PySem PySem.Spec PyProof.Rows L2 DL GL
def f2 (p : T3) : Str × Str := (p.1, p.2.1)
def f3 (t : Tk) : Str × Str := (t.sort, t.txt)
abbrev endS : List (Str × Str) := [((("end" : Str)), (("" : Str)))]
def ofT (ts : List Tk) (cs : List Nat) (e : Nat) : List T3 := (ts.zip cs).map (fun z => (z.1.sort, z.1.txt, z.2)) ++ [((("end" : Str)), (("" : Str)), e)]
theorem st_at {l : List T3} {k : Nat} {a : Str × Str} {r : List (Str × Str)} (h : (l.map f2).drop k = a :: r) : soA l k = a.1 ∧ txA l k = a.2 ∧ (l.map f2).drop (k + 1) = r := by
  have e : ((l.map f2).drop k)[0]? = some a := by rw [h]; rfl
  rw [List.getElem?_drop, Nat.add_zero, List.getElem?_map] at e
  obtain ⟨p, hp, ep⟩ := Option.map_eq_some_iff.mp e
  subst ep
  refine ⟨?_, ?_, ?_⟩
  · unfold soA; rw [hp]; rfl
  · unfold txA; rw [hp]; rfl
  · rw [← List.drop_drop, h]; rfl
theorem ofT_st {ts : List Tk} {cs : List Nat} {e : Nat} (h : ts.length ≤ cs.length) : (ofT ts cs e).map f2 = ts.map f3 ++ endS := by
  unfold ofT
  rw [List.map_append, List.map_map]
  congr 1
  have : ∀ (ts : List Tk) (cs : List Nat), ts.length ≤ cs.length → (ts.zip cs).map (f2 ∘ fun z => (z.1.sort, z.1.txt, z.2)) = ts.map f3 := by
    intro ts
    induction ts with
    | nil => intro cs _; rfl
    | cons t ts ih =>
      intro cs h
      cases cs with
      | nil => simp at h
      | cons c cs =>
        simp only [List.zip_cons_cons, List.map_cons, List.length_cons] at h ⊢
        rw [ih cs (by omega)]
        rfl
  exact this ts cs h
theorem sort_ne (t : Tk) : t.sort ≠ "end" := by
  cases t with
  | word w => show (("word" : Str)) ≠ "end"; decide
  | text x =>
    show (if goodX x = true then (("text" : Str)) else "wrong") ≠ "end"
    by_cases h : goodX x = true
    · rw [if_pos h]; decide
    · rw [if_neg h]; decide
  | sign c =>
    show (if c = 58 ∨ c = 59 then (("mark" : Str)) else "wrong") ≠ "end"
    by_cases h : c = 58 ∨ c = 59
    · rw [if_pos h]; decide
    · rw [if_neg h]; decide
  | opn w => show (("wrong" : Str)) ≠ "end"; decide
theorem ofT_end {ts : List Tk} {cs : List Nat} {e : Nat} (h : ts.length ≤ cs.length) : EndL (ofT ts cs e) := by
  have hl : (ofT ts cs e).length = ts.length + 1 := by unfold ofT; simp; omega
  have hs : ∀ k, soA (ofT ts cs e) k = (((ts.map f3 ++ endS)[k]?).map (·.1)).getD (("" : Str)) := fun k => by
    rw [← ofT_st (e := e) h, List.getElem?_map]
    unfold soA
    cases (ofT ts cs e)[k]? <;> rfl
  have ht : ∀ k, txA (ofT ts cs e) k = (((ts.map f3 ++ endS)[k]?).map (·.2)).getD (("" : Str)) := fun k => by
    rw [← ofT_st (e := e) h, List.getElem?_map]
    unfold txA
    cases (ofT ts cs e)[k]? <;> rfl
  have inn : ∀ k, k < ts.length → ∃ t, ts[k]? = some t ∧ soA (ofT ts cs e) k = t.sort ∧ txA (ofT ts cs e) k = t.txt := fun k hk => by
    refine ⟨ts[k], List.getElem?_eq_getElem hk, ?_, ?_⟩
    · rw [hs, List.getElem?_append_left (by simpa using hk), List.getElem?_map, List.getElem?_eq_getElem hk]; rfl
    · rw [ht, List.getElem?_append_left (by simpa using hk), List.getElem?_map, List.getElem?_eq_getElem hk]; rfl
  have lst : ∀ k, k = ts.length → soA (ofT ts cs e) k = "end" := fun k hk => by
    subst hk
    rw [hs, List.getElem?_append_right (by simp)]
    simp
  refine ⟨by omega, fun k hk => lst k (by omega), fun k hk => ?_, fun k hk => ?_⟩
  · obtain ⟨t, _, e1, _⟩ := inn k (by omega)
    rw [e1]
    exact sort_ne t
  · rcases Nat.lt_trichotomy k ts.length with h1 | h1 | h1
    · obtain ⟨t, _, e1, e2⟩ := inn k h1
      rw [e1] at hk
      rw [e2]
      cases t with
      | word w => exact absurd (show (("word" : Str)) = "text" from hk) (by decide)
      | sign c =>
        have hk2 : (if c = 58 ∨ c = 59 then (("mark" : Str)) else "wrong") = "text" := hk
        by_cases h : c = 58 ∨ c = 59
        · rw [if_pos h] at hk2; exact absurd hk2 (by decide)
        · rw [if_neg h] at hk2; exact absurd hk2 (by decide)
      | opn w => exact absurd (show (("wrong" : Str)) = "text" from hk) (by decide)
      | text x =>
        have hk2 : (if goodX x = true then (("text" : Str)) else "wrong") = "text" := hk
        by_cases hg : goodX x = true
        · exact hg
        · rw [if_neg hg] at hk2; exact absurd hk2 (by decide)
    · rw [lst k h1] at hk
      exact absurd hk (by decide)
    · rw [hs, List.getElem?_eq_none (by simp; omega)] at hk
      exact absurd hk (by decide)
def tksW (w : Wr) : List Tk := .word w.k :: ((if w.l = "" then [] else [.word w.l]) ++ (.text w.t :: (if w.e = "" then [] else [.word w.e])))
def tksM (ws : List Wr) : List Tk := ws.flatMap fun w => .sign 59 :: tksW w
def tksL (p : Str × List Wr) : List Tk := .word p.1 :: .sign 58 :: (tksM p.2).drop 1
theorem goodX_r {w : Wr} (g : GoodR w) : goodX w.t = true := by
  unfold goodX
  rw [decide_eq_true g.h, Bool.true_and]
  exact List.all_eq_true.mpr fun c hc => decide_eq_true (g.g.gs c hc)
theorem sort_text {w : Wr} (g : GoodR w) : f3 (.text w.t) = ((("text" : Str)), w.t) := by
  show ((if goodX w.t = true then (("text" : Str)) else "wrong"), w.t) = _
  rw [if_pos (goodX_r g)]
theorem isA_no {l : List T3} {k : Nat} {s : Str} {ws : List Str} (h : soA l k ≠ s) : isA l k s ws = false := by
  unfold isA
  rw [decide_eq_false h, Bool.false_and]
theorem isA_yes {l : List T3} {k : Nat} {s : Str} {ws : List Str} (h : soA l k = s) (h2 : txA l k ∈ ws) : isA l k s ws = true := by
  unfold isA
  rw [decide_eq_true h, decide_eq_true h2]; rfl
theorem wrP_good {l : List T3} {k : Nat} {w : Wr} {s x : Str} {r : List (Str × Str)} (g : GoodR w) (h : (l.map f2).drop k = (tksW w).map f3 ++ (s, x) :: r) (hs : s ≠ "word") : wrP l k = .ok (w, k + (tksW w).length) := by
  obtain ⟨kk, t, ld, te⟩ := w
  have gg := g.g
  have h0 : (l.map f2).drop k = (("word", kk) : Str × Str) :: (((if ld = "" then [] else [Tk.word ld]) ++ (Tk.text t :: (if te = "" then [] else [Tk.word te]))).map f3 ++ (s, x) :: r) := h
  obtain ⟨s0, t0, d1⟩ := st_at h0
  -- the lead
  have ld1 : ldP l kk (k + 1) = (ld, k + 1 + (if ld = "" then [] else [Tk.word ld]).length) ∧ (l.map f2).drop (k + 1 + (if ld = "" then [] else [Tk.word ld]).length) = f3 (.text t) :: ((if te = "" then [] else [Tk.word te]).map f3 ++ (s, x) :: r) := by
    by_cases hl : ld = ""
    · rw [if_pos hl] at d1 ⊢
      have d1' : (l.map f2).drop (k + 1) = f3 (.text t) :: ((if te = "" then [] else [Tk.word te]).map f3 ++ (s, x) :: r) := d1
      obtain ⟨s1, t1, _⟩ := st_at d1'
      refine ⟨?_, d1'⟩
      unfold ldP
      rw [if_neg (fun z => by
        have := isA_no (l := l) (k := k + 1) (s := "word") (ws := leadsL) (by rw [s1, sort_text (w := ⟨kk, t, ld, te⟩) g]; exact (by decide : (Str.ofString "text") ≠ "word"))
        rw [this] at z
        exact absurd z.2 (by decide)), hl]
      rfl
    · rw [if_neg hl] at d1 ⊢
      have d1' : (l.map f2).drop (k + 1) = (("word", ld) : Str × Str) :: (f3 (.text t) :: ((if te = "" then [] else [Tk.word te]).map f3 ++ (s, x) :: r)) := d1
      obtain ⟨s1, t1, d2⟩ := st_at d1'
      refine ⟨?_, d2⟩
      unfold ldP
      rw [if_pos ⟨fun z => hl (gg.gr z), isA_yes s1 (by rw [t1]; exact gg.gl)⟩, t1]
      rfl
  obtain ⟨e1, d2⟩ := ld1
  generalize hn : (if ld = "" then [] else [Tk.word ld]).length = n at *
  obtain ⟨s2, t2, d3⟩ := st_at d2
  rw [sort_text (w := ⟨kk, t, ld, te⟩) g] at s2 t2
  have tl1 : tlP l kk (k + 1 + n + 1) = (te, k + 1 + n + 1 + (if te = "" then [] else [Tk.word te]).length) := by
    by_cases hl : te = ""
    · rw [if_pos hl] at d3 ⊢
      obtain ⟨s3, _, _⟩ := st_at (show (l.map f2).drop (k + 1 + n + 1) = (s, x) :: r from d3)
      unfold tlP
      rw [if_neg (fun z => by
        have := isA_no (l := l) (k := k + 1 + n + 1) (s := "word") (ws := tailsL) (by rw [s3]; exact hs)
        rw [this] at z
        exact absurd z.2 (by decide)), hl]
      rfl
    · rw [if_neg hl] at d3 ⊢
      obtain ⟨s3, t3, _⟩ := st_at (show (l.map f2).drop (k + 1 + n + 1) = (("word", te) : Str × Str) :: ((s, x) :: r) from d3)
      unfold tlP
      rw [if_pos ⟨fun z => hl (gg.ga z), isA_yes s3 (by rw [t3]; exact gg.ge)⟩, t3]
      rfl
  unfold wrP
  rw [if_neg (by rw [isA_yes s0 (by rw [t0]; exact gg.gk)]; decide), t0]
  dsimp only
  rw [e1]
  dsimp only
  rw [if_neg (fun z => by
    have h5 := (isA_so z.2).2
    rw [t2] at h5
    have h6 : t = "" := by simpa using h5
    have h7 : 0 < t.length := gg.gn z.1
    rw [h6] at h7
    exact absurd h7 (by decide)), if_neg (fun z => z s2), tl1, t2]
  have en : (tksW ⟨kk, t, ld, te⟩).length = 1 + (n + (1 + (if te = "" then [] else [Tk.word te]).length)) := by
    show (Tk.word kk :: ((if ld = "" then [] else [Tk.word ld]) ++ (Tk.text t :: (if te = "" then [] else [Tk.word te])))).length = _
    rw [List.length_cons, List.length_append, List.length_cons, hn]; omega
  rw [en]
  congr 2
  omega
theorem restR_good {l : List T3} : ∀ (ws : List Wr) (k : Nat), (∀ w ∈ ws, GoodR w) → (l.map f2).drop k = (tksM ws).map f3 ++ endS → RestR l k (.ok ws)
  | [], k, _, h => by
    obtain ⟨s0, _, _⟩ := st_at (show (l.map f2).drop k = endS from h)
    exact .fin (isA_no (by rw [s0]; decide)) s0
  | w :: ws, k, hg, h => by
    have h0 : (l.map f2).drop k = (("mark", ⟨#[59]⟩) : Str × Str) :: ((tksW w).map f3 ++ ((tksM ws).map f3 ++ endS)) := by
      rw [h]
      unfold tksM
      rw [List.flatMap_cons, List.map_append, List.append_assoc]
      rfl
    obtain ⟨s0, t0, d1⟩ := st_at h0
    obtain ⟨s, x, r, e, hs⟩ : ∃ s x r, (tksM ws).map f3 ++ endS = (s, x) :: r ∧ s ≠ "word" := by
      cases ws with
      | nil => exact ⟨_, _, [], rfl, by decide⟩
      | cons v ws => exact ⟨"mark", _, _, rfl, by decide⟩
    have hd := d1
    rw [e] at hd
    have hw := wrP_good (hg w (List.mem_cons_self ..)) hd hs
    have d2 : (l.map f2).drop (k + 1 + (tksW w).length) = (tksM ws).map f3 ++ endS := by
      rw [← List.drop_drop, d1, List.drop_left']
      rw [List.length_map]
    have := RestR.more (isA_yes s0 (by rw [t0]; decide)) hw (restR_good ws _ (fun v hv => hg v (List.mem_cons_of_mem _ hv)) d2)
    exact this
theorem lineR_good {has : Str → Bool} {l : List T3} {nm : Str} {ws : List Wr} (hl : nm.length ≤ 8) (hh : has nm = false) (hg : ∀ w ∈ ws, GoodR w) (hn : ws ≠ []) (h : l.map f2 = (tksL (nm, ws)).map f3 ++ endS) : LineR has l (.ok (nm, ws)) := by
  cases ws with
  | nil => exact absurd rfl hn
  | cons w ws =>
    have e0 : (tksM (w :: ws)).drop 1 = tksW w ++ tksM ws := by unfold tksM; rw [List.flatMap_cons]; rfl
    have h0 : (l.map f2).drop 0 = (("word", nm) : Str × Str) :: (("mark", ⟨#[58]⟩) : Str × Str) :: ((tksW w).map f3 ++ ((tksM ws).map f3 ++ endS)) := by
      rw [List.drop_zero, h]
      unfold tksL
      rw [e0, List.map_cons, List.map_cons, List.map_append, List.cons_append, List.cons_append, List.append_assoc]
      rfl
    obtain ⟨s0, t0, d1⟩ := st_at h0
    obtain ⟨s1, t1, d2⟩ := st_at d1
    obtain ⟨s, x, r, e, hs⟩ : ∃ s x r, (tksM ws).map f3 ++ endS = (s, x) :: r ∧ s ≠ "word" := by
      cases ws with
      | nil => exact ⟨_, _, [], rfl, by decide⟩
      | cons v ws => exact ⟨"mark", _, _, rfl, by decide⟩
    have hd := d2
    rw [e] at hd
    have hw := wrP_good (hg w (List.mem_cons_self ..)) hd hs
    have d3 : (l.map f2).drop (0 + 1 + 1 + (tksW w).length) = (tksM ws).map f3 ++ endS := by
      rw [← List.drop_drop, d2, List.drop_left']
      rw [List.length_map]
    have hr := restR_good ws _ (fun v hv => hg v (List.mem_cons_of_mem _ hv)) d3
    have := LineR.rest (has := has) (l := l) ⟨s0, by rw [t0]; exact hl, by rw [t0]; exact hh⟩ (isA_yes s1 (by rw [t1]; decide)) hw hr
    rw [t0] at this
    exact this
end LK
set_option Elab.async false
set_option linter.all false
set_option maxRecDepth 100000
set_option maxHeartbeats 4000000
namespace GL
open PySem PySem.Spec PyProof.Rows L2 DL
section
variable {P : Program} {w : World} {K : PySem.W.Frag} {mg : Str → Option Value} {base : Heap} {x qual : Str} {params : Arguments} {body : List Stmt} {scope : Scope} {dvs : List V} {kws : List (Str × V)} {f : Addr} {fd : FuncData} {ps : List Str} {k : Nat}
theorem psst_1 {X : Cx} {sts : List Stmt} : PSsT X sts (fun B σ H => wgB (gT X.prog X.w 1) sts B σ H) := fun pins s σ H B h1 J0 h =>
  wpAny_mono (h.run pins s J0 s ⟨rfl, h1⟩) (fun f r ⟨s', e, q⟩ => by rw [e.1]; exact q) fun e r ⟨s', e', q⟩ => by rw [e'.1]; exact q
theorem fn_d1 {N : List Str} {S : Spec K} (F : FunD K x qual params body scope dvs kws f fd) (sc : FnScope N ps scope) (hnc : ∀ y ∈ scope.names, y.2 ≠ .cell) (hps : 1 ≤ ps.length) (len : ∀ I ds P R, S I ds P R → ds.length = ps.length)
    (h : ∀ (cdv : Value) (A : Around) (outer : List Env) (s : Shared) (H : Hp) (E : XK), Room k (A.deeper (envOfC qual scope s.heap.objs.size f cdv)) →
      Takes (cxOf (L2.CX P w) P w K mg base N qual scope f cdv A outer s H E) (fun cls d _ H => E cls d H) →
      PassesOwn (model P w) (A.deeper (envOfC qual scope s.heap.objs.size f cdv)) (envOfC qual scope s.heap.objs.size f cdv) (cxOf (L2.CX P w) P w K mg base N qual scope f cdv A outer s H E).xe →
      ∀ (I : Iv K) (ds : List D) (Q : D → Iv K → Prop) (R : Rx K), S I ds Q R →
      GB (cxOf (L2.CX P w) P w K mg base N qual scope f cdv A outer s H E) (gT P w 1) (fun cls d _ H => E cls d H) body (dstart N ds) I { nx := fun _ I' => Q .non I', rt := Q, ex := fun C fs _ I' => R C fs I' }) :
    FnOk P w K mg base (L2.CX P w) (k + 1) f fd ps (spD K S) := by
  obtain ⟨oc, od, dV, kV, doc, pm, an, cdv, ct, osl, rfl, lk, hcd, _, _⟩ := F.ex
  refine fn_ofT lk hcd sc hnc hps (fun vs H Q E h => ?_) fun A outer s H vs Q E hr hq => ?_
  · obtain ⟨I, G, ds, P', R, _, _, r, hS, _, _⟩ := h
    rw [r.length]
    exact len _ _ _ _ hS
  · obtain ⟨I, G, ds, P', R, sm, hI, r, hS, kv, ke⟩ := hq
    refine ⟨_, psst_1, h cdv A outer s H E hr (takes_of rfl rfl rfl rfl) (passes_of rfl) I ds P' R hS _ G H _ (EnvR.start r) sm hI ?_⟩
    exact ⟨fun δ σ G' H' I' s1 s2 h1 _ p => kv .non .non G' H' I' s1 s2 h1 rfl p, kv, fun _ _ _ _ _ _ _ _ _ p => p.elim, fun _ _ _ _ _ _ _ _ _ p => p.elim,
      fun C dd fs l δ σ G' H' I' s1 s2 h1 _ r2 hd p => ke C dd fs l G' H' I' s1 s2 h1 r2 hd p⟩
end
section
variable {X : Cx} {T : Nat} {W : WX} {R : Rx X.K} {o : Expr} {es : List Expr} {δ : DEnv} {I : Iv X.K} {κ : Ko X.K} {P : D → Iv X.K → Prop} {apos pos c0 c1 : Pos} {x y z : Str} {j k : Nat} {g : Gm X.prog X.w} {sts : List Stmt} {q : Addr} {ds : List D}
theorem gt_replL (h1 : 1 ≤ T) (ho : PV X I o δ (.str x)) (hz : x.length + (x.length + 1) * z.length ≤ 16777216) (p : P (.str (Txt.replace x y z)) I) (hyz : (y == z) = false := by decide)
    (hst : starEach [.Constant (.str y) j c0, .Constant (.str z) k c1] X.env = [(false, eval (.Constant (.str y) j c0) X.env), (false, eval (.Constant (.str z) k c1) X.env)] := by rfl)
    (hbase : attributeBase o "replace" X.env (eval o X.env) = eval o X.env := by rfl) (hline : (apos.endLine == pos.line) = true := by rfl) :
    GE X (gT X.prog X.w T) W R (.Call (.Attribute o "replace" apos) [.Constant (.str y) j c0, .Constant (.str z) k c1] [] pos) δ I P := fun σ G H Q hE s hI qx q =>
  have A1 := ho W R (fun d J => d = .str x ∧ J = I) ⟨rfl, rfl⟩ σ G H (fun v H1 => ∃ u, v = .str u ∧ u.length + (u.length + 1) * z.length ≤ 16777216 ∧ Q (.str (Txt.replace u y z)) H1) hE s hI qx fun v d G1 H1 I1 s1 t1 h1 r1 ⟨ed, ei⟩ => by
    subst ed ei
    exact ⟨x, r1, hz, q _ (.str (Txt.replace x y z)) G1 H1 _ s1 t1 h1 rfl p⟩
  ⟨fun pins s0 J0 r0 ⟨er, ht⟩ => by
    subst er
    exact (J.of (G := gT X.prog X.w T) (CwR.pet_replC peC hyz hst hbase hline pins r0 σ H Q (Nat.le_trans h1 ht) J0 A1)) r0 ⟨rfl, ht⟩⟩
theorem gt_lst (h : GA X (gT X.prog X.w T) W R es δ I fun ds I1 => ds.length ≤ 1000 ∧ P (.lst ds) I1) : GE X (gT X.prog X.w T) W R (.List es pos) δ I P := fun σ G H Q hE s hI qx q =>
  have A1 := h σ G H (fun vs H1 => vs.length ≤ sizeLine ∧ ∀ p, H1 p = none → Q (.ref p) (upd H1 p (.lst vs))) hE s hI qx fun vs ds G1 H1 I1 s1 t1 h1 r1 ⟨hl, k⟩ => ⟨by rw [r1.length, sizeLine_eq]; omega, fun p hp => by
    have hg : G1 p = none := t1.free hp
    exact q (.ref p) (.lst ds) (upd G1 p (.lst vs)) _ I1 (s1.trans (Evl.Ex.new hg)) (same_upd2 t1) (h1.keep hp t1) ⟨p, vs, rfl, upd_same, r1.mono (Evl.Ex.new hg)⟩ k⟩
  ⟨fun pins s0 J0 r0 hr0 => wpAny_List_spliced ((A1.run pos pins s0 J0).thn hr0 fun us r1 s1 ⟨er, ht⟩ ⟨xs, H1, J1, rs, hz, q1⟩ => by
    subst er
    refine ⟨by rw [← rs.length]; exact hz, _, ⟨rfl, ht⟩, .ref r1.heap.objs.size, upd H1 r1.heap.objs.size (.lst xs), ?_, rfl, q1 _ (J1.hok.fresh (Nat.le_refl _))⟩
    exact J1.laid (t' := r1.toks) (fun b u e => Heap.get?_push_of_some _ e) (Nat.le_refl _) ⟨hz, us, 0, rs, Heap.get?_push_size _ rfl⟩)⟩
theorem gb_freezeL {j : Nat} (hd : δ[j]? = some (some (.adr q))) (h : GB X g W sts (δ.set j (some (.lst ds))) I κ) : GB X g W sts δ (I.and (iLst X.K q ds)) κ := fun σ G H E hE s hI kk => by
  obtain ⟨G', s', t', h', r'⟩ := freeze_lst s hI
  refine h σ G' H E ?_ t' h' (kk.mono s')
  obtain ⟨v, hv, rv⟩ := hE.2 j _ hd
  have ev : v = .ref q := rv
  subst ev
  have e2 := (hE.mono s').set (i := j) r'
  have e3 : σ.set j (some (.ref q)) = σ := by
    apply List.ext_getElem?
    intro i
    by_cases hj : j = i
    · subst hj
      rw [List.getElem?_set_self (List.getElem?_eq_some_iff.mp hv).1, hv]
    · rw [List.getElem?_set_ne hj]
  rwa [e3] at e2
theorem ge_cmp {a b : Expr} {op : CmpOp} {r : R2} (ho : OpR X (compareOp op) r) (h : GE X g W R a δ I fun x I1 => GE X g W R b δ I1 fun y I2 => Op2 X.K r x y I2 P) (hm : behindInMarks op b = false := by first | exact nomark _ | rfl) : GE X g W R (.Compare a [op] [b] pos) δ I P := fun σ G H Q hE s hI qx q =>
  have A1 := h σ G H (fun v H1 => wgE g b σ H1 fun u H2 => r v u H2 Q) hE s hI qx fun v x G1 H1 I1 s1 t1 h1 r1 k1 => k1 σ G1 H1 _ (hE.mono s1) t1 h1 (qx.mono s1) fun u y G2 H2 I2 s2 t2 h2 r2 k2 => k2 G2 H2 v u Q t2 h2 (r1.mono s2) r2 (q.mono (s1.trans s2))
  ⟨fun pins s0 J0 r0 hr => wpAny_Compare1 ((A1.run pins s0 J0).thn hr fun v r1 s1 hr1 ⟨x, H1, J1, rx, q1⟩ => (q1.run pins s1 J1).thn hr1 fun u r2 s2 hr2 ⟨y, H2, J2, ry, q2⟩ => J.of (ho pins s2 σ H2 x y v u Q J2 rx ry q2) r2 hr2) hm⟩
end
end GL
set_option Elab.async false
set_option linter.all false
set_option maxRecDepth 100000
set_option maxHeartbeats 1000000
namespace LK
open PySem PySem.Spec PyProof.Rows L2 DL GL
theorem cut_last (ds : List D) : cutD ds none (some (-1)) = ds.dropLast := by
  show (ds.drop _).take _ = _
  rw [List.dropLast_eq_take]
  have e1 : HT.sIx ds.length 0 none = 0 := rfl
  have e2 : HT.sIx ds.length ds.length (some (-1)) = ds.length - 1 := by
    show (if (-1 : Int) < 0 then ((-1 : Int) + (ds.length : Int)).toNat else min (Int.toNat (-1)) ds.length) = _
    rw [if_pos (by decide)]
    omega
  rw [e1, e2]; rfl
theorem q_word (w : Str) : (Tk.word w).s = w := str_ext rfl
theorem q_text (x : Str) : "'" ++ Txt.replace x "'" "''" ++ "'" = (Tk.text x).s := str_ext (by
  have e1 : (("'" : Str)).cps.toList = [39] := by decide
  rw [Str.cps_append, Str.cps_append, Array.toList_append, Array.toList_append, repl_dbl, e1]; rfl)
def ptsW (w : Wr) : List Str := [w.k, w.l, (Tk.text w.t).s, w.e]
theorem pts_filter {w : Wr} (g : GoodR w) : (ptsW w).filter (fun s : Str => !decide (s = "")) = (tksW w).map Tk.s := by
  obtain ⟨k, t, l, e⟩ := w
  have hk : decide (k = "") = false := decide_eq_false fun z => by
    have := g.g.gk
    have z2 : (⟨k, t, l, e⟩ : Wr).k = "" := z
    rw [z2] at this
    exact absurd this (by decide)
  have ht : decide ((Tk.text t).s = "") = false := decide_eq_false fun z => by
    have := congrArg (fun s : Str => s.cps.toList) z
    exact absurd this (by show ¬ (39 :: (dblQ t.cps.toList ++ [39]) = _); intro q; cases q)
  show ([k, l, (Tk.text t).s, e] : List Str).filter (fun s : Str => !decide (s = "")) = (Tk.word k :: ((if l = "" then [] else [Tk.word l]) ++ (Tk.text t :: (if e = "" then [] else [Tk.word e])))).map Tk.s
  rw [List.filter_cons_of_pos (by rw [hk]; rfl)]
  rw [List.map_cons, q_word]
  congr 1
  by_cases hl : l = ""
  · rw [List.filter_cons_of_neg (by simp [hl]), if_pos hl, List.filter_cons_of_pos (by rw [ht]; rfl)]
    show _ = (Tk.text t).s :: _
    congr 1
    by_cases he : e = ""
    · rw [List.filter_cons_of_neg (by simp [he]), if_pos he]; rfl
    · rw [List.filter_cons_of_pos (by simp [he]), if_neg he]
      show _ = [(Tk.word e).s]
      rw [q_word]; rfl
  · rw [List.filter_cons_of_pos (by simp [hl]), if_neg hl, List.filter_cons_of_pos (by rw [ht]; rfl)]
    show _ = (Tk.word l).s :: (Tk.text t).s :: _
    rw [q_word]
    congr 2
    by_cases he : e = ""
    · rw [List.filter_cons_of_neg (by simp [he]), if_pos he]; rfl
    · rw [List.filter_cons_of_pos (by simp [he]), if_neg he]
      show _ = [(Tk.word e).s]
      rw [q_word]; rfl
theorem tksW_len (v : Wr) : (tksW v).length ≤ 4 := by
  unfold tksW
  by_cases h1 : v.l = "" <;> by_cases h2 : v.e = "" <;> simp [h1, h2]
section
variable {P : Program} {w : World} {K : PySem.W.Frag} {mg : Str → Option Value} {base : Heap}
end
end LK
set_option Elab.async false
set_option linter.all false
set_option maxRecDepth 100000
set_option maxHeartbeats 1000000
namespace LK
open PySem PySem.Spec PyProof.Rows L2 DL GL
def lensT (ts : List Tk) : Nat := (ts.map fun t => t.cps.length).sum
section
variable {P : Program} {w : World} {K : PySem.W.Frag} {mg : Str → Option Value} {base : Heap}
end
end LK
set_option Elab.async false
set_option linter.all false
set_option maxRecDepth 100000
set_option maxHeartbeats 4000000
namespace DL
open PySem PySem.Spec PyProof.Rows L2
section
variable {X : Cx} {o i f : Expr} {δ : DEnv} {I : Iv X.K} {apos pos : Pos} {y z dflt d : D} {k : Key} {kds : List (Key × D)}
end
end DL
set_option Elab.async false
set_option linter.all false
set_option maxRecDepth 100000
set_option maxHeartbeats 4000000
namespace DL
open PySem PySem.Spec PyProof.Rows L2
section
variable {X : Cx} {W : WX} {R : Rx X.K} {o e : Expr} {δ : DEnv} {I : Iv X.K} {apos pos ep : Pos} {q : Addr} {k : Str} {ss : List Str} {κ : Ko X.K} {ds : List D}
end
end DL
set_option Elab.async false
set_option linter.all false
set_option maxRecDepth 100000
set_option maxHeartbeats 4000000
namespace DL
open PySem PySem.Spec PyProof.Rows L2
section
variable {X : Cx} {e : Expr} {δ : DEnv} {I : Iv X.K} {p1 p2 p3 pos : Pos} {k : Nat} {ds : List D}
end
end DL
set_option Elab.async false
set_option linter.all false
set_option maxRecDepth 100000
set_option maxHeartbeats 4000000
namespace DL
open PySem PySem.Spec PyProof.Rows L2
section
variable {X : Cx} {o e : Expr} {δ : DEnv} {I : Iv X.K} {apos pos : Pos} {k : Str} {ss : List Str}
end
end DL
set_option Elab.async false
set_option linter.all false
set_option maxRecDepth 100000
set_option maxHeartbeats 4000000
namespace DL
open PySem PySem.Spec PyProof.Rows L2
section
variable {X : Cx} {W : WX} {R : Rx X.K} {P : D → Iv X.K → Prop} {o k e : Expr} {δ : DEnv} {I : Iv X.K} {pos apos p2 : Pos} {d : D} {ks : List NestedKey} {p : Addr} {ds : List D}
end
end DL
set_option Elab.async false
set_option linter.all false
set_option maxRecDepth 100000
set_option maxHeartbeats 4000000
namespace DL
open PySem PySem.Spec PyProof.Rows L2
section
variable {X : Cx}
end
section
variable {X : Cx} {e : Expr} {δ : DEnv} {I : Iv X.K} {pos p : Pos} {ds : List D} {W : WX} {R : Rx X.K} {P : D → Iv X.K → Prop}
end
end DL
namespace L2
open PySem PySem.Spec PyProof.Rows
end L2
namespace DL
open PySem PySem.Spec PyProof.Rows L2
section
variable {X : Cx} {e : Expr} {δ : DEnv} {I : Iv X.K} {pos p : Pos} {q : Addr} {F : KF} {kds : List (NestedKey × D)}
end
end DL
set_option Elab.async false
set_option linter.all false
set_option maxRecDepth 100000
set_option maxHeartbeats 4000000
namespace DL
open PySem PySem.Spec PyProof.Rows L2
def setN (kds : List (NestedKey × D)) (k : NestedKey) (d : D) : List (NestedKey × D) := if (getN kds k).isSome then kds.map (fun p => if p.1 = k then (p.1, d) else p) else kds ++ [(k, d)]
theorem MR.upd {K : PySem.W.Frag} {G : Hp} {k : NestedKey} {u : Value} {w : V} {d : D} (hu : RelV w u) (hd : Rep K G d w) : ∀ {kds : List (NestedKey × D)} {xs : L2.MX}, MR K G kds xs → MR K G (kds.map fun p => if p.1 = k then (p.1, d) else p) (xs.map (putAt k u))
  | [], _, h => by rw [show _ = [] from h]; rfl
  | p :: r, _, ⟨a, v, u', rest, e, h1, h2, h3, h4, h5⟩ => by
    have hr := MR.upd (k := k) hu hd h5
    subst e
    rw [List.map_cons, List.map_cons]
    unfold putAt
    by_cases hk : p.1 = k
    · rw [if_pos hk, if_pos hk]
      exact ⟨a, w, u, _, rfl, h1, h2, hu, hd, hr⟩
    · rw [if_neg hk, if_neg hk]
      exact ⟨a, v, u', _, rfl, h1, h2, h3, h4, hr⟩
theorem MR.isSome {K : PySem.W.Frag} {G : Hp} {k : NestedKey} {kds : List (NestedKey × D)} {xs : L2.MX} (mr : MR K G kds xs) : (atKey xs k).isSome = (getN kds k).isSome := by
  cases h : getN kds k with
  | none => rw [mr.get.2 h]; rfl
  | some d0 =>
    obtain ⟨a', u', v', h3, _⟩ := mr.get.1 d0 h
    rw [h3]; rfl
theorem MR.set {K : PySem.W.Frag} {G : Hp} {k : NestedKey} {u : Value} {w : V} {d : D} {a : Addr} {kds : List (NestedKey × D)} {xs : L2.MX} (mr : MR K G kds xs) (h1 : Rep K G (keyN k) (.ref a)) (h2 : k.depth ≤ 8) (hu : RelV w u) (hd : Rep K G d w) : MR K G (setN kds k d) (storedH xs k a u) := by
  unfold setN storedH
  rw [mr.isSome]
  cases (getN kds k).isSome with
  | true => exact mr.upd hu hd
  | false => exact MR.app h1 h2 hu hd mr
structure MemI {K : PySem.W.Frag} (P : Program) (w : World) (I : Iv K) (q : Addr) (kds : List (NestedKey × D)) : Prop where
  h : ∀ (G H : Hp), Same G H → Hd I G H → ∃ xs, H q = some (memoO P w q xs) ∧ MR K G kds xs
theorem MemI.m {K : PySem.W.Frag} {P : Program} {w : World} {q : Addr} {kds : List (NestedKey × D)} (c : Rc K) : MemI P w (c.fill (iMemo P w K q kds)) q kds := ⟨fun G H s hI => let ⟨xs, h1, h2, _⟩ := hI.memo; ⟨xs, h1, h2⟩⟩
theorem MemI.wk {K : PySem.W.Frag} {P : Program} {w : World} {I J : Iv K} {q : Addr} {kds : List (NestedKey × D)} (h : MemI P w I q kds) (k : Wk J I) : MemI P w J q kds := ⟨fun G H s hI => h.h G H s (hI.wk k)⟩
theorem MemI.andL {K : PySem.W.Frag} {P : Program} {w : World} {I J : Iv K} {q : Addr} {kds : List (NestedKey × D)} (h : MemI P w I q kds) : MemI P w (I.and J) q kds := h.wk Wk.dropR
section
variable {X : Cx} {W : WX} {R : Rx X.K} {P : D → Iv X.K → Prop} {o i f e : Expr} {δ : DEnv} {I : Iv X.K} {pos apos ps : Pos} {q : Addr} {kds : List (NestedKey × D)} {ks : List NestedKey} {d : D} {κ : Ko X.K}
end
end DL
set_option Elab.async false
set_option linter.all false
set_option maxRecDepth 100000
set_option maxHeartbeats 4000000
namespace DL
open PySem PySem.Spec PyProof.Rows L2
theorem Reps.erase {K : PySem.W.Frag} {G : Hp} : ∀ {ds : List D} {vs : List V} (j : Nat), Reps K G ds vs → Reps K G (ds.eraseIdx j) (vs.eraseIdx j)
  | [], _, _, h => by rw [show _ = [] from h]; exact rfl
  | d :: ds, _, 0, ⟨v, r, e, _, h⟩ => by rw [e]; exact h
  | d :: ds, _, j + 1, ⟨v, r, e, h1, h⟩ => by rw [e]; exact ⟨v, r.eraseIdx j, rfl, h1, Reps.erase j h⟩
section
variable {X : Cx} {W : WX} {R : Rx X.K} {P : D → Iv X.K → Prop} {o i e : Expr} {δ : DEnv} {I : Iv X.K} {pos p apos ep : Pos} {kds : List (Key × D)} {κ : Ko X.K} {q : Addr} {ds : List D}
end
end DL
set_option Elab.async false
set_option linter.all false
set_option maxRecDepth 100000
set_option maxHeartbeats 4000000
namespace DL
open PySem PySem.Spec PyProof.Rows L2
structure DcI {K : PySem.W.Frag} (I : Iv K) (d : D) (kds : List (Key × D)) : Prop where
  h : ∀ (G H : Hp) (v : V), Same G H → Hd I G H → Rep K G d v → ∃ a kvs, v = .ref a ∧ Rd H a (.dK kvs) ∧ KR K G kds kvs
def iFrz (K : PySem.W.Frag) (q : Addr) (od : Obj) (kvs : List (Key × V)) (kds : List (Key × D)) : Iv K := iObj K q (fun G o => o = .frz od (.dK kvs) ∧ KR K G kds kvs) fun _ _ _ s ⟨h1, h2⟩ => ⟨h1, h2.mono s⟩
section
variable {K : PySem.W.Frag} {I J : Iv K} {d : D} {kds : List (Key × D)} {q : Addr} {od : Obj} {kvs : List (Key × V)} {c : Rc K} {G H : Hp}
theorem DcI.k : DcI I (dicD kds) kds := ⟨fun G H v s _ r => by
  obtain ⟨a, od, kvs, e1, e2, e3⟩ := rep_dicD.mp r
  exact ⟨a, kvs, e1, .inr ⟨od, s _ _ e2⟩, e3⟩⟩
theorem DcI.m (c : Rc K) (eI : I = c.fill (iDic K q kds) := by rfl) : DcI I (.adr q) kds := ⟨fun G H v s hI r => by
  subst eI
  obtain ⟨kvs, hp, r2, _⟩ := hI.dic
  exact ⟨q, kvs, r, .inl hp, r2⟩⟩
theorem Hd.frzd (h : Hd (c.fill (iFrz K q od kvs kds)) G H) : H q = some (.frz od (.dK kvs)) ∧ KR K G kds kvs ∧ G q = none := by
  have p := h.inner
  obtain ⟨o, ho, e, r⟩ := p.ph
  subst e
  exact ⟨ho, r, p.fr q rfl⟩
theorem DcI.f (c : Rc K) (eI : I = c.fill (iFrz K q od kvs kds) := by rfl) : DcI I (.adr q) kds := ⟨fun G H v s hI r => by
  subst eI
  obtain ⟨hp, r2, _⟩ := hI.frzd
  exact ⟨q, kvs, r, .inr ⟨od, hp⟩, r2⟩⟩
theorem DcI.wk (w : Wk I J) (h : DcI J d kds) : DcI I d kds := ⟨fun G H v s hI r => h.h G H v s (hI.wk w) r⟩
structure FzI (I : Iv K) (q : Addr) (od : Obj) (kvs : List (Key × V)) (kds : List (Key × D)) : Prop where
  h : ∀ (G H : Hp), Same G H → Hd I G H → H q = some (.frz od (.dK kvs)) ∧ KR K G kds kvs
theorem FzI.f (c : Rc K) (eI : I = c.fill (iFrz K q od kvs kds) := by rfl) : FzI I q od kvs kds := ⟨fun G H s hI => by
  subst eI
  exact ⟨hI.frzd.1, hI.frzd.2.1⟩⟩
theorem FzI.wk (w : Wk I J) (h : FzI J q od kvs kds) : FzI I q od kvs kds := ⟨fun G H s hI => h.h G H s (hI.wk w)⟩
end
section
variable {X : Cx} {W : WX} {R : Rx X.K} {a b e o i tg iter : Expr} {st : Stmt} {δ : DEnv} {I : Iv X.K} {P : D → Iv X.K → Prop} {pos p2 : Pos} {d x y z : D} {ds : List D} {κ : Ko X.K} {q : Addr} {kds : List (Key × D)} {k : Key} {od : Obj} {kvs : List (Key × V)}
end
end DL
set_option Elab.async false
set_option linter.all false
set_option maxRecDepth 100000
set_option maxHeartbeats 1000000
namespace DL
open PySem PySem.Spec PyProof.Rows L2
section
variable {X : Cx} {W : WX} {elt tg iter : Expr} {scope : Scope} {δ : DEnv} {I : Iv X.K} {Ok : Iv X.K → Prop}
end
end DL
namespace LK
open PySem PySem.Spec PyProof.Rows L2 DL
section
variable {P : Program} {w : World} {K : PySem.W.Frag} {mg : Str → Option Value} {base : Heap}
end
end LK
set_option Elab.async false
set_option linter.all false
set_option maxRecDepth 100000
set_option maxHeartbeats 1000000
namespace DL
open PySem PySem.Spec PyProof.Rows L2
end DL
namespace LK
open PySem PySem.Spec PyProof.Rows L2 DL
structure TbI {K : PySem.W.Frag} (J : Iv K) (m : Addr) (t : Tb) (kds : List (Key × D)) : Prop where
  o : TbOk t
  d : DcI J (.adr m) kds
  k : kds.map (·.1) = t.map fun p => (.inr p.1 : Key)
  l : ∀ p ∈ t, ∃ q, getG kds (.inr p.1) = some (.adr q) ∧ LsI J (.adr q) (p.2.map (wrD K))
theorem TbI.wk {K : PySem.W.Frag} {I J : Iv K} {m : Addr} {t : Tb} {kds : List (Key × D)} (w : Wk I J) (h : TbI J m t kds) : TbI I m t kds := ⟨h.o, h.d.wk w, h.k, fun p hp => let ⟨q, e, l⟩ := h.l p hp; ⟨q, e, l.wk w⟩⟩
section
variable {P : Program} {w : World} {K : PySem.W.Frag} {mg : Str → Option Value} {base : Heap}
end
section
variable {X : Cx} {W : WX} {R : Rx X.K} {I : Iv X.K} {e : Expr} {δ : DEnv} {P : D → Iv X.K → Prop} {pos p : Pos} {t : Tb}
end
end LK
set_option Elab.async false
set_option linter.all false
set_option maxRecDepth 100000
set_option maxHeartbeats 1000000
namespace DL
open PySem PySem.Spec PyProof.Rows L2
theorem EqB.imp {X : Cx} {n : Nat} {E E' : D → D → Bool → Prop} (h : EqB X n E) (k : ∀ x y b, E' x y b → E x y b) : EqB X n E' := ⟨fun A pins s σ G H x y u v dx dy b a1 a2 a3 a4 a5 a6 a7 e => h.run A pins s σ G H x y u v dx dy b a1 a2 a3 a4 a5 a6 a7 (k _ _ _ e), fun pins s σ G H x dx dy b a1 a2 a3 a4 e => h.same pins s σ G H x dx dy b a1 a2 a3 a4 (k _ _ _ e)⟩
end DL
namespace LK
open PySem PySem.Spec PyProof.Rows L2 DL
def castEq (t u : Tb) : Bool := t.length == u.length && t.all fun p => decide (rowOf u p.1 = some p.2)
theorem rowsEq (xs ys : List Wr) : ((xs.length == ys.length) && (List.range (min xs.length ys.length)).all fun i => match xs[i]?, ys[i]? with
    | some a, some c => decide (a = c)
    | _, _ => true) = decide (xs = ys) := by
  refine Bool.eq_iff_iff.mpr ?_
  rw [Bool.and_eq_true, beq_iff_eq, List.all_eq_true, decide_eq_true_eq]
  constructor
  · rintro ⟨hl, h⟩
    refine List.ext_getElem hl fun i h1 h2 => ?_
    have := h i (List.mem_range.mpr (by omega))
    rw [List.getElem?_eq_getElem h1, List.getElem?_eq_getElem h2] at this
    exact of_decide_eq_true this
  · rintro rfl
    refine ⟨rfl, fun i _ => ?_⟩
    cases xs[i]? <;> simp
theorem wEq_dec (a c : Wr) : wEq a.k a.t a.l a.e c.k c.t c.l c.e = decide (a = c) := by
  refine Bool.eq_iff_iff.mpr ?_
  unfold wEq
  simp only [Bool.and_eq_true, decide_eq_true_eq]
  constructor
  · rintro ⟨h1, h2, h3, h4⟩
    cases a; cases c; simp_all
  · rintro rfl
    exact ⟨rfl, rfl, rfl, rfl⟩
def EqRow (K : PySem.W.Frag) (dx dy : D) (b : Bool) : Prop := ∃ xs ys : List Wr, dx = rowD K xs ∧ dy = rowD K ys ∧ b = decide (xs = ys)
theorem hits_tb {K : PySem.W.Frag} {u : Tb} (nd : (u.map (·.1)).Nodup) : ∀ t : Tb, EHits (EqRow K) (u.map fun x => ((.inr x.1 : Key), rowD K x.2)) (t.map fun x => ((.inr x.1 : Key), rowD K x.2)) (t.all fun p => decide (rowOf u p.1 = some p.2))
  | [] => .nil
  | p :: r => by
    rw [List.map_cons, List.all_cons]
    have hg := tb_getO (K := K) nd p.1
    cases h : rowOf u p.1 with
    | none =>
      rw [h] at hg
      rw [show decide ((none : Option (List Wr)) = some p.2) = false by simp, Bool.false_and]
      exact .miss hg
    | some ws =>
      rw [h] at hg
      have e : decide (some ws = some p.2) = decide (p.2 = ws) := Bool.eq_iff_iff.mpr (by simp [eq_comm])
      rw [e]
      exact .hit hg ⟨p.2, ws, rfl, rfl, rfl⟩ (hits_tb nd r)
theorem castEq_self {t : Tb} (nd : (t.map (·.1)).Nodup) : castEq t t = true := by
  unfold castEq
  rw [Bool.and_eq_true, beq_iff_eq, List.all_eq_true]
  exact ⟨rfl, fun p hp => decide_eq_true (rowOf_some nd hp)⟩
def sCEq {K : PySem.W.Frag} : Spec K := fun I ds P _ => ∃ t z, ds = [cD K t, z] ∧ ((∃ u, z = cD K u ∧ (u.map (·.1)).Nodup ∧ P (.bl (castEq t u)) I) ∨ ∃ ty, tyD z = some ty ∧ P (.bl false) I)
section
variable {P : Program} {w : World} {K : PySem.W.Frag} {mg : Str → Option Value} {base : Heap}
theorem eqb_row {X : Cx} (E : Env X.prog X.w X.K X.mg X.base) : EqB X 2 (EqRow X.K) := by
  have h1 : EqB X 1 (fun dx dy b => ∃ a c : Wr, dx = wrD X.K a ∧ dy = wrD X.K c ∧ b = decide (a = c)) := (EqB.own (X := X) (C := cW X.K) E.h_Write_eq.f E.h_Write_eq.i E.k_Write.nW (M_weq E)).imp fun x y b ⟨a, c, e1, e2, e3⟩ =>
    ⟨[.str a.l, .str a.e, .str a.k, .str a.t], [.str c.l, .str c.e, .str c.k, .str c.t], e1, e2, rfl, rfl, rfl, fun e => by
      rw [e3]
      refine decide_eq_true ?_
      cases a; cases c
      simp only [List.cons.injEq, D.str.injEq, and_true] at e
      obtain ⟨h1, h2, h3, h4⟩ := e
      subst h1 h2 h3 h4
      rfl, fun P p => ⟨a.k, a.t, a.l, a.e, .inl ⟨c.k, c.t, c.l, c.e, by rw [e1, e2], by rw [wEq_dec, ← e3]; exact p⟩⟩⟩
  refine h1.tup.imp fun x y b ⟨xs, ys, e1, e2, e3⟩ => ?_
  refine ⟨xs.map (wrD X.K), ys.map (wrD X.K), fun i => match xs[i]?, ys[i]? with
    | some a, some c => decide (a = c)
    | _, _ => true, e1, e2, fun i x y hx hy => ?_, ?_⟩
  · rw [List.getElem?_map] at hx hy
    cases hxi : xs[i]? with
    | none => rw [hxi] at hx; cases hx
    | some a =>
      cases hyi : ys[i]? with
      | none => rw [hyi] at hy; cases hy
      | some c =>
        rw [hxi] at hx
        rw [hyi] at hy
        cases hx
        cases hy
        exact ⟨a, c, rfl, rfl, by simp only [hxi, hyi]⟩
  · rw [List.length_map, List.length_map, rowsEq, e3]
theorem M_ceq (E : Env P w K mg base) : FnR P w K mg base (L2.CX P w) 4 (He.ma K (cC K) "__eq__") (spD K sCEq) := mk_m_Cast_eq E fun fd F => by
  refine fn_d F sc_m_Cast_eq (fun I ds P R h => by obtain ⟨t, z, rfl, _⟩ := h; rfl) fun cdv A outer s H EE hr tk po I ds Q R h => ?_
  obtain ⟨t, z, rfl, h⟩ := h
  have hr3 : Room 3 _ := hr
  rcases h with ⟨u, rfl, nd, q⟩ | ⟨ty, hty, q⟩
  · refine s_one (s_retP (PV.is (pv_andB (k := true) (pv_cb (SlX.call_isiSl (.ref (cC K))) E.b_isinstance (va_cons (pv_v (d := cD K u) 1) (va_cons (pv_gref E.g_Cast) va_nil)) (pn_isiSl E.k_Cast.sc E.k_Cast.si E.k_Cast.kW)) fun _ => pv_one (pv_cmp (op_eqDic (eqb_row E) hr3) (pv_sl E.k_Cast.sc E.s_Cast_table (pv_v 0) rfl) (pv_sl E.k_Cast.sc E.s_Cast_table (pv_v 1) rfl) (p2_eqDic (ka := t.map fun x => ((.inr x.1 : Key), rowD K x.2)) (kb := u.map fun x => ((.inr x.1 : Key), rowD K x.2)) fun _ => hits_tb nd t))) ?_) q)
    rw [Bool.true_and, List.length_map, List.length_map]; rfl
  · exact s_one (s_retP (PV.is (pv_andB (k := false) (l := false) (pv_cb call_isi E.b_isinstance (va_cons (pv_v (d := z) 1) (va_cons (pv_gref E.g_Cast) va_nil)) (pn_isiO hty (E.k_Cast.kT _ (tyD_in hty)))) fun z => nomatch z) rfl) q)
end
section
variable {X : Cx} {I : Iv X.K} {a b : Expr} {δ : DEnv} {pos : Pos} {t : Tb} {n : Str}
end
end LK
set_option Elab.async false
set_option linter.all false
set_option maxRecDepth 100000
set_option maxHeartbeats 4000000
namespace DL
open PySem PySem.Calls PyProof.Rows
section
variable {prog : Program} {w : World} {A : Around} {E : Value → Shared → Prop} {s : Shared} {K : Type} [DecidableEq K] {knd : KeyKind prog w K}
end
end DL
set_option Elab.async false
set_option linter.all false
set_option maxRecDepth 100000
set_option maxHeartbeats 4000000
namespace L2
open PySem PySem.Spec PyProof.Rows
section
variable {X : Cx} {a b : Expr} {ta tb : TE} {pos : Pos} {A : Around}
end
end L2
namespace DL
open PySem PySem.Spec PyProof.Rows L2
theorem KR.len {K : PySem.W.Frag} {G : Hp} : ∀ {kds : List (Key × D)} {kvs : List (Key × V)}, KR K G kds kvs → kvs.length = kds.length
  | [], _, h => by rw [show _ = [] from h]; rfl
  | _ :: _, _, ⟨v, r, e, _, h⟩ => by rw [e, List.length_cons, List.length_cons, KR.len h]
section
variable {X : Cx} {W : WX} {R : Rx X.K} {a b : Expr} {δ : DEnv} {I : Iv X.K} {P : D → Iv X.K → Prop} {pos : Pos} {k1 k2 : List (Key × D)}
end
end DL
set_option Elab.async false
set_option linter.all false
set_option maxRecDepth 100000
set_option maxHeartbeats 4000000
namespace L2
open PySem PySem.Spec PyProof.Rows
section
variable {X : Cx}
end
end L2
namespace DL
open PySem PySem.Spec PyProof.Rows L2
section
variable {X : Cx} {W : WX} {R : Rx X.K} {o e i : Expr} {δ : DEnv} {I : Iv X.K} {apos pos ep ps : Pos} {q : Addr} {κ : Ko X.K} {kds more : List (Key × D)}
end
end DL
set_option Elab.async false
set_option linter.all false
set_option maxRecDepth 100000
set_option maxHeartbeats 1000000
namespace LK
open PySem PySem.Spec PyProof.Rows L2 DL
def clashT (t u : Tb) : Option Str := (t.map (·.1)).find? fun n => (rowOf u n).isSome
theorem TbOk.app {t u : Tb} (o : TbOk t) (o2 : TbOk u) (h : clashT t u = Option.none) (hm : t.length + u.length ≤ 6) : TbOk (t ++ u) := by
  unfold clashT at h
  rw [List.find?_eq_none] at h
  refine ⟨?_, fun p hp => (List.mem_append.mp hp).elim (o.nm p) (o2.nm p), fun p hp => (List.mem_append.mp hp).elim (o.row p) (o2.row p), by rw [List.length_append]; have := o.n; omega, by rw [List.length_append]; exact hm⟩
  rw [List.map_append, List.nodup_append]
  refine ⟨o.nd, o2.nd, fun a ha b hb e => ?_⟩
  subst e
  refine h a ha ?_
  cases q : rowOf u a with
  | none => exact absurd hb (rowOf_none.mp q)
  | some x => rfl
section
variable {P : Program} {w : World} {K : PySem.W.Frag} {mg : Str → Option Value} {base : Heap}
end
end LK
set_option Elab.async false
set_option linter.all false
set_option maxRecDepth 100000
set_option maxHeartbeats 4000000
namespace DL
open PySem PySem.Spec PyProof.Rows L2
section
variable {prog : Program} {w : World} {A : Around} {E : Value → Shared → Prop} {s : Shared}
end
end DL
namespace L2
open PySem PySem.Spec PyProof.Rows
section
variable {X : Cx} {a k e : Expr} {ta tk tv : TE} {pos : Pos}
end
end L2
namespace DL
open PySem PySem.Spec PyProof.Rows L2
section
variable {X : Cx} {W : WX} {R : Rx X.K} {a k e : Expr} {δ : DEnv} {I : Iv X.K} {P : D → Iv X.K → Prop} {pos : Pos} {k1 : List (Key × D)} {z0 : D} {kk : Str}
end
end DL
set_option Elab.async false
set_option linter.all false
set_option maxRecDepth 100000
set_option maxHeartbeats 4000000
namespace DL
open PySem PySem.Spec PyProof.Rows L2
section
variable {X : Cx} {W : WX} {n : Nat} {C : Addr} {S : Spec X.K} {δ : DEnv} {I : Iv X.K} {o i value : Expr} {pos ps : Pos} {κ : Ko X.K}
end
section
variable {X : Cx} {W : WX} {R : Rx X.K} {δ : DEnv} {I : Iv X.K} {a : Expr} {pos p : Pos} {kds : List (Key × D)}
end
end DL
set_option Elab.async false
set_option linter.all false
set_option maxRecDepth 100000
set_option maxHeartbeats 4000000
namespace DL
open PySem PySem.Spec PyProof.Rows L2
section
variable {X : Cx} {W : WX} {R : Rx X.K} {tg iter kx vx cnd : Expr} {scope : Scope} {δ : DEnv} {I : Iv X.K} {P : D → Iv X.K → Prop} {pos : Pos}
end
section
variable {X : Cx} {e : Expr} {es : List Expr} {δ : DEnv} {I : Iv X.K} {ds : List D} {p : Pos}
end
end DL
set_option Elab.async false
set_option linter.all false
set_option maxRecDepth 100000
set_option maxHeartbeats 1000000
namespace LK
open PySem PySem.Spec PyProof.Rows L2 DL
abbrev ORow := List (Option Wr)
abbrev OTb := List (Str × ORow)
def thO : Option Wr → Th
  | some w => .wr w
  | none => .ot .non
def frO (r : ORow) : List Th := r.map thO
theorem sortW_permE {α : Type} {t u : List (Str × α)} (nd : (t.map (·.1)).Nodup) (h : t.Perm u) : sortW t = sortW u := by
  have h1 := (sortW_perm t).trans (h.trans (sortW_perm u).symm)
  have e : (sortW t).map (·.1) = (sortW u).map (·.1) := by rw [sortW_names, sortW_names]; exact sortS_congr (h.map _)
  have ndt : ((sortW t).map (·.1)).Nodup := ((sortW_perm t).map (·.1)).nodup_iff.mpr nd
  have ndu : ((sortW u).map (·.1)).Nodup := e ▸ ndt
  apply List.ext_getElem?
  intro i
  cases ht : (sortW t)[i]? with
  | none =>
    have hl : (sortW t).length = (sortW u).length := h1.length_eq
    rw [List.getElem?_eq_none_iff] at ht
    rw [List.getElem?_eq_none (by omega)]
  | some p =>
    have hl : (sortW t).length = (sortW u).length := h1.length_eq
    have hi := (List.getElem?_eq_some_iff.mp ht).1
    have hiu : i < (sortW u).length := by omega
    rw [List.getElem?_eq_getElem hiu]
    have hn : ((sortW u)[i]).1 = p.1 := by
      have h2 : ((sortW t).map (·.1))[i]? = some p.1 := by rw [List.getElem?_map, ht]; rfl
      rw [e, List.getElem?_map, List.getElem?_eq_getElem hiu] at h2
      simpa using h2
    have hm : p ∈ sortW u := h1.mem_iff.mp (List.mem_of_getElem? ht)
    obtain ⟨j, hj, ej⟩ := List.getElem_of_mem hm
    have h3 : ((sortW u).map (·.1))[i]'(by rw [List.length_map]; exact hiu) = ((sortW u).map (·.1))[j]'(by rw [List.length_map]; exact hj) := by
      rw [List.getElem_map, List.getElem_map, hn, ej]
    have hij := (List.getElem_inj ndu).mp h3
    subst hij
    rw [ej]
structure PassO (u : OTb) (f : Str × ORow → Wv) : Prop where
  h : ∀ p ∈ u, f p = .ls (frO p.2) ∨ f p = .tp (frO p.2)
inductive Ed where
  | set (n : Str) (k : Int) (o : Option Wr)
  | ins (n : Str) (k : Int) (ws : List Wr)
  | rem (n : Str) (k : Int) (m : Nat)
  | add (n : Str) (ws : List Wr)
  | drop (n : Str)
inductive Er where
  | clash (n : Str)
  | unk (n : Str)
  | num (k : Int)
  | inv (n : Str) (o : Option Nat)
end LK
set_option Elab.async false
set_option linter.all false
set_option maxRecDepth 100000
set_option maxHeartbeats 1000000
namespace LK
open PySem PySem.Spec PyProof.Rows L2 DL GL
structure LineOk (row : Str × List Wr) (line : Str) : Prop where
  lay : ∃ cols, Loose none 0 (tksL row) line.cps.toList cols
  n : line.length ≤ lensT (tksL row) + 4 * (tksL row).length + 1
theorem name_ok {s : Str} (h : isNameS s = true) : (Tk.word s).Ok := by
  have hl := isName_len h
  refine ⟨fun e => ?_, fun c hc => ?_⟩
  · have := congrArg List.length e
    rw [← str_len] at this
    simp at this
    omega
  · unfold isNameS at h
    simp only [Bool.and_eq_true, List.all_eq_true, decide_eq_true_eq] at h
    exact h.2 c (by first | exact hc | exact Array.mem_toList_iff.mpr hc | simpa using hc)
theorem word_ok {s : Str} (h : s ∈ kindsL ∨ (s ∈ leadsL ∧ s ≠ "") ∨ (s ∈ tailsL ∧ s ≠ "")) : (Tk.word s).Ok := by
  have : s ∈ (["say", "ask", "reply", "show", "return", "wipe", "fresh", "erase", "newline"] : List Str) := by
    simp only [List.mem_cons, List.not_mem_nil, or_false] at h ⊢
    rcases h with (h | h | h | h) | ⟨h | h | h | h, h2⟩ | ⟨h | h | h, h2⟩ <;> first | exact absurd h h2 | simp [h]
  simp only [List.mem_cons, List.not_mem_nil, or_false] at this
  rcases this with rfl | rfl | rfl | rfl | rfl | rfl | rfl | rfl | rfl <;> exact ⟨by decide, by decide⟩
theorem tksW_ok {w : Wr} (g : GoodR w) : ∀ t ∈ tksW w, t.Ok ∧ isOpn t = false := by
  intro t ht
  unfold tksW at ht
  rcases List.mem_cons.mp ht with e | ht
  · subst e; exact ⟨word_ok (.inl g.g.gk), rfl⟩
  rcases List.mem_append.mp ht with ht | ht
  · by_cases hl : w.l = ""
    · rw [if_pos hl] at ht; cases ht
    · rw [if_neg hl] at ht
      rw [List.mem_singleton.mp ht]
      exact ⟨word_ok (.inr (.inl ⟨g.g.gl, hl⟩)), rfl⟩
  rcases List.mem_cons.mp ht with e | ht
  · subst e; exact ⟨trivial, rfl⟩
  · by_cases hl : w.e = ""
    · rw [if_pos hl] at ht; cases ht
    · rw [if_neg hl] at ht
      rw [List.mem_singleton.mp ht]
      exact ⟨word_ok (.inr (.inr ⟨g.g.ge, hl⟩)), rfl⟩
theorem tksM_ok {ws : List Wr} (g : ∀ w ∈ ws, GoodR w) : ∀ t ∈ tksM ws, t.Ok ∧ isOpn t = false := by
  intro t ht
  obtain ⟨w, hw, ht⟩ := List.mem_flatMap.mp ht
  rcases List.mem_cons.mp ht with e | ht
  · subst e; exact ⟨⟨by decide, by decide, by decide⟩, rfl⟩
  · exact tksW_ok (g w hw) t ht
theorem tksL_ok {p : Str × List Wr} (hn : isNameS p.1 = true) (g : ∀ w ∈ p.2, GoodR w) : ∀ t ∈ tksL p, t.Ok ∧ isOpn t = false := by
  intro t ht
  unfold tksL at ht
  rcases List.mem_cons.mp ht with e | ht
  · subst e; exact ⟨name_ok hn, rfl⟩
  rcases List.mem_cons.mp ht with e | ht
  · subst e; exact ⟨⟨by decide, by decide, by decide⟩, rfl⟩
  · exact tksM_ok g t (List.mem_of_mem_drop ht)
theorem tkw_len {s : Str} (h : (Tk.word s).Ok) (hl : s.length ≤ 8) : (Tk.word s).cps.length ≤ 8 := by
  show s.cps.toList.length ≤ 8
  rw [← str_len]; exact hl
theorem tkt_len {x : Str} (h : x.length ≤ 40) : (Tk.text x).cps.length ≤ 82 := by
  show (39 :: (dblQ x.cps.toList ++ [39])).length ≤ 82
  have := dblQ_len x.cps.toList
  rw [← str_len] at this
  simp; omega
theorem kw_len {s : Str} (h : s ∈ kindsL ∨ s ∈ leadsL ∨ s ∈ tailsL) : s.length ≤ 7 := by
  simp only [List.mem_cons, List.not_mem_nil, or_false] at h
  rcases h with (rfl | rfl | rfl | rfl) | (rfl | rfl | rfl | rfl) | (rfl | rfl | rfl) <;> decide
theorem lensT_app (a b : List Tk) : lensT (a ++ b) = lensT a + lensT b := by unfold lensT; simp
theorem lensT_cons (a : Tk) (b : List Tk) : lensT (a :: b) = a.cps.length + lensT b := by unfold lensT; simp
theorem tksW_lens {w : Wr} (g : GoodR w) : lensT (tksW w) ≤ 103 := by
  have h1 : (Tk.word w.k).cps.length ≤ 7 := by show w.k.cps.toList.length ≤ 7; rw [← str_len]; exact kw_len (.inl g.g.gk)
  have h2 : (Tk.word w.l).cps.length ≤ 7 := by show w.l.cps.toList.length ≤ 7; rw [← str_len]; exact kw_len (.inr (.inl g.g.gl))
  have h3 : (Tk.word w.e).cps.length ≤ 7 := by show w.e.cps.toList.length ≤ 7; rw [← str_len]; exact kw_len (.inr (.inr g.g.ge))
  have h4 := tkt_len g.h
  unfold tksW
  rw [lensT_cons, lensT_app, lensT_cons]
  have e0 : lensT [] = 0 := rfl
  by_cases c1 : w.l = "" <;> by_cases c2 : w.e = ""
  · rw [if_pos c1, if_pos c2, e0]; omega
  · rw [if_pos c1, if_neg c2, lensT_cons, e0]; omega
  · rw [if_neg c1, if_pos c2, lensT_cons, e0]; omega
  · rw [if_neg c1, if_neg c2, lensT_cons, lensT_cons, e0]; omega
theorem tksM_lens : ∀ {ws : List Wr}, (∀ w ∈ ws, GoodR w) → lensT (tksM ws) ≤ 104 * ws.length ∧ (tksM ws).length ≤ 5 * ws.length
  | [], _ => ⟨Nat.le_refl _, Nat.le_refl _⟩
  | w :: ws, g => by
    obtain ⟨h1, h2⟩ := tksM_lens (ws := ws) fun v hv => g v (List.mem_cons_of_mem _ hv)
    have h3 := tksW_lens (g w (List.mem_cons_self ..))
    have h4 := tksW_len w
    have e : tksM (w :: ws) = .sign 59 :: (tksW w ++ tksM ws) := by unfold tksM; rw [List.flatMap_cons]; rfl
    rw [e, lensT_cons, lensT_app]
    simp only [List.length_cons, List.length_append]
    have e1 : (Tk.sign 59).cps.length = 1 := rfl
    omega
theorem tksL_lens {p : Str × List Wr} (hn : isNameS p.1 = true) (g : ∀ w ∈ p.2, GoodR w) (hl : p.2.length ≤ 6) : lensT (tksL p) ≤ 640 ∧ (tksL p).length ≤ 32 ∧ ∀ t ∈ tksL p, t.cps.length ≤ 1000 := by
  obtain ⟨h1, h2⟩ := tksM_lens g
  have h3 := tkw_len (name_ok hn) (isName_len hn).2
  have h5 : ∀ l : List Tk, lensT (l.drop 1) ≤ lensT l := fun l => by
    cases l with
    | nil => exact Nat.le_refl _
    | cons a b => rw [lensT_cons]; exact Nat.le_add_left _ _
  have h6 := h5 (tksM p.2)
  have h7 : ((tksM p.2).drop 1).length ≤ (tksM p.2).length := by rw [List.length_drop]; omega
  have e1 : (Tk.sign 58).cps.length = 1 := rfl
  have hL : lensT (tksL p) ≤ 640 := by
    unfold tksL
    rw [lensT_cons, lensT_cons]
    omega
  refine ⟨hL, ?_, fun t ht => ?_⟩
  · unfold tksL
    rw [List.length_cons, List.length_cons]
    omega
  · obtain ⟨a, b, e⟩ := List.append_of_mem ht
    rw [e, lensT_app, lensT_cons] at hL
    omega
theorem loose_free {p : Option Tk} {i : Nat} {ts : List Tk} {r cs : List Nat} (h : Loose p i ts r cs) : (∀ t ∈ ts, 10 ∉ t.cps) → 10 ∉ r := by
  induction h with
  | nil m => intro _ hm; exact absurd (List.eq_of_mem_replicate hm) (by decide)
  | cons n _ _ ih =>
    intro hf hm
    rcases List.mem_append.mp hm with h1 | h1
    · exact absurd (List.eq_of_mem_replicate h1) (by decide)
    rcases List.mem_append.mp h1 with h1 | h1
    · exact hf _ (List.mem_cons_self ..) h1
    · exact ih (fun t ht => hf t (List.mem_cons_of_mem _ ht)) h1
theorem mem_dbl {c : Nat} {l : List Nat} (h : c ∈ dblQ l) : c ∈ l := by
  induction l with
  | nil => exact h
  | cons k r ih =>
    rw [dblQ_cons] at h
    by_cases hk : k = 39
    · rw [if_pos hk] at h
      rcases List.mem_cons.mp h with e | h
      · rw [e, hk]; exact List.mem_cons_self ..
      rcases List.mem_cons.mp h with e | h
      · rw [e, hk]; exact List.mem_cons_self ..
      · exact List.mem_cons_of_mem _ (ih h)
    · rw [if_neg hk] at h
      rcases List.mem_cons.mp h with e | h
      · rw [e]; exact List.mem_cons_self ..
      · exact List.mem_cons_of_mem _ (ih h)
theorem word_free {s : Str} (h : (Tk.word s).Ok) : 10 ∉ (Tk.word s).cps := fun hm => absurd (h.2 10 hm) (by decide)
theorem text_free {x : Str} (h : ∀ c ∈ x.cps.toList, c ∈ SIGNS.cps.toList) : 10 ∉ (Tk.text x).cps := fun hm => by
  rcases List.mem_cons.mp hm with e | hm
  · exact absurd e (by decide)
  rcases List.mem_append.mp hm with hm | hm
  · exact absurd (h 10 (mem_dbl hm)) (by decide +kernel)
  · exact absurd (List.mem_singleton.mp hm) (by decide)
theorem tksL_free {p : Str × List Wr} (hn : isNameS p.1 = true) (g : ∀ w ∈ p.2, GoodR w) : ∀ t ∈ tksL p, 10 ∉ t.cps := by
  have hw : ∀ w, GoodR w → ∀ t ∈ tksW w, 10 ∉ t.cps := fun w gw t ht => by
    have ok := (tksW_ok gw t ht).1
    cases t with
    | word s => exact word_free ok
    | text x =>
      have : x = w.t := by
        unfold tksW at ht
        simp only [List.mem_cons, List.mem_append] at ht
        rcases ht with h | h | h | h
        · cases h
        · by_cases hl : w.l = ""
          · rw [if_pos hl] at h; cases h
          · rw [if_neg hl] at h; cases List.mem_singleton.mp h
        · cases h; rfl
        · by_cases hl : w.e = ""
          · rw [if_pos hl] at h; cases h
          · rw [if_neg hl] at h; cases List.mem_singleton.mp h
      subst this
      exact text_free gw.g.gs
    | sign c =>
      have := (tksW_ok gw _ ht)
      unfold tksW at ht
      simp only [List.mem_cons, List.mem_append] at ht
      rcases ht with h | h | h | h
      · cases h
      · by_cases hl : w.l = ""
        · rw [if_pos hl] at h; cases h
        · rw [if_neg hl] at h; cases List.mem_singleton.mp h
      · cases h
      · by_cases hl : w.e = ""
        · rw [if_pos hl] at h; cases h
        · rw [if_neg hl] at h; cases List.mem_singleton.mp h
    | opn v => have := (tksW_ok gw _ ht).2; cases this
  intro t ht
  unfold tksL at ht
  rcases List.mem_cons.mp ht with e | ht
  · subst e; exact word_free (name_ok hn)
  rcases List.mem_cons.mp ht with e | ht
  · subst e; show 10 ∉ [58]; decide
  · obtain ⟨w, hw2, ht⟩ := List.mem_flatMap.mp (List.mem_of_mem_drop ht)
    rcases List.mem_cons.mp ht with e | ht
    · subst e; show 10 ∉ [59]; decide
    · exact hw w (g w hw2) t ht
theorem rowL_good {p : Str × List Wr} {line : Str} {cols : List Nat} (hn : isNameS p.1 = true) (g : ∀ w ∈ p.2, GoodR w) (hl : p.2.length ≤ 6) (h : Loose none 0 (tksL p) line.cps.toList cols) (hlen : line.length ≤ 1000) : RowL line (ofT (tksL p) cols (line.length + 1)) ∧ (tksL p).length ≤ cols.length := by
  obtain ⟨h1, h2, ds, h3, h4⟩ := loose_lay h (fun t ht => (tksL_ok hn g t ht).1) (fun t ht => (tksL_ok hn g t ((List.dropLast_sublist _).subset ht)).2)
  have hc : (tksL p).length ≤ cols.length := by omega
  have h32 := (tksL_lens hn g hl).2.1
  refine ⟨⟨hlen, ⟨ds, h3, ?_⟩, ofT_end hc, ?_, ?_⟩, hc⟩
  · rw [h4]
    unfold ofT
    rw [List.map_append, List.map_map]
    rfl
  · unfold ofT
    rw [List.length_append, List.length_map, List.length_zip]
    simp; omega
  · have hs := ofT_st (e := line.length + 1) hc
    have : ((ofT (tksL p) cols (line.length + 1)).map f2).drop 0 = (((("word" : Str)), p.1) : Str × Str) :: ((tksL p).drop 1).map f3 ++ endS := by
      rw [List.drop_zero, hs]; rfl
    rw [(st_at this).2.1]
    have := (isName_len hn).2
    show p.1.length ≤ 1000
    omega
theorem read_good : ∀ (zs : List ((Str × List Wr) × Str)) (n : Nat) (t0 : Tb), (∀ z ∈ zs, LineOk z.1 z.2 ∧ isNameS z.1.1 = true ∧ (∀ w ∈ z.1.2, GoodR w) ∧ 1 ≤ z.1.2.length ∧ z.1.2.length ≤ 6) → ((t0 ++ zs.map (·.1)).map (·.1)).Nodup →
    ∃ ls : List (List T3), ls.length = zs.length ∧ (∀ (i : Nat) z l, zs[i]? = some z → ls[i]? = some l → RowL z.2 l) ∧ ReadR n t0 ls (.ok (t0 ++ zs.map (·.1)))
  | [], n, t0, _, _ => ⟨[], rfl, fun i z l h => (by simp at h), by simpa using ReadR.done⟩
  | z :: zs, n, t0, hz, nd => by
    obtain ⟨lo, hn, g, h1, h6⟩ := hz z (List.mem_cons_self ..)
    obtain ⟨cols, hL⟩ := lo.lay
    obtain ⟨l1, l2, _⟩ := tksL_lens hn g h6
    have hlen : z.2.length ≤ 1000 := by have := lo.n; omega
    obtain ⟨hr, hc⟩ := rowL_good hn g h6 hL hlen
    have e0 : t0 ++ (z :: zs).map (·.1) = (t0 ++ [z.1]) ++ zs.map (·.1) := by simp
    rw [e0] at nd ⊢
    obtain ⟨ls, q1, q2, q3⟩ := read_good zs (n + 1) (t0 ++ [z.1]) (fun y hy => hz y (List.mem_cons_of_mem _ hy)) nd
    have hnew : z.1.1 ∉ t0.map (·.1) := by
      rw [List.map_append, List.map_append] at nd
      have := (List.nodup_append.mp (List.nodup_append.mp nd).1).2.2
      exact fun hm => this _ hm _ (by simp) rfl
    refine ⟨ofT (tksL z.1) cols (z.2.length + 1) :: ls, by simp [q1], fun i y l hy hl => ?_, .go (nm := z.1.1) (ws := z.1.2) ?_ q3⟩
    · cases i with
      | zero =>
        cases hy; cases hl
        exact hr
      | succ i => exact q2 i y l hy hl
    · refine lineR_good (isName_len hn).2 (decide_eq_false hnew) g (fun e => by rw [e] at h1; exact absurd h1 (by decide)) ?_
      exact ofT_st hc
end LK
set_option Elab.async false
set_option linter.all false
set_option maxRecDepth 100000
set_option maxHeartbeats 4000000
namespace GL
open PySem PySem.Spec PyProof.Rows L2 DL
section
variable {α : Type} {m : Sem α} {M : Model} {A : Around} {Q Q' : α → Shared → Prop} {E E' : Value → Shared → Prop} {s : Shared} {T : Nat}
theorem thk (t : T ≤ s.toks) (h : wpAny M A m Q E s) (k : ∀ a s', T ≤ s'.toks → Q a s' → Q' a s') : wpAny M A m Q' E s := wpAny_mono (PySem.wpAny_toks_of t h) (fun a s' q => k a s' q.1 q.2) fun _ _ q => q.2
theorem thkF (t : T ≤ s.toks) (h : wpAny M A m Q (fun _ _ => False) s) (k : ∀ a s', T ≤ s'.toks → Q a s' → Q' a s') : wpAny M A m Q' E s := wpAny_mono (PySem.wpAny_toks_of t h) (fun a s' q => k a s' q.1 q.2) fun _ _ q => q.2.elim
theorem J.out {P : Program} {w : World} (h : J (gT P w T) A m Q E s) (t : T ≤ s.toks) : wpAny (model P w) A m Q E s := wpAny_mono (h s ⟨rfl, t⟩) (fun a r ⟨s', e, q⟩ => by rw [e.1]; exact q) fun e r ⟨s', e', q⟩ => by rw [e'.1]; exact q
theorem J.inn {P : Program} {w : World} (h : T ≤ s.toks → wpAny (model P w) A m Q E s) : J (gT P w T) A m Q E s := fun r ⟨e, t⟩ => by
  subst e
  exact (J.of (G := gT P w T) (h t)) r ⟨rfl, t⟩
end
section
variable {X : Cx} {T : Nat} {W : WX} {R : Rx X.K} {o e : Expr} {es : List Expr} {δ : DEnv} {I : Iv X.K} {κ : Ko X.K} {P : D → Iv X.K → Prop} {apos pos : Pos}
theorem ge_join {sep : Str} (ho : PV X I o δ (.str sep)) (h : GE X (gT X.prog X.w T) W R e δ I fun d I1 => ∃ ss : List Str, d = .lst (ss.map D.str) ∧ (ss.map (·.length)).sum + ss.length * sep.length ≤ 16777216 ∧ P (.str (Txt.join sep ss)) I1)
    (hs : starEach [e] X.env = [(false, eval e X.env)] := by rfl) (hbase : attributeBase o "join" X.env (eval o X.env) = eval o X.env := by rfl) (hline : (apos.endLine == pos.line) = true := by rfl) : GE X (gT X.prog X.w T) W R (.Call (.Attribute o "join" apos) [e] [] pos) δ I P := fun σ G H Q hE s hI qx q => by
  have A1 := ho W R (fun z J => z = .str sep ∧ J = I) ⟨rfl, rfl⟩ σ G H (fun v H1 => v = .str sep ∧ wgE (gT X.prog X.w T) e σ H1 fun y H2 => ∃ (a : Addr) (ys : List Str), y = .ref a ∧ SqL X.K H2 a (ys.map V.str) ∧ (ys.map (·.length)).sum + ys.length * sep.length ≤ 16777216 ∧ Q (.str (Txt.join sep ys)) H2) hE s hI qx fun v d G1 H1 I1 s1 t1 h1 r1 ⟨ed, ei⟩ => by
    subst ed ei
    refine ⟨r1, h σ G1 H1 _ (hE.mono s1) t1 h1 (qx.mono s1) fun w d2 G2 H2 I2 s2 t2 h2 r2 ⟨ss, e2, hz, p2⟩ => ?_⟩
    subst e2
    obtain ⟨a, vs, e3, e4, e5⟩ := r2
    have e6 := repsStr e5
    subst e6
    exact ⟨a, ss, e3, SqL.of (t2 _ _ e4), hz, q _ (.str (Txt.join sep ss)) G2 H2 I2 (s1.trans s2) t2 h2 rfl p2⟩
  refine ⟨fun pins s0 J0 => J.inn fun ht => ?_⟩
  refine PySem.Call_method1 hbase hs hline (thk ht (A1.run pins s0 J0) fun v s1 ht1 ⟨x, H1, J1, r1, ex, w1⟩ => ?_)
  subst ex
  obtain ⟨t, rfl⟩ := _root_.id r1
  refine ⟨"str", _, F.plainAttrs_str, F.slot_str_join, F.type_str_join, typeIs_str _ _ _, (fun _ e => nomatch e), Calls.callWith_builtin rfl (Calls.evalArgs_plain (Calls.spliced_cons ?_))⟩
  refine thn ((w1.run pins s1 J1).out ht1) fun u s2 ⟨y, H2, J2, r2, a, ys, ey, sq, hz, q2⟩ => Calls.spliced_nil (mt_join pins s2 σ H2 _ [y] _ [u] Q J2 r1 (.cons r2 .nil) ⟨sep, a, ys, rfl, by rw [ey], .inl sq, hz, q2⟩)
theorem g_append {p : Addr} {ds : List D} {ep : Pos} (ho : PV X I o δ (.adr p)) (li : LsI I (.adr p) ds) (h : GE X (gT X.prog X.w T) W (κ.r δ) e δ I fun d I1 => ∃ (c : Rc X.K) (ds : List D), I1 = c.fill (iLst X.K p ds) ∧ ds.length < 1000000 ∧ κ.nx δ (c.fill (iLst X.K p (ds ++ [d]))))
    (hbase : attributeBase o "append" X.env (eval o X.env) = eval o X.env := by rfl)
    (hfew : ((backTo pos (starEach [e] X.env)).all (fun x => !x.1) && (backToKw pos (keywordEach [] X.env)).all (fun x => x.1.isSome) && decide ([e].length + ([] : List Keyword).length + (if ([] : List Keyword).isEmpty then 0 else 1) < 30)) = true := by rfl)
    (hline : (apos.endLine == pos.line) = true := by rfl) (hst : starEach [e] X.env = (false, eval e X.env) :: starEach [] X.env := by rfl) (hpl : (backTo pos (starEach [] X.env)).any (·.1) = false := by rfl)
    (hs : swapsWith (.Call (.Attribute o "append" apos) [e] [] pos) none ep.line X.env = pure false := by rfl) : G1 X (gT X.prog X.w T) W (.Expr (.Call (.Attribute o "append" apos) [e] [] pos) ep) δ I κ := fun σ G H E hE s hI k => by
  have A1 := ho W (κ.r δ) (fun z I1 => z = .adr p ∧ I1 = I) ⟨rfl, rfl⟩ σ G H (fun v H1 => v = .ref p ∧ (∃ vs, H1 p = some (.lst vs)) ∧ wgE (gT X.prog X.w T) e σ H1 fun y H2 => ∃ xs, H2 p = some (.lst xs) ∧ xs.length < sizeLine ∧ E.nx σ (upd H2 p (.lst (xs ++ [y])))) hE s hI (k.kx hE) fun v d1 G1 H1 I1 s1 t1 h1 r1 ⟨ed, ei⟩ => by
    subst ed ei
    obtain ⟨a, vs, ev, hp, rv⟩ := li.h G1 H1 v t1 h1 r1
    obtain rfl : v = .ref p := r1
    cases ev
    refine ⟨rfl, ⟨_, hp⟩, ?_⟩
    refine h σ G1 H1 _ (hE.mono s1) t1 h1 ((k.kx hE).mono s1) fun w d2 G2 H2 I2 s2 t2 h2 r2 ⟨c, ds2, ei, hz, nx⟩ => ?_
    subst ei
    obtain ⟨vs2, hp2, rv2, gp2⟩ := h2.lst
    exact ⟨vs2, hp2, by rw [rv2.length, sizeLine_eq]; omega, k.nx δ σ G2 _ _ (s1.trans s2) (same_upd t2 gp2) (h2.lstSet (rv2.append (Reps.one r2))) (hE.mono (s1.trans s2)) nx⟩
  refine ⟨fun pins s0 J0 => J.inn fun ht => ?_⟩
  rw [exec_Expr X.env _ ep J0.quiet hs]
  refine wpAny_bind (wpAny_standAt (wpAny_bind ?_))
  refine wpAny_Call_method_late hbase hfew hline rfl (thk ht (A1.run pins s0 J0) fun v s1 ht1 ⟨x, H1, J1, r1, ex, ⟨vs0, hp0⟩, w1⟩ => ?_)
  subst ex
  obtain ⟨h1, h2⟩ := tyV_is (T := "list") J1 r1 (.inl ⟨rfl, _, .inl (.inl hp0)⟩)
  refine ⟨"list", _, PySem.F.plainAttrs_list, PySem.F.slot_list_append, PySem.F.type_list_append, h1, h2, ?_⟩
  rw [hst]
  refine Calls.callWith_builtin rfl (Calls.evalArgs_plain (Calls.spliced_cons ?_))
  refine thn ((w1.run pins s1 J1).out ht1) fun u s2 ⟨y, H2, J2, r2, xs, hp2, hz, q2⟩ => Calls.spliced_nil ?_
  obtain rfl : v = Value.ref p := r1
  exact app_ok J2 hp2 hz r2 fun s3 J3 => wpAny_dropValue (Q := SP X pins E) ⟨σ, _, J3, q2⟩
end
end GL
set_option Elab.async false
set_option linter.all false
set_option maxRecDepth 100000
set_option maxHeartbeats 4000000
namespace GL
open PySem PySem.Spec PyProof.Rows L2 DL
section
variable {X : Cx} {T : Nat}
theorem lc_T {pins : List (Addr × Obj)} {s : Shared} {σ : L2.St} {H : Hp} {Q : VK} {elt tg iter : Expr} {scope : Scope} {own : List (Str × Nat)} {pos pos' : Pos} {wi : TI} {g : TG} {te : TE} {Qf : Value → Shared → Prop}
    (hT : T ≤ s.toks) (hc : X.calm = true) (hN : X.N.Nodup) (I : Inv X pins σ H s) (hi : PI X tg iter wi) (ok : BlkOk X.N X.env.scope scope own)
    (hg : ∀ (s : Shared) (H : Hp) (C : Addr) (cl : List (Str × Addr)) (fp : List Addr), PG (X.blk s H scope (compEnvC scope cl C X.env) fp) tg g)
    (he : ∀ (s : Shared) (H : Hp) (C : Addr) (cl : List (Str × Addr)) (fp : List Addr) (pins : List (Addr × Obj)) (s1 : Shared) (σ : L2.St) (H1 : Hp) (Q : VK), Inv (X.blk s H scope (compEnvC scope cl C X.env) fp) pins σ H1 s1 → T ≤ s1.toks → te σ H1 Q →
      wpAny (model X.prog X.w) X.A (eval elt (compEnvC scope cl C X.env)) (EP (X.blk s H scope (compEnvC scope cl C X.env) fp) pins σ Q) (fun _ _ => False) s1) (hs : ∀ x, foldedSetIterable iter X.env x = pure x)
    (h : tLc wi g tYes te (own.map (·.2)) σ H Q)
    (hRR : ∀ D C s' m H', Inv X pins σ H' s' → Q (.ref D) H' → s'.heap.Ns C m → FpOk X pins H' C → compPost (model X.prog X.w) X.A X.xe none Qf (.ref D) C (.ok .next) s') :
    wpAny (model X.prog X.w) X.A (comprehension (.ListComp elt [⟨tg, iter, [], 0⟩] scope pos) scope X.env pos' (newList []) false (eval iter X.env) none) Qf X.xe s := by
  have hfree : ∀ y ∈ scope.names, y.2 = .free → ∃ c, X.env.cells.lookup y.1 = some c := fun y hy e => I.ok.has _ ((ok.free y hy e).elim .inl .inr)
  refine wpAny_comprehension_free (use := none) rfl hs (closure_ok hfree) ok.kind (fun y hy e => by rw [ok.uniq y hy, e]) (thk hT (hi.run pins s σ H _ I h) fun xv s1 ht1 hx => thk ht1 hx fun itv s2 ht2 h2 => ?_)
  obtain ⟨it, fp, tn, J, H2, e, I2, TT, st2, f2, q⟩ := h2
  subst e
  refine wpAny_newObj_type (newEnv_comp ?_) (by show 0 ≤ sizeLine; decide)
  generalize hD : s2.heap.objs.size = D
  obtain ⟨V, ⟨m0, w0⟩, turn⟩ := q D (I2.hok.fresh (Nat.le_of_eq hD))
  have ht3 : T ≤ ({ s2 with heap := s2.heap.push { cls := .type "list", data := .seq ([] : List Value).toArray } } : Shared).toks := ht2
  generalize hs3 : ({ s2 with heap := s2.heap.push { cls := .type "list", data := .seq ([] : List Value).toArray } } : Shared) = s3 at ht3
  have I3 : Inv X pins σ (upd H2 D (.lst [])) s3 := by
    rw [← hs3]
    refine I2.laid (t' := s2.toks) (fun b o e => Heap.get?_push_of_some _ e) (Nat.le_of_eq hD) ⟨Nat.zero_le _, [], 0, .nil, ?_⟩
    rw [← hD]
    exact Heap.get?_push_size _ rfl
  have h3 : s3.heap = s2.heap.push { cls := .type "list", data := .seq ([] : List Value).toArray } := by rw [← hs3]
  have f3 : ∀ b ∈ fp, FpOk X pins (upd H2 D (.lst [])) b ∧ b < s3.heap.objs.size := fun b hb => by
    obtain ⟨o, e, _⟩ := TT.obj _ _ st2 b hb
    have lt := Heap.lt_size e
    exact ⟨⟨(upd_ne (by rw [← hD]; exact Nat.ne_of_lt lt)).trans (f2 b hb).1, (f2 b hb).2⟩, by rw [h3, Heap.size_push]; exact Nat.lt_succ_of_lt lt⟩
  have st3 : tn 0 s3.heap := TT.keep _ _ _ st2 fun b _ o e => by rw [h3]; exact Heap.get?_push_of_some _ e
  have I4 := block_start I3 ok hN f3
  have pg := hg s3 (upd H2 D (.lst [])) s3.heap.objs.size (cellsFrom (s3.heap.objs.size + 1) scope.names (cloFrom X.env.cells scope.names [])) fp
  have pe := he s3 (upd H2 D (.lst [])) s3.heap.objs.size (cellsFrom (s3.heap.objs.size + 1) scope.names (cloFrom X.env.cells scope.names [])) fp
  show codeAny _ _ (.compStart (.ListComp elt [⟨tg, iter, [], 0⟩] scope pos) 0 (.ref it) (.ref D) (compEnvC scope (cellsFrom (s3.heap.objs.size + 1) scope.names (cloFrom X.env.cells scope.names [])) s3.heap.objs.size X.env)) (compPost (model X.prog X.w) X.A X.xe none Qf (.ref D) s3.heap.objs.size) { s3 with heap := pushCells (s3.heap.push { cls := .type "dict", data := .dict #[] }) scope.names }
  have nfp : ∀ b ∈ fp, (upd H2 D (.lst [])) b = none := fun b hb => (f3 b hb).1.1
  generalize hce : compEnvC scope (cellsFrom (s3.heap.objs.size + 1) scope.names (cloFrom X.env.cells scope.names [])) s3.heap.objs.size X.env = ce at I4 pg pe ⊢
  have cL : ce.locals = s3.heap.objs.size := by subst hce; rfl
  generalize hH3 : upd H2 D (.lst []) = H3 at I3 I4 pg pe w0 nfp f3
  have ht4 : T ≤ ({ s3 with heap := pushCells (s3.heap.push { cls := .type "dict", data := .dict #[] }) scope.names } : Shared).toks := ht3
  generalize hs4 : ({ s3 with heap := pushCells (s3.heap.push { cls := .type "dict", data := .dict #[] }) scope.names } : Shared) = s4 at I4 ht4 ⊢
  have st4 : tn 0 s4.heap := TT.keep _ _ _ st3 fun b _ o e => by rw [← hs4]; exact pushCells_keeps _ _ _ _ (Heap.get?_push_of_some _ e)
  have stat : ∀ {σ' : L2.St} {H' : Hp} {s' : Shared}, Inv (X.blk s3 H3 scope ce fp) [] σ' H' s' → (∀ b ∈ fp, H' b = none) → ∀ b ∈ fp, FpOk (X.blk s3 H3 scope ce fp) [] H' b := fun {σ' H' s'} I' hn b hb =>
    ⟨hn b hb, (I'.ok.exf b hb).1, I'.ok.exfs b hb, .inl hb, fun x c e => (I'.ok.exf b hb).2 x c e, fun p hp => absurd (show p ∈ ([] : List (Addr × Obj)) ++ [] from hp) (by simp)⟩
  have loop : codeAny (model X.prog X.w) X.A (.compLoop (.ListComp elt [⟨tg, iter, [], 0⟩] scope pos) 0 (.ref it) (.ref D) ce) (compPost (model X.prog X.w) X.A X.xe none Qf (.ref D) s3.heap.objs.size) s4 := by
    refine compLoop_any (fun n s' => T ≤ s'.toks ∧ ∃ i H', Inv (X.blk s3 H3 scope ce fp) [] (wipe σ (own.map (·.2))) H' s' ∧ tn i s'.heap ∧ (∀ b ∈ fp, H' b = none) ∧ V i n H') ?_ m0 ⟨ht4, 0, H3, I4, st4, nfp, w0⟩
    rintro n s5 ⟨ht5, i, H5, I5, st5, n5, w5⟩
    rcases turn i n H5 w5 with ⟨stop, qq⟩ | ⟨go, Nx, hNx, step⟩
    · refine thnF (TT.done (X.blk s3 H3 scope ce fp) rfl rfl rfl hc i [] s5 _ H5 (fun _ _ => False) I5 (stat I5 n5) st5 stop) fun r s6 ⟨hr, I6⟩ => ?_
      subst hr
      have I7 : Inv X pins σ H5 s6 := I3.call' (ch := fp) I6.os I6.base I6.hok I6.bare fun b hb => ⟨(f3 b hb).1.2.2.2.1, (f3 b hb).1.2.1, (f3 b hb).1.2.2.2.2.1, (f3 b hb).1.2.2.2.2.2⟩
      have nC : H5 s3.heap.objs.size = none := by
        have z : H5 ce.locals = none := I6.free
        rwa [cL] at z
      obtain ⟨m, hn, _⟩ := I6.loc
      have hn : s6.heap.Ns ce.locals m := hn
      rw [cL] at hn
      exact hRR D s3.heap.objs.size s6 m H5 I7 qq hn (I3.fpOk (Nat.le_refl _) nC)
    · refine thkF ht5 (TT.item (X.blk s3 H3 scope ce fp) rfl rfl rfl hc i [] s5 _ H5 (fun _ _ => False) I5 (stat I5 n5) st5 go) fun r s6 ht6 ⟨u, hr, h6⟩ => ?_
      subst hr
      refine thkF ht6 h6 fun _ s7 ht7 ⟨x, H7, I7, r7, y7, st7, n7⟩ => ?_
      have I7' := I7.pinned (stat I7 n7) (TT.obj _ _ st7)
      refine thkF ht7 (pg.run _ s7 _ H7 x u _ I7' r7 (step x H7 y7)) fun _ s8 ht8 ⟨σ8, H8, I8, hw8, q8⟩ => ?_
      refine thkF ht8 ((pts_nil (X := X.blk s3 H3 scope ce fp)).run _ s8 σ8 H8 _ I8 q8) fun b s9 ht9 ⟨H9, I9, q9⟩ => ?_
      have fin : ∀ {s' : Shared} {H' : Hp}, T ≤ s'.toks → Inv (X.blk s3 H3 scope ce fp) ([] ++ pinsAt fp s7.heap) σ8 H' s' → Nx H' → ∃ m, m < n ∧ T ≤ s'.toks ∧ ∃ i H', Inv (X.blk s3 H3 scope ce fp) [] (wipe σ (own.map (·.2))) H' s' ∧ tn i s'.heap ∧ (∀ b ∈ fp, H' b = none) ∧ V i m H' := fun {s' H'} ht' I' nx => by
        obtain ⟨m', hm, w'⟩ := hNx H' nx
        have pin' : ∀ b ∈ fp, ∀ o, s7.heap.get? b = some o → s'.heap.get? b = some o ∧ H' b = none := fun b hb o e =>
          let z := I'.pin (b, o) (List.mem_append_right _ (List.mem_append_right _ (mem_pinsAt hb e)))
          ⟨z.1, z.2.1⟩
        refine ⟨m', hm, ht', i + 1, H', (I'.unpinned (pins := [])).weak (by rw [← hw8, wipe_length]) (fun j v e => (wipe_some (hw8 ▸ e)).1), TT.keep _ _ _ st7 fun b hb o e => (pin' b hb o e).1, fun b hb => ?_, w'⟩
        obtain ⟨o, e, _⟩ := TT.obj _ _ st7 b hb
        exact (pin' b hb o e).2
      cases b with
      | false =>
        simp only [Bool.false_eq_true, if_false] at q9 ⊢
        exact fin ht9 I9 q9
      | true =>
        simp only [if_true] at q9 ⊢
        refine thkF ht9 (pe _ s9 σ8 H9 _ I9 ht9 q9) fun z s10 ht10 ⟨yv, H10, I10, r10, acc, hD10, hz10, nx⟩ => ?_
        exact thk ht10 (app_ok (X := X.blk s3 H3 scope ce fp) (E := fun _ _ => False) (Q := fun _ s11 => Inv (X.blk s3 H3 scope ce fp) ([] ++ pinsAt fp s7.heap) σ8 (upd H10 D (.lst (acc ++ [yv]))) s11) I10 hD10 hz10 r10 fun s11 I11 => I11) (fun _ s11 ht11 I11 => fin ht11 I11 nx) |> fun q => wpAny_mono q (fun _ _ z => z) fun _ _ z => z.elim
  exact codeAny_compStart_list loop (TT.self X.A 0 _ _ _ st4 loop)
end
section
variable {X : Cx} {T : Nat} {W : WX} {R : Rx X.K} {elt tg iter : Expr} {scope : Scope} {δ : DEnv} {I : Iv X.K} {P : D → Iv X.K → Prop} {pos : Pos}
theorem ge_lcM {α : Type} {xs : List α} {g : α → D} (f : α → D) (own : List (Str × Nat)) (δ' : α → DEnv) (hi : PVI X I tg iter δ (xs.map g)) (hz : xs.length ≤ 1000000)
    (hb : ∀ (x : α) (s : Shared) (H : Hp) (C : Addr) (cl : List (Str × Addr)) (fp : List Addr), BindD (X.blk s H scope (compEnvC scope cl C X.env) fp) tg (g x) (wipeD δ (own.map (·.2))) (δ' x) (own.map (·.2)))
    (he : ∀ x, x ∈ xs → ∀ (J : Iv X.K) (s : Shared) (H : Hp) (C : Addr) (cl : List (Str × Addr)) (fp : List Addr), GE (X.blk s H scope (compEnvC scope cl C X.env) fp) (gT X.prog X.w T) W0 R0 elt (δ' x) (I.and J) fun d I' => d = f x ∧ I' = I.and J)
    (pp : P (.lst (xs.map f)) I) (hN : X.N.Nodup := by assumption) (ok : blkC X.N X.env.scope scope own = true := by rfl)
    (hc : X.calm = true := by rfl) (hs : ∀ x, foldedSetIterable iter X.env x = pure x := by intro _; rfl) : GE X (gT X.prog X.w T) W R (.ListComp elt [⟨tg, iter, [], 0⟩] scope pos) δ I P := fun σ G H Q hE s hI qx q => by
  have lc : tLc (wpI X tg iter) (fun v σ H Q => ∀ s0 H0 C cl fp, wpG (X.blk s0 H0 scope (compEnvC scope cl C X.env) fp) tg v σ H Q) tYes
      (fun σ H Q => ∀ s0 H0 C cl fp, wgE (X := X.blk s0 H0 scope (compEnvC scope cl C X.env) fp) (gT X.prog X.w T) elt σ H Q) (own.map (·.2)) σ H Q := by
    refine hi W R (fun ds I1 => ds = xs.map g ∧ I1 = I) ⟨rfl, rfl⟩ σ G H _ hE s hI qx fun J ds G1 H1 I1 s1 t1 h1 wk ⟨eds, eI⟩ D hD => ?_
    subst eds eI
    have gD : G1 D = none := t1.free hD
    have apart : ∀ a, ¬ (I1.F a ∧ a = D) := fun a ha => h1.dom ha.1 (by rw [ha.2]; exact hD)
    refine ⟨fun i m H' => m = (xs.map g).length - i ∧ i ≤ (xs.map g).length ∧ ∃ G', Same G1 G' ∧ Same G' H' ∧ Hd (I1.and (iLst X.K D ((xs.take i).map f))) G' H', ⟨_, rfl, Nat.zero_le _, G1, Same.refl _, same_upd t1 gD, ?_⟩, ?_⟩
    · exact Hd.mk2 (h1.newp hD) ⟨⟨_, upd_same, [], rfl, rfl⟩, fun a ha => by rw [show a = D from ha]; exact gD⟩ apart
    · rintro i m H' ⟨rfl, hi, G', s2, t2, hd2⟩
      by_cases hlt : i < (xs.map g).length
      · refine .inr ⟨wk.go i G' H' s2 t2 hlt, fun H3 => ∃ G3, Same G1 G3 ∧ Same G3 H3 ∧ Hd (I1.and (iLst X.K D ((xs.take (i + 1)).map f))) G3 H3, fun H3 ⟨G3, q3, q4, q5⟩ => ⟨(xs.map g).length - (i + 1), by omega, rfl, hlt, G3, q3, q4, q5⟩, fun x H3 hyl => ?_⟩
        obtain ⟨G3, s3, t3, h3, _, d, hd, rd⟩ := wk.yld i G' H' _ x H3 s2 t2 hd2 hlt hyl
        obtain ⟨y, hy, rfl⟩ := get_map hd
        intro s0 H0 C cl fp
        refine hb y s0 H0 C cl fp x _ G3 H3 _ (((hE.mono s1).mono (s2.trans s3)).wipe _) t3 rd fun σ4 e4 ew => ⟨by rw [ew, wipe_wipe], ?_⟩
        simp only [tYes, if_true]
        intro s0 H0 C cl fp
        refine he y (List.mem_of_getElem? hy) (iLst X.K D ((xs.take i).map f)) s0 H0 C cl fp σ4 G3 H3 _ e4 t3 h3 kx0 fun z dz G5 H5 I5 s5 t5 h5 r5 ⟨ez, eI⟩ => ?_
        subst ez eI
        obtain ⟨o, ho, vs, ev, rv⟩ := h5.right.ph
        subst ev
        have g5 : G5 D = none := h5.right.fr D rfl
        have hl : (xs.take i).length ≤ i := by rw [List.length_take]; omega
        rw [List.length_map] at hlt
        refine ⟨vs, ho, ?_, G5, (s2.trans s3).trans s5, same_upd t5 g5, ?_⟩
        · rw [rv.length, sizeLine_eq, List.length_map]; omega
        · rw [take_snoc hy, List.map_append]
          refine Hd.mk2 (h5.left.chg fun hf => apart D ⟨hf, rfl⟩) ⟨⟨_, upd_same, _, rfl, rv.append (Reps.one r5)⟩, h5.right.fr⟩ apart
      · have ei : i = (xs.map g).length := by omega
        subst ei
        have hd2 := hd2
        rw [List.length_map, List.take_length] at hd2
        obtain ⟨o, ho, vs, ev, rv⟩ := hd2.right.ph
        subst ev
        have g5 : G' D = none := hd2.right.fr D rfl
        refine .inl ⟨wk.stop G' H' s2 t2, q (.ref D) (.lst (xs.map f)) (upd G' D (.lst vs)) H' I1 ((s1.trans s2).trans (Evl.Ex.new g5)) (same_freeze t2 ho) ?_ ⟨D, vs, rfl, upd_same, rv.mono (Evl.Ex.new g5)⟩ pp⟩
        exact ⟨I1.loc G' _ H' H' (Evl.Ex.new g5) (fun _ _ => rfl) hd2.left.ph, fun a ha => by rw [upd_ne fun e => apart a ⟨ha, e⟩]; exact hd2.left.fr a ha⟩
  refine ⟨fun pins s0 J0 => J.inn fun ht => ?_⟩
  rw [eval_ListComp]
  refine lc_T ht hc hN J0 piC (blkOk_by ok) (fun s0 H0 C cl fp => ⟨fun pins s σ H v u Q J r k => (k s0 H0 C cl fp).run pins s u J r⟩) (fun s0 H0 C cl fp pins s1 σ H1 Q J t k => ((k s0 H0 C cl fp).run pins s1 J).out t) hs lc fun D C s' m H' I' q hn f => ⟨m, hn, fun h'' sb => ?_⟩
  obtain ⟨f0, f1, f2, f3, f4, f5⟩ := f
  exact ⟨.ref D, H', I'.turned (t' := s'.toks) (fun b o hb e => (sb.2 b hb).trans e) f0 f1 f3 f4 f5, rfl, q⟩
end
end GL
set_option Elab.async false
set_option linter.all false
set_option maxRecDepth 100000
set_option maxHeartbeats 1000000
namespace LK
open PySem PySem.Spec PyProof.Rows L2 DL GL
theorem sjoin_len (y : Str) : ∀ parts : List Str, (Str.join y parts).length ≤ (parts.map (·.length)).sum + parts.length * y.length
  | [] => Nat.zero_le _
  | [p] => by show p.length ≤ _; simp
  | p :: q :: r => by
    have ih := sjoin_len y (q :: r)
    have e : (p ++ y ++ Str.join y (q :: r)).length = p.length + y.length + (Str.join y (q :: r)).length := by
      rw [str_len, Str.cps_append, Str.cps_append, Array.toList_append, Array.toList_append, List.length_append, List.length_append, ← str_len, ← str_len, ← str_len]
    show (p ++ y ++ Str.join y (q :: r)).length ≤ _
    rw [e]
    simp only [List.map_cons, List.sum_cons, List.length_cons] at ih ⊢
    have e2 : (r.length + 1 + 1) * y.length = (r.length + 1) * y.length + y.length := Nat.succ_mul _ _
    omega
theorem tj_len (y : Str) (parts : List Str) : (Txt.join y parts).length ≤ (parts.map (·.length)).sum + parts.length * y.length := by
  rw [TL.join_eq]; exact sjoin_len y parts
theorem sum_le {α : Type} {f : α → Nat} {m : Nat} : ∀ {l : List α}, (∀ x ∈ l, f x ≤ m) → (l.map f).sum ≤ l.length * m
  | [], _ => by simp
  | x :: l, h => by
    have h1 := h x (List.mem_cons_self ..)
    have h2 := sum_le (l := l) fun y hy => h y (List.mem_cons_of_mem _ hy)
    rw [List.map_cons, List.sum_cons, List.length_cons, Nat.succ_mul]
    omega
def wtS (w : Wr) : Str := Txt.join " " ((tksW w).map Tk.s)
def lineTx (p : Str × List Wr) : Str := p.1 ++ ": " ++ Txt.join " ; " (p.2.map wtS)
theorem sum_tks (ts : List Tk) : ((ts.map Tk.s).map (·.length)).sum = lensT ts := by
  unfold lensT
  rw [List.map_map]
  exact congrArg List.sum (List.map_congr_left fun t _ => Tk.s_n t)
theorem wtS_len {w : Wr} (g : GoodR w) : (wtS w).length ≤ 120 := by
  have h1 := tj_len " " ((tksW w).map Tk.s)
  have h2 := tksW_lens g
  have h3 := tksW_len w
  have h4 : ((" " : Str)).length = 1 := by decide
  rw [sum_tks, List.length_map, h4] at h1
  unfold wtS
  omega
theorem lineTx_len {p : Str × List Wr} (hn : isNameS p.1 = true) (g : ∀ w ∈ p.2, GoodR w) (hl : p.2.length ≤ 8) : (lineTx p).length ≤ 1000 ∧ (Txt.join " ; " (p.2.map wtS)).length ≤ 984 ∧ ((p.2.map wtS).map (·.length)).sum ≤ 960 := by
  have h1 := tj_len " ; " (p.2.map wtS)
  have h4 : ((" ; " : Str)).length = 3 := by decide
  have h5 : ((": " : Str)).length = 2 := by decide
  have h2 : ((p.2.map wtS).map (·.length)).sum ≤ p.2.length * 120 := by
    rw [List.map_map]
    exact sum_le fun w hw => wtS_len (g w hw)
  have h3 := (isName_len hn).2
  rw [List.length_map, h4] at h1
  unfold lineTx
  rw [app_len, app_len, h5]
  omega
section
variable {P : Program} {w : World} {K : PySem.W.Frag} {mg : Str → Option Value} {base : Heap} {T : Nat}
def sWriteT {K : PySem.W.Frag} : Spec K := fun I ds P _ => ∃ v : Wr, ds = [wrD K v] ∧ GoodR v ∧ P (.str (wtS v)) I
def sWriteC {K : PySem.W.Frag} : Spec K := fun I ds P _ => ∃ t : Tb, ds = [cD K t] ∧ TbOk t ∧ P (.str (Txt.join "\n" (t.map lineTx))) I
theorem DG_writeText (E : Env P w K mg base) (qm : QuoM mg T) : DefG P w K mg base (gT P w T) "write_text" 3 ["write"] [] sWriteT := by
  obtain ⟨fd, F⟩ := E.has _ in_f_write_text
  have F : FunD K "write_text" "write_text" (defArgs f_write_text) (defBody f_write_text) (defScope f_write_text) [] [] (He.ga K "write_text") fd := F
  refine DefG.of E.g_write_text F ?_ fun _ _ _ _ _ _ us hl => match us, hl with | [_], _ => rfl
  refine fn_g F sc_f_write_text (fun I ds P R h => by obtain ⟨v, rfl, _⟩ := h; rfl) fun cdv A outer s H EE hr tk po I ds Q R h => ?_
  obtain ⟨v, rfl, g, q⟩ := h
  have nd := sc_f_write_text.nd
  have hu := hr.units
  have hr2 : Room 2 _ := hr
  have hl := g.h
  have hrl : (Txt.replace v.t "'" "''").length ≤ 80 := by
    rw [str_len, repl_dbl]
    have := dblQ_len v.t.cps.toList
    rw [← str_len] at this
    omega
  have hl1 : ((("'" : Str)).length) = 1 := by decide
  have hA : (("'" : Str)).length + (Txt.replace v.t "'" "''").length ≤ 100000 := by rw [hl1]; omega
  have hB : ("'" ++ Txt.replace v.t "'" "''").length + (("'" : Str)).length ≤ 100000 := by rw [app_len, hl1]; omega
  refine g_cons (g_set 1 (gt_lst ?_))
  refine ga_cons (GE.of ((pv_wkind E hr2 (pv_v (d := wrD K v) 0)).ev ?_))
  refine ga_cons (GE.of ((pv_wlead E hr2 (pv_v (d := wrD K v) 0)).ev ?_))
  refine ga_cons (ge_op op_addT (ge_op op_addT (GE.of ((pv_gstr E.c_QUOTE).ev ?_))))
  refine gt_replD (x := v.t) qm.x rfl (by omega) (pv_wtext E hr2 (pv_v (d := wrD K v) 0)) (p2_addT hA _ ?_)
  refine GE.of ((pv_gstr E.c_QUOTE).ev (p2_addT hB _ ?_))
  refine ga_cons (GE.of ((pv_wtail E hr2 (pv_v (d := wrD K v) 0)).ev (GA.of (ea_nil ⟨Nat.le_of_ble_eq_true rfl, ?_⟩))))
  rw [show D.lst [.str v.k, .str v.l, .str ("'" ++ Txt.replace v.t "'" "''" ++ "'"), .str v.e] = .lst ((ptsW v).map D.str) from by rw [q_text]; rfl]
  have ef : D.lst (((ptsW v).filter (fun s : Str => !decide (s = ""))).map D.str) = .lst (((tksW v).map Tk.s).map D.str) := by rw [pts_filter g]
  have hz : (((tksW v).map Tk.s).map (·.length)).sum + ((tksW v).map Tk.s).length * ((" " : Str)).length ≤ 16777216 := by
    have h2 := tksW_lens g
    have h3 := tksW_len v
    have h4 : ((" " : Str)).length = 1 := by decide
    rw [sum_tks, List.length_map, h4]
    omega
  exact GB.of (s_one (s_ret (ev_join pv_str ((PV.is (pv_lcT (xs := ptsW v) (g := D.str) D.str (fun s : Str => !decide (s = "")) [("word", 2)] (fun s => [some (wrD K v), some (.lst ((ptsW v).map D.str)), some (.str s)]) (vi_lst (pv_w 1 rfl)) (Nat.le_of_ble_eq_true rfl) (fun s S H C cl fp => bind_name 2) (fun s hs J S H C cl fp => pt_ne hu (pv_w 2 rfl) pv_str trivial) (fun s hs ht J S H C cl fp => pv_w 2 rfl)) ef).ev ⟨(tksW v).map Tk.s, rfl, hz, q⟩))))
theorem DG_writeCast (E : Env P w K mg base) (qm : QuoM mg T) : DefG P w K mg base (gT P w T) "write_cast" 5 ["cast"] [] sWriteC := by
  obtain ⟨fd, F⟩ := E.has _ in_f_write_cast
  have F : FunD K "write_cast" "write_cast" (defArgs f_write_cast) (defBody f_write_cast) (defScope f_write_cast) [] [] (He.ga K "write_cast") fd := F
  refine DefG.of E.g_write_cast F ?_ fun _ _ _ _ _ _ us hl => match us, hl with | [_], _ => rfl
  refine fn_g F sc_f_write_cast (fun I ds P R h => by obtain ⟨t, rfl, _⟩ := h; rfl) fun cdv A outer s H EE hr tk po I ds Q R h => ?_
  obtain ⟨t, rfl, o, q⟩ := h
  have nd := sc_f_write_cast.nd
  have hu := hr.units
  have hr2 : Room 2 _ := hr.mono (by decide)
  have hr3 : Room 3 _ := hr.mono (by decide)
  have hr4 : Room 4 _ := hr
  have o6 := o.m
  have hsum : ((t.map lineTx).map (·.length)).sum ≤ t.length * 1000 := by
    rw [List.map_map]
    exact sum_le fun p hp => (lineTx_len (o.nm p hp) (o.row p hp).g (o.row p hp).m).1
  refine g_con (s_set 1 (ev_lstM' va_nil (by decide) fun qf => ?_))
  refine g_cons (g_forT (xs := t) (gg := fun p => D.str p.1) po (vi_tup (pv_tub (pv_cnames E hr2 (pv_v (d := cD K t) 0)))) (fun p δ' I' => I' = I.and (iLst K qf ((p.map lineTx).map D.str)) ∧ ∃ o2, δ' = [some (cD K t), some (.adr qf), o2, none]) ⟨rfl, none, rfl⟩ ?_ ?_)
  · rintro p x r δ' I' e ⟨rfl, o2, rfl⟩
    have hx : x ∈ t := by rw [e]; simp
    have hxn := o.nm x hx
    have hrow := o.row x hx
    obtain ⟨l1, l2, l3⟩ := lineTx_len hxn hrow.g hrow.m
    have hm8 := hrow.m
    have hn8 := (isName_len hxn).2
    have h4 : ((" ; " : Str)).length = 3 := by decide
    have h5 : ((": " : Str)).length = 2 := by decide
    have hpl : p.length < 1000 := by
      have := congrArg List.length e
      rw [List.length_append, List.length_cons] at this
      omega
    refine ⟨_, [2], bind_name 2, g_one (g_append (p := qf) (ds := (p.map lineTx).map D.str) (pv_w (d := .adr qf) 1 rfl) (LsI.m (.r I .here)) ?_)⟩
    refine ge_op op_addT (GE.of ((pv_op op_addT (pv_w (d := .str x.1) 2 rfl) pv_str (p2_addT (by rw [h5]; omega))).ev ?_))
    refine ge_join pv_str (ge_lcM (xs := x.2) (g := wrD K) (fun v => .str (wtS v)) [("write", 3)] (fun v => [some (cD K t), some (.adr qf), some (.str x.1), some (wrD K v)]) (vi_tup (pv_cgetT E hr4 o.nd (pv_w (d := cD K t) 0 rfl) (pv_w (d := .str x.1) 2 rfl) (rowOf_some o.nd hx))) (by omega) (fun v s H C cl fp => bind_name 3) (fun v hv J s H C cl fp => ?_) ?_)
    · exact ge_def takesF (DG_writeText E qm) hr3 (GA.of (ea_cons ((pv_w (d := wrD K v) 3 rfl).ev (ea_nil ⟨v, rfl, hrow.g v hv, rfl, rfl⟩))))
    · refine ⟨x.2.map wtS, by rw [List.map_map]; rfl, by rw [List.length_map, h4]; omega, ?_⟩
      refine p2_addT (by rw [app_len, h5]; omega) _ ⟨.r I .here, _, rfl, by rw [List.length_map, List.length_map]; omega, ?_⟩
      exact ⟨by rw [List.map_append, List.map_append]; rfl, _, rfl⟩
  · rintro δ' I' ⟨rfl, o2, rfl⟩
    refine gb_freezeL (j := 1) rfl ?_
    have hnl : ((("\n" : Str)).length) = 1 := by decide
    exact GB.of (s_one (s_ret (ev_join pv_str ((pv_w (d := .lst ((t.map lineTx).map D.str)) 1 rfl).ev ⟨t.map lineTx, rfl, by rw [hnl, List.length_map]; omega, q⟩))))
end
end LK
set_option Elab.async false
set_option linter.all false
set_option maxRecDepth 100000
set_option maxHeartbeats 4000000
namespace GL
open PySem PySem.Spec PyProof.Rows L2 DL
section
variable {X : Cx} {g : Gm X.prog X.w} {T : Nat} {W : WX} {R : Rx X.K} {a b e : Expr} {es rest : List Expr} {δ : DEnv} {I : Iv X.K} {κ : Ko X.K} {P : D → Iv X.K → Prop} {PB : Bool → Iv X.K → Prop} {pos : Pos}
theorem gw_orP {k : Bool} (h : PVT X I a δ k) (h1 : k = true → PB true I) (h2 : k = false → GW X g W R (.BoolOp .Or (b :: es) pos) δ I PB) : GW X g W R (.BoolOp .Or (a :: b :: es) pos) δ I PB := gw_or (GT.of (h W _ _ (by
  cases k with
  | true => exact h1 rfl
  | false => exact h2 rfl)))
theorem ge_oneB {op : BoolOp} (h : GE X (gT X.prog X.w T) W R a δ I P) : GE X (gT X.prog X.w T) W R (.BoolOp op [a] pos) δ I P := fun σ G H Q hE s hI qx q =>
  ⟨fun pins s0 J0 => J.inn fun ht => BoolOp_one (((h σ G H Q hE s hI qx q).run pins s0 J0).out ht)⟩
theorem ge_and (h : GE X (gT X.prog X.w T) W R a δ I fun d I1 => ∃ k : Bool, d = .bl k ∧ if k = true then GE X (gT X.prog X.w T) W R (.BoolOp .And (b :: rest) pos) δ I1 P else P (.bl false) I1) : GE X (gT X.prog X.w T) W R (.BoolOp .And (a :: b :: rest) pos) δ I P := fun σ G H Q hE s hI qx q =>
  have A1 := h σ G H (fun v H1 => ∃ k : Bool, v = .bl k ∧ if k = true then wgE (gT X.prog X.w T) (.BoolOp .And (b :: rest) pos) σ H1 Q else Q (.bl false) H1) hE s hI qx fun v d G1 H1 I1 s1 t1 h1 r1 ⟨k, ed, p⟩ => by
    subst ed
    refine ⟨k, r1, ?_⟩
    cases k with
    | true => exact (show GE X (gT X.prog X.w T) W R (.BoolOp .And (b :: rest) pos) δ I1 P from p) σ G1 H1 Q (hE.mono s1) t1 h1 (qx.mono s1) (q.mono s1)
    | false => exact q (.bl false) (.bl false) G1 H1 I1 s1 t1 h1 rfl p
  ⟨fun pins s0 J0 => J.inn fun ht => by
    refine BoolOp_and (thk ht ((A1.run pins s0 J0).out ht) fun v s1 ht1 ⟨x, H1, J1, r1, k, ex, q1⟩ => ?_)
    subst ex
    cases r1
    refine wpAny_truthy_bool ?_
    cases k with
    | true => exact ((show wgE (gT X.prog X.w T) (.BoolOp .And (b :: rest) pos) σ H1 Q from q1).run pins s1 J1).out ht1
    | false => exact ⟨.bl false, H1, J1, rfl, q1⟩⟩
theorem ge_eqS {x y : Str} (h : GE X g W R e δ I fun d I1 => d = .str x ∧ PV X I1 b δ (.str y) ∧ P (.bl (decide (x = y))) I1) (hm : behindInMarks .Eq b = false := by first | exact nomark _ | rfl) : GE X g W R (.Compare e [.Eq] [b] pos) δ I P :=
  ge_cmp op_eq (h.imp fun d I1 ⟨ed, hb, p⟩ => by
    subst ed
    exact GE.of (hb.ev (p2_eq (b := decide (x = y)) rfl rfl rfl (by simp) _ p))) hm
theorem gt_cmp {op : CmpOp} {r : R2} (ho : OpR X (compareOp op) r) (h : GE X (gT X.prog X.w T) W R a δ I fun x I1 => GE X (gT X.prog X.w T) W R b δ I1 fun y I2 => Op2 X.K r x y I2 fun z I3 => ∃ k, z = .bl k ∧ PB k I3) (hm : behindInMarks op b = false := by first | exact nomark _ | rfl) : GT X (gT X.prog X.w T) W R (.Compare a [op] [b] pos) δ I PB := fun σ G H Q hE s hI qx q =>
  have A1 := h σ G H (fun v H1 => wgE (gT X.prog X.w T) b σ H1 fun u H2 => r v u H2 fun z H3 => ∃ k, z = .bl k ∧ Q k H3) hE s hI qx fun v x G1 H1 I1 s1 t1 h1 r1 k1 => k1 σ G1 H1 _ (hE.mono s1) t1 h1 (qx.mono s1) fun u y G2 H2 I2 s2 t2 h2 r2 k2 => k2 G2 H2 v u _ t2 h2 (r1.mono s2) r2 fun z d G3 H3 I3 s3 t3 h3 r3 ⟨k, e, p⟩ => ⟨k, by subst e; exact r3, q k G3 H3 I3 ((s1.trans s2).trans s3) t3 h3 p⟩
  ⟨fun pins s0 J0 => J.inn fun ht => wpAny_isTrue_Compare1 (thk ht ((A1.run pins s0 J0).out ht) fun v s1 ht1 ⟨x, H1, J1, r1, q1⟩ => thn ((q1.run pins s1 J1).out ht1) fun u s2 ⟨y, H2, J2, r2, q2⟩ => thn (ho pins s2 σ H2 x y v u _ J2 r1 r2 q2) fun c s3 ⟨z, H3, J3, r3, k, e, q3⟩ => by
    subst e
    cases r3
    exact wpAny_truthy_bool ⟨H3, J3, q3⟩) hm⟩
end
end GL
set_option Elab.async false
set_option linter.all false
set_option maxRecDepth 100000
set_option maxHeartbeats 1000000
namespace LK
open PySem PySem.Spec PyProof.Rows L2 DL GL
def spc (ts : List Tk) : List Nat := ts.flatMap fun t => 32 :: t.cps
theorem spc_app (a b : List Tk) : spc (a ++ b) = spc a ++ spc b := by unfold spc; rw [List.flatMap_append]
theorem spc_one (t : Tk) (b : List Tk) : spc (t :: b) = 32 :: (t.cps ++ spc b) := by unfold spc; rw [List.flatMap_cons]; rfl
theorem spc_loose : ∀ (ts : List Tk) (p : Option Tk) (i : Nat), ∃ cs, Loose p i ts (spc ts) cs
  | [], p, i => ⟨_, .nil 0⟩
  | t :: ts, p, i => by
    obtain ⟨cs, h⟩ := spc_loose ts (some t) (i + 1 + t.cps.length)
    have := Loose.cons (p := p) 1 (fun q _ => ⟨fun _ => Nat.le_refl 1, fun _ => Nat.le_refl 1⟩) h
    rw [spc_one]
    exact ⟨_, this⟩
theorem spc_len : ∀ ts : List Tk, (spc ts).length = lensT ts + ts.length
  | [] => rfl
  | t :: ts => by
    have ih := spc_len ts
    rw [spc_one, List.length_cons, List.length_append, lensT_cons, ih, List.length_cons]
    omega
theorem cps_app (a b : Str) : (a ++ b).cps.toList = a.cps.toList ++ b.cps.toList := by rw [Str.cps_append, Array.toList_append]
theorem join_spc : ∀ ts : List Tk, ts ≠ [] → 32 :: (Str.join " " (ts.map Tk.s)).cps.toList = spc ts
  | [], h => absurd rfl h
  | [t], _ => by
    rw [spc_one]
    show 32 :: t.cps = 32 :: (t.cps ++ [])
    rw [List.append_nil]
  | t :: u :: r, _ => by
    have ih := join_spc (u :: r) (by simp)
    rw [spc_one, ← ih]
    show 32 :: (t.s ++ " " ++ Str.join " " ((u :: r).map Tk.s)).cps.toList = _
    rw [cps_app, cps_app, show ((" " : Str)).cps.toList = [32] from by decide, List.append_assoc]
    rfl
theorem wtS_spc (v : Wr) : 32 :: (wtS v).cps.toList = spc (tksW v) := by
  unfold wtS
  rw [TL.join_eq]
  exact join_spc _ (by unfold tksW; simp)
theorem tksM_cons (v : Wr) (r : List Wr) : tksM (v :: r) = .sign 59 :: (tksW v ++ tksM r) := by unfold tksM; rw [List.flatMap_cons]; rfl
theorem row_spc : ∀ ws : List Wr, ws ≠ [] → 32 :: (Str.join " ; " (ws.map wtS)).cps.toList = spc ((tksM ws).drop 1)
  | [], h => absurd rfl h
  | [v], _ => by
    rw [tksM_cons]
    show 32 :: (wtS v).cps.toList = spc (tksW v ++ [])
    rw [List.append_nil, wtS_spc]
  | v :: u :: r, _ => by
    have ih := row_spc (u :: r) (by simp)
    rw [tksM_cons]
    show 32 :: (wtS v ++ " ; " ++ Str.join " ; " ((u :: r).map wtS)).cps.toList = spc (tksW v ++ tksM (u :: r))
    rw [spc_app, ← wtS_spc, tksM_cons, spc_one, cps_app, cps_app, show ((" ; " : Str)).cps.toList = [32, 59, 32] from by decide, List.append_assoc]
    rw [tksM_cons] at ih
    have ih2 : 32 :: (Str.join " ; " ((u :: r).map wtS)).cps.toList = spc (tksW u ++ tksM r) := ih
    rw [← ih2]
    rfl
theorem line_cps {p : Str × List Wr} (h : p.2 ≠ []) : (lineTx p).cps.toList = p.1.cps.toList ++ 58 :: spc ((tksM p.2).drop 1) := by
  rw [← row_spc p.2 h]
  unfold lineTx
  rw [TL.join_eq, cps_app, cps_app, show ((": " : Str)).cps.toList = [58, 32] from by decide, List.append_assoc]
  rfl
theorem line_ok {p : Str × List Wr} (h : p.2 ≠ []) : LineOk p (lineTx p) := by
  have e := line_cps h
  refine ⟨?_, ?_⟩
  · obtain ⟨cs, hL⟩ := spc_loose ((tksM p.2).drop 1) (some (.sign 58)) (0 + 0 + (Tk.word p.1).cps.length + 0 + (Tk.sign 58).cps.length)
    have h1 := Loose.cons (p := some (.word p.1)) (i := 0 + 0 + (Tk.word p.1).cps.length) 0 (fun q _ => ⟨fun z => absurd z.2 (by decide), fun z => absurd z.2 (by decide)⟩) hL
    have h2 := Loose.cons (p := none) (i := 0) 0 (fun q hq => by cases hq) h1
    rw [e]
    exact ⟨_, h2⟩
  · rw [str_len, e, List.length_append, List.length_cons, spc_len]
    show _ ≤ lensT (.word p.1 :: .sign 58 :: (tksM p.2).drop 1) + _ + 1
    rw [lensT_cons, lensT_cons]
    have e1 : (Tk.word p.1).cps.length = p.1.cps.toList.length := rfl
    have e2 : (tksL p).length = ((tksM p.2).drop 1).length + 2 := rfl
    have e3 : (Tk.sign 58).cps.length = 1 := rfl
    rw [e1, e2, e3]
    omega
structure ReadOk (us : Tb) (ls : List (List T3)) : Prop where
  n : (Txt.join "\n" (us.map lineTx)).length ≤ 100000
  s : Txt.split (Txt.join "\n" (us.map lineTx)) "\n" = us.map lineTx
  l : ls.length = (us.map lineTx).length
  m : (us.map lineTx).length ≤ 1000
  r : ∀ (i : Nat) (r : Str) (l : List T3), (us.map lineTx)[i]? = some r → ls[i]? = some l → RowL r l
  e : ReadR 1 [] ls (.ok us)
theorem read_tb {us : Tb} (o : TbOk us) (h6 : ∀ p ∈ us, p.2.length ≤ 6) : ∃ ls, ReadOk us ls := by
  have hne : ∀ p ∈ us, p.2 ≠ [] := fun p hp e => by
    have := (o.row p hp).n
    rw [e] at this
    exact absurd this (by decide)
  have hzz : ∀ z ∈ us.map (fun p => (p, lineTx p)), LineOk z.1 z.2 ∧ isNameS z.1.1 = true ∧ (∀ w ∈ z.1.2, GoodR w) ∧ 1 ≤ z.1.2.length ∧ z.1.2.length ≤ 6 := fun z hz => by
    obtain ⟨p, hp, rfl⟩ := List.mem_map.mp hz
    exact ⟨line_ok (hne p hp), o.nm p hp, (o.row p hp).g, (o.row p hp).n, h6 p hp⟩
  have e1 : (us.map fun p => (p, lineTx p)).map (·.1) = us := by rw [List.map_map]; exact List.map_id _
  have e2 : (us.map fun p => (p, lineTx p)).map (·.2) = us.map lineTx := by rw [List.map_map]; rfl
  obtain ⟨ls, g1, g2, g3⟩ := read_good (us.map fun p => (p, lineTx p)) 1 [] hzz (by rw [List.nil_append, e1]; exact o.nd)
  rw [List.nil_append, e1] at g3
  have hln : ∀ p ∈ us, (lineTx p).length ≤ 1000 := fun p hp => (lineTx_len (o.nm p hp) (o.row p hp).g (o.row p hp).m).1
  have o6 := o.m
  have hsum : ((us.map lineTx).map (·.length)).sum ≤ us.length * 1000 := by
    rw [List.map_map]
    exact sum_le fun p hp => hln p hp
  have hnl : ((("\n" : Str)).length) = 1 := by decide
  have hz0 : us ≠ [] := fun e => by
    have := o.n
    rw [e] at this
    exact absurd this (by decide)
  refine ⟨ls, ?_, ?_, ?_, ?_, ?_, g3⟩
  · have := tj_len "\n" (us.map lineTx)
    rw [hnl, List.length_map] at this
    omega
  · exact TL.split_join (s := 10) (S := []) (by decide) (by decide +kernel) (fun e => hz0 (List.map_eq_nil_iff.mp e)) fun l hl => by
      obtain ⟨y, hy, rfl⟩ := List.mem_map.mp hl
      obtain ⟨cols, hL⟩ := (line_ok (hne y hy)).lay
      exact loose_free hL (tksL_free (o.nm y hy) (o.row y hy).g)
  · rw [g1, List.length_map, List.length_map]
  · rw [List.length_map]; omega
  · intro i r l hr hl
    rw [List.getElem?_map] at hr
    obtain ⟨y, hy, rfl⟩ := Option.map_eq_some_iff.mp hr
    exact g2 i (y, lineTx y) l (by rw [List.getElem?_map, hy]; rfl) hl
end LK
set_option Elab.async false
set_option linter.all false
set_option maxRecDepth 100000
set_option maxHeartbeats 1000000
namespace LK
open PySem PySem.Spec PyProof.Rows L2 DL GL
theorem TbOk.permT {t u : Tb} (o : TbOk t) (h : u.Perm t) : TbOk u :=
  ⟨((h.map (·.1)).nodup_iff).mpr o.nd, fun p hp => o.nm p (h.mem_iff.mp hp), fun p hp => o.row p (h.mem_iff.mp hp), by rw [h.length_eq]; exact o.n, by rw [h.length_eq]; exact o.m⟩
section
variable {P : Program} {w : World} {K : PySem.W.Frag} {mg : Str → Option Value} {base : Heap} {T : Nat}
def sLined {K : PySem.W.Frag} : Spec K := fun I ds P _ => ∃ t : Tb, ds = [tD t] ∧ TbOk t ∧ P (.lst (((sortW t).map lineTx).map D.str)) I
theorem D_lined (E : Env P w K mg base) : Def P w K mg base "_law_lined" 1 ["_law_t"] [] sLined := mk_f_Llined E fun fd F => by
  refine fn_d1 F sc_f_Llined (by decide) (by decide) (fun I ds P R h => by obtain ⟨t, rfl, _⟩ := h; rfl) fun cdv A outer s H EE hr tk po I ds Q R h => ?_
  obtain ⟨t, rfl, o, q⟩ := h
  have nd := sc_f_Llined.nd
  have hu := hr.units
  have hu1 := hr.u1
  have o6 := o.m
  have os := o.sort
  have hnm : (sortS (t.map (·.1))).map D.str = (sortW t).map fun p => D.str p.1 := by rw [← sortW_names, List.map_map]; rfl
  refine g_con (s_set 1 (ev_lstM' va_nil (by decide) fun qf => ?_))
  refine g_cons (g_forT (xs := sortW t) (gg := fun p => D.str p.1) po (vi_lst (PV.is (pv_sortedS E.b_sorted (pv_listD E.b_list (pv_v (d := tD t) 0)) (by rw [List.length_map]; omega)) (congrArg D.lst hnm))) (fun p δ' I' => I' = I.and (iLst K qf ((p.map lineTx).map D.str)) ∧ ∃ o2 o3 o4 o5 o6 o7 o8 o9, δ' = [some (tD t), some (.adr qf), o2, o3, o4, o5, o6, o7, o8, o9]) ⟨rfl, none, none, none, none, none, none, none, none, rfl⟩ ?_ ?_)
  · rintro p x r δ' I' e ⟨rfl, o2, o3, o4, o5, o6, o7, o8, o9, rfl⟩
    have hxs : x ∈ sortW t := by rw [e]; simp
    have hx : x ∈ t := (sortW_perm t).mem_iff.mp hxs
    have hxn := o.nm x hx
    have hrow := o.row x hx
    obtain ⟨l1, l2, l3⟩ := lineTx_len hxn hrow.g hrow.m
    have hm8 := hrow.m
    have hn8 := (isName_len hxn).2
    have h4 : ((" ; " : Str)).length = 3 := by decide
    have h5 : ((": " : Str)).length = 2 := by decide
    have hpl : p.length < 1000 := by
      have h1 := congrArg List.length e
      rw [List.length_append, List.length_cons, (sortW_perm t).length_eq] at h1
      omega
    refine ⟨_, [2], bind_name 2, ?_⟩
    refine g_con (s_set 3 (ev_lstM' va_nil (by decide) fun qt => ?_))
    refine g_cons (g_forT (xs := x.2) (gg := wr4) po (vi_lst (pv_dget hu1 (.inl rfl) (pv_w (d := tD t) 0 rfl) (pv_w (d := .str x.1) 2 rfl) rfl (t_get o.nd hx))) (fun q δ' I' => I' = (I.and (iLst K qf ((p.map lineTx).map D.str))).and (iLst K qt ((q.map wtS).map D.str)) ∧ ∃ o4 o5 o6 o7 o8 o9, δ' = [some (tD t), some (.adr qf), some (.str x.1), some (.adr qt), o4, o5, o6, o7, o8, o9]) ⟨rfl, _, _, _, _, _, _, rfl⟩ ?_ ?_)
    · rintro q1 w1 r1 δ' I' e ⟨rfl, o4, o5, o6, o7, o8, o9, rfl⟩
      have hw : w1 ∈ x.2 := by rw [e]; simp
      have gw := hrow.g w1 hw
      have hl := gw.h
      have hq8 : q1.length < 8 := by rw [e, List.length_append, List.length_cons] at hm8; omega
      have hrl : (Txt.replace w1.t "'" "''").length ≤ 80 := by
        rw [str_len, repl_dbl]
        have := dblQ_len w1.t.cps.toList
        rw [← str_len] at this
        omega
      refine ⟨_, [4, 5, 6, 7], bind_tup (ws := [4, 5, 6, 7]) (bs_cons (bind_name 4) (bs_cons (bind_name 5) (bs_cons (bind_name 6) (bs_cons (bind_name 7) bs_nil)))), ?_⟩
      have hl1 : ((("'" : Str)).length) = 1 := by decide
      have hA : (("'" : Str)).length + (Txt.replace w1.t "'" "''").length ≤ 100000 := by rw [hl1]; omega
      have hB : ("'" ++ Txt.replace w1.t "'" "''").length + (("'" : Str)).length ≤ 100000 := by rw [app_len, hl1]; omega
      refine g_cons (g_set 8 (gt_lst ?_))
      refine ga_cons (GE.of ((pv_w (d := .str w1.k) 4 rfl).ev ?_))
      refine ga_cons (GE.of ((pv_w (d := .str w1.l) 6 rfl).ev ?_))
      refine ga_cons (ge_op op_addT (ge_op op_addT (GE.of (pv_str.ev ?_))))
      refine gt_replL (x := w1.t) (Nat.le_refl 1) (pv_w (d := .str w1.t) 5 rfl) (q_len (by omega)) (p2_addT hA _ ?_)
      refine GE.of (pv_str.ev (p2_addT hB _ ?_))
      refine ga_cons (GE.of ((pv_w (d := .str w1.e) 7 rfl).ev (GA.of (ea_nil ⟨Nat.le_of_ble_eq_true rfl, ?_⟩))))
      rw [show D.lst [.str w1.k, .str w1.l, .str ("'" ++ Txt.replace w1.t "'" "''" ++ "'"), .str w1.e] = .lst ((ptsW w1).map D.str) from by rw [q_text]; rfl]
      have ef : D.lst (((ptsW w1).filter (fun s : Str => !decide (s = ""))).map D.str) = .lst (((tksW w1).map Tk.s).map D.str) := by rw [pts_filter gw]
      have hz : (((tksW w1).map Tk.s).map (·.length)).sum + ((tksW w1).map Tk.s).length * ((" " : Str)).length ≤ 16777216 := by
        have h2 := tksW_lens gw
        have h3 := tksW_len w1
        have h4 : ((" " : Str)).length = 1 := by decide
        rw [sum_tks, List.length_map, h4]
        omega
      refine GB.of (s_one (s_appendE (p := qt) (ds := (q1.map wtS).map D.str) (pv_w (d := .adr qt) 3 rfl) (LsI.m (.r (I.and (iLst K qf ((p.map lineTx).map D.str))) .here)) (ev_join pv_str ((PV.is (pv_lcT (xs := ptsW w1) (g := D.str) D.str (fun s : Str => !decide (s = "")) [("_law_part", 9)] (fun s => [some (tD t), some (.adr qf), some (.str x.1), some (.adr qt), some (.str w1.k), some (.str w1.t), some (.str w1.l), some (.str w1.e), some (.lst ((ptsW w1).map D.str)), some (.str s)]) (vi_lst (pv_w 8 rfl)) (Nat.le_of_ble_eq_true rfl) (fun s S H C cl fp => bind_name 9) (fun s hs J S H C cl fp => pt_ne hu (pv_w 9 rfl) pv_str trivial) (fun s hs ht J S H C cl fp => pv_w 9 rfl)) ef).ev ⟨(tksW w1).map Tk.s, rfl, hz, ?_⟩))))
      exact ⟨.r (I.and (iLst K qf ((p.map lineTx).map D.str))) .here, _, rfl, by rw [List.length_map, List.length_map]; omega, by rw [List.map_append, List.map_append]; rfl, _, _, _, _, _, _, rfl⟩
    · rintro δ' I' ⟨rfl, o4, o5, o6, o7, o8, o9, rfl⟩
      refine gb_freezeL (j := 3) rfl ?_
      refine GB.of (s_one (s_appendE (p := qf) (ds := (p.map lineTx).map D.str) (pv_w (d := .adr qf) 1 rfl) (LsI.m (.r I .here)) (PV.ev (pv_op op_addT (pv_op op_addT (pv_w (d := .str x.1) 2 rfl) pv_str (p2_addT (by rw [h5]; omega))) (fun W R P pp => ev_join pv_str ((pv_w (d := .lst ((x.2.map wtS).map D.str)) 3 rfl).ev ⟨x.2.map wtS, rfl, by rw [List.length_map, h4]; omega, pp⟩)) (p2_addT (by rw [app_len, h5]; omega))) ⟨.r I .here, _, rfl, by rw [List.length_map, List.length_map]; omega, by rw [List.map_append, List.map_append]; rfl, _, _, _, _, _, _, _, _, rfl⟩)))
  · rintro δ' I' ⟨rfl, o2, o3, o4, o5, o6, o7, o8, o9, rfl⟩
    refine gb_freezeL (j := 1) rfl ?_
    exact GB.of (s_one (s_retP (pv_w (d := .lst (((sortW t).map lineTx).map D.str)) 1 rfl) q))
abbrev LVL : Nat := 8
theorem ok_law (E : Env P w K mg base) (qm : QuoM mg T) (fd : FuncData) (F : FunD K "law" "law" (defArgs f_law) (defBody f_law) (defScope f_law) [] [] (He.ga K "law") fd) : FnG P w K mg base (gT P w T) LVL (He.ga K "law") fd ["_law_script"] (spD K sLaw) := by
  refine fn_g F sc_f_law (fun I ds P R h => by obtain ⟨ns, rfl, _⟩ := h; rfl) fun cdv A outer s H EE hr tk po I ds Q R h => ?_
  obtain ⟨ns, rfl, hl, q⟩ := h
  have nd := sc_f_law.nd
  have hu := hr.units
  have hu1 := hr.u1
  have hr1 : Room 1 _ := hr.mono (by decide)
  have hr2 : Room 2 _ := hr.mono (by decide)
  have hr4 : Room 4 _ := hr.mono (by decide)
  have hr5 : Room 5 _ := hr.mono (by decide)
  have hr6 : Room 6 _ := hr.mono (by decide)
  have hr7 : Room 7 _ := hr
  refine g_con (s_set 1 (ev_def tk (D_mix E) hr1 (ea_cons ((pv_v 0).ev (ea_cons (pv_int.ev (ea_nil ⟨ns, 40, rfl, hl, fun a b => ?_⟩)))))))
  refine g_con (s_set 2 (ev_freezeD (ev_def tk (D_table E) hr5 (ea_cons ((pv_v 1).ev (ea_cons (pv_int.ev (ea_cons (pv_int.ev (ea_cons (pv_int.ev (ea_nil ⟨a, b, .r I .here, 6, 14, 38, rfl, rfl, by decide, by decide, by decide, by decide, by decide, by decide, fun t g p => ⟨p, _, _, rfl, rfl, ?_⟩⟩))))))))))))
  have o := g.ok (by decide)
  have os := o.sort
  have o6 := o.m
  have hp6 : ∀ x ∈ t, x.2.length ≤ 6 := fun x hx => by have := (g.row x hx).2.2; omega
  have hs6 : ∀ x ∈ sortW t, x.2.length ≤ 6 := fun x hx => hp6 x ((sortW_perm t).mem_iff.mp hx)
  have hle := (sortW_perm t).length_eq
  obtain ⟨ls, rk⟩ := read_tb os hs6
  have hnl : ((("\n" : Str)).length) = 1 := by decide
  have hsum : ∀ u : Tb, TbOk u → ((u.map lineTx).map (·.length)).sum + u.length * 1 ≤ 16777216 := fun u ou => by
    have h1 : ((u.map lineTx).map (·.length)).sum ≤ u.length * 1000 := by
      rw [List.map_map]
      exact sum_le fun p hp => (lineTx_len (ou.nm p hp) (ou.row p hp).g (ou.row p hp).m).1
    have := ou.m
    omega
  refine g_con (s_setP (d := cD K (sortW t)) 3 (pv_def (D_built E) hr6 (va_cons (pv_w (d := tD t) 2 rfl) va_nil) fun P pp => ⟨t, rfl, o, pp⟩) ?_)
  refine g_con (s_setP (d := .lst (((sortW t).map lineTx).map D.str)) 4 (pv_def (D_lined E) hr1 (va_cons (pv_w (d := tD t) 2 rfl) va_nil) fun P pp => ⟨t, rfl, o, pp⟩) ?_)
  refine g_cons (g_set 5 (ge_def tk (DG_writeCast E qm) hr5 (GA.of (ea_cons ((pv_w (d := cD K (sortW t)) 3 rfl).ev (ea_nil ⟨sortW t, rfl, os, ?_⟩))))))
  generalize hz : Txt.join "\n" ((sortW t).map lineTx) = z
  refine g_cons (g_if (gt_w (gw_orP (k := false) (PVT.is (ptn (k := true) (pt_v (pv_cb call_isi E.b_isinstance (va_cons (pv_w (d := .str z) 5 rfl) (va_cons (pv_gty (n := "str") E.b_str) va_nil)) (pn_isiT (t := "str") rfl)))) rfl) (fun h => nomatch h) fun _ => ?_)))
  refine gw_orP (k := false) (PVT.is (pt_ne hu (x := .str z) (y := .str z) (pv_w (d := .str z) 5 rfl) (fun W R P pp => ev_join pv_str ((pv_w (d := .lst (((sortW t).map lineTx).map D.str)) 4 rfl).ev ⟨(sortW t).map lineTx, rfl, by rw [hnl, List.length_map]; exact hsum _ os, by rw [hz]; exact pp⟩)) trivial) (by simp)) (fun h => nomatch h) fun _ => ?_
  -- what is read is the cast
  have rd : ∀ (us : Tb), us.Perm (sortW t) → ∀ ls, ReadOk us ls → sortW us = sortW t := fun us hp ls _ => by
    have h1 := sortW_permE (os.permT hp).nd (hp.trans (sortW_perm t))
    exact h1
  refine gw_or1 (gt_not (gt_cmp (SlX.op_own (fun _ _ => rfl) E.h_Cast_eq.f E.h_Cast_eq.i (M_ceq E) hr4 takesPF) (ge_def tk (DG_read E qm) hr7 (GA.of (ea_cons ((pv_w (d := .str z) 5 rfl).ev (ea_nil ⟨z, (sortW t).map lineTx, ls, .ok (sortW t), rfl, by rw [← hz]; exact rk.n, by rw [← hz]; exact rk.s, rk.l, rk.m, rk.r, rk.e, fun n c e => (nomatch e), fun t' e => .inl ?_⟩)))))))
  cases e
  refine ⟨os, GE.of ((pv_w (d := cD K (sortW t)) 3 rfl).ev ?_)⟩
  have ess : sortW (sortW t) = sortW t := rd _ (.refl _) ls rk
  rw [ess]
  refine p2_own (z := .bl true) E.k_Cast.nW (fun P p => ⟨_, _, rfl, .inl ⟨_, rfl, os.nd, by rw [castEq_self os.nd]; exact p⟩⟩) _ ⟨true, rfl, ?_⟩
  show GB _ _ _ _ _ _ _
  refine g_nil ?_
  show GB _ _ _ _ _ _ _
  refine g_con (s_set 6 (ev_nextP tk (D_next E) hr1 (.r I .here) (pv_w (d := .adr a) 1 rfl) (pv_len E.b_len (pv_w (d := .lst (((sortW t).map lineTx).map D.str)) 4 rfl) trivial) rfl (by rw [List.length_map, List.length_map]; have := os.n; omega) fun v v0 v1 => ?_))
  obtain ⟨k, rfl⟩ : ∃ k : Nat, v = (k : Int) := ⟨v.toNat, by omega⟩
  have hp2 : ((sortW t).drop k ++ (sortW t).take k).Perm (sortW t) := by
    have := List.perm_append_comm (l₁ := (sortW t).drop k) (l₂ := (sortW t).take k)
    rwa [List.take_append_drop] at this
  have o2 := os.permT hp2
  generalize hus : (sortW t).drop k ++ (sortW t).take k = us at hp2 o2
  obtain ⟨ls2, rk2⟩ := read_tb o2 (fun x hx => hs6 x (hp2.mem_iff.mp hx))
  have ecut : cutD (((sortW t).map lineTx).map D.str) (some (k : Int)) none ++ cutD (((sortW t).map lineTx).map D.str) none (some (k : Int)) = (us.map lineTx).map D.str := by
    rw [cut_drop, cut_take, ← hus]
    simp only [List.map_append, List.map_drop, List.map_take]
  have hul := hp2.length_eq
  refine g_one (g_ret (ge_and (ge_cmp (SlX.op_own (fun _ _ => rfl) E.h_Cast_eq.f E.h_Cast_eq.i (M_ceq E) hr4 takesPF) (ge_def tk (DG_read E qm) hr7 (GA.of (ea_cons (ev_join pv_str ((PV.is (pv_op op_cat (pv_slL (pv_w (d := .lst (((sortW t).map lineTx).map D.str)) 4 rfl) (vo_some (pv_w (d := .int k) 6 rfl)) vo_none) (pv_slL (pv_w (d := .lst (((sortW t).map lineTx).map D.str)) 4 rfl) vo_none (vo_some (pv_w (d := .int k) 6 rfl))) (p2_catKK (by rw [← List.length_append, ecut, List.length_map, List.length_map]; omega))) (congrArg D.lst ecut)).ev ⟨us.map lineTx, rfl, by rw [hnl, List.length_map]; exact hsum _ o2, ea_nil ⟨_, us.map lineTx, ls2, .ok us, rfl, rk2.n, rk2.s, rk2.l, rk2.m, rk2.r, rk2.e, fun n c e => (nomatch e), fun t' e => .inl ?_⟩⟩))))))))
  cases e
  refine ⟨o2, GE.of ((pv_w (d := cD K (sortW t)) 3 rfl).ev ?_)⟩
  rw [rd _ hp2 ls2 rk2]
  refine p2_own (z := .bl true) E.k_Cast.nW (fun P p => ⟨_, _, rfl, .inl ⟨_, rfl, os.nd, by rw [castEq_self os.nd]; exact p⟩⟩) _ ⟨true, rfl, ?_⟩
  show GE _ _ _ _ _ _ _ _
  refine ge_oneB (ge_eqS (x := z) (y := z) (ge_def tk (DG_writeCast E qm) hr5 (ga_cons (ge_def tk (DG_read E qm) hr7 (GA.of (ea_cons ((pv_w (d := .str z) 5 rfl).ev (ea_nil ⟨z, (sortW t).map lineTx, ls, .ok (sortW t), rfl, by rw [← hz]; exact rk.n, by rw [← hz]; exact rk.s, rk.l, rk.m, rk.r, rk.e, fun n c e => (nomatch e), fun t' e => .inl ?_⟩))))))))
  cases e
  refine ⟨os, GA.of (ea_nil ⟨sortW t, by rw [ess]; rfl, os, by rw [hz], pv_w (d := .str z) 5 rfl, ?_⟩)⟩
  rw [decide_eq_true rfl]
  exact q _
end
end LK
set_option Elab.async false
set_option linter.all false
set_option maxRecDepth 100000
set_option maxHeartbeats 0
namespace LK
open PySem PySem.Spec PyProof.Rows L2 DL GL
theorem facts {P : Program} {w : World} {K : PySem.W.Frag} {h : Heap} {mg : Str → Option Value} {f : Addr} {T : Nat} (qm : QuoM mg T) (X : K.In h) (G : h.Ns mainGlobals mg) (hfa : mg ("law" : Str) = some (.ref f)) (c0 : SaysS fn gs [] ex w h K) :
    ∃ fd : FuncData, (∀ (s : Shared) (v : Value), BindsTo s fd ⟨[v], []⟩ [("_law_script", v)]) ∧ ∀ base : Heap, K.In base → base.Ns mainGlobals mg → FnG P w K mg base (gT P w T) LVL f fd ["_law_script"] (spD K sLaw) := by
  have c := c0.p
  have EE : ∀ base, Env P w K mg base := fun base => ⟨c.more, ⟨h, X, G⟩, fun d hd => c.has hd, fun d hd => c.hasG hd, fun p hp => nomatch hp⟩
  obtain ⟨fd, F⟩ := c.has in_f_law
  have F : FunD K "law" "law" (defArgs f_law) (defBody f_law) (defScope f_law) [] [] (He.ga K "law") fd := F
  have e := hfa.symm.trans (EE h).g_law
  cases e
  have b := FunD.bindsA (ps := ["_law_script"]) F fun _ _ _ _ _ _ us hl => match us, hl with | [_], _ => rfl
  exact ⟨fd, fun s v => b s [v] rfl, fun base _ _ => ok_law (EE base) qm fd F⟩
end LK
open PySem PySem.W PySem.Calls PyProof.Rows
theorem PySem.Challenge.cw_linesharing_k40_texts_there_and_back_holds : PySem.Challenge.rw_linesharing_k40_texts_there_and_back.Holds := by
  w_on; o_law
  refine GL.head_T (r := OpenLaw.row PySem.Challenge.rw_linesharing_k40_texts_there_and_back) (q := view (OpenLaw.row PySem.Challenge.rw_linesharing_k40_texts_there_and_back).prog [54]) (H := LK.hk) (ob := LK.ob) (M := 30000) (loose := LK.loose) (d := HandSHeadRun.topDef (OpenLaw.row PySem.Challenge.rw_linesharing_k40_texts_there_and_back).prog 54) (kwd := []) LK.ob_eq
    (by kernel_rfl) (fun s => by kernel_rfl) (fun w => GL.runT_of (LK.run w) (LK.run_t w)) (by kernel_rfl) (by kernel_rfl) (by kernel_rfl) (by rfl) (by first | assumption | decide +kernel) (by decide +kernel) ⟨rfl, rfl, rfl, rfl, rfl, by decide +kernel⟩ ?hw ?hc
  case hw => w_witness2
  case hc =>
    refine GL.walk_T (l := PySem.Challenge.rw_linesharing_k40_texts_there_and_back) (n := 63) (k := LK.LVL) (x := "_law_script") rfl (by decide) (by kernel_rfl) ⟨rfl, by decide, by decide⟩ ?F
    case F =>
      intro w mg fa h T Y G hmg0 qm
      obtain ⟨K, KX, c⟩ := Y
      have hmg : mg ("law" : PySem.Str) = some (.ref fa) := by
        have e : (HandSHeadRun.topDef (OpenLaw.row PySem.Challenge.rw_linesharing_k40_texts_there_and_back).prog 54).name = ("law" : PySem.Str) := by kernel_rfl
        rw [← e]
        exact hmg0
      obtain ⟨fd, hb, hF⟩ := LK.facts (P := (PySem.Challenge.rw_linesharing_k40_texts_there_and_back).prog) (w := w) qm KX G hmg c
      exact ⟨K, KX, fd, [], _, (fun p hp => nomatch hp), (fun p hp => nomatch hp), (fun p hp => nomatch hp), hb, fun H a ns hl _ hS => DL.sp_law hl hS, fun base h1 h2 _ => hF base h1 h2⟩
