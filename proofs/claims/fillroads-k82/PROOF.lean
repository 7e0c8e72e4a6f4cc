import PyProof.Rows.All
import Wide.All
import OpenK.AllK
import Wide.FinOn
import KE.KStateDown
import Lean
import HandS.Base
import HandS.Call
import HandS.List
import HandS.Comp
import HandS.Ends
import HandS.Exc
import HandS.Dict
import HandS.IsInst
import HandS.Text
import HandS.Words
import HandS.HeadHook1
import HandS.Defaults
import HandS.Wide
import HandS.TupAny
import HandS.Deep
import PyProof.ReprRoads
import HandS.ExcSuper
import HandS.ExcInit
import HandS.ExcValue
import HandS.ExcIs
import KE.KExcSuper
import KE.KExcInit
import PyProof.ExcBaseAll.LookupError
import PyProof.ExcBaseAll.IndexError
import PyProof.ExcBaseAll.OverflowError
import PyProof.ExcBaseAll.RuntimeError
import PyProof.Rows.FactsExc_KeyError
import HandS.ExcField
import KE.KExcIs
import PyProof.ReprBulk
import HandS.HeadEnd
import HandS.HeadHook2
import HandS.Head0
import HandS.Head1
import HandS.Head2
import PySem.Challenge.RW_fillroads_k82_errors_and_their_fields
set_option Elab.async false
set_option linter.all false
set_option maxRecDepth 100000
set_option maxHeartbeats 0
namespace TL
open PySem PySem.Spec PyProof.Rows L2

/-- the class at C: its instances may be asked for fields and for their class -/
def exqB (K : PySem.W.Frag) (C : Addr) : Bool :=
  (PySem.W.clsIn K C).isSome && (decide (PySem.W.findIn K (.ref C) "__getattribute__" = some (some (.builtin "BaseException.__getattribute__"))) && (decide (PySem.W.findIn K (.ref C) "__getattr__" = some none) && (decide (PySem.W.subIn K (.ref C) (.type "BaseException") = some true) &&
  (PySem.W.hasDictIn K C && (decide (PySem.W.findIn K (.ref C) "__class__" = some (some (.builtin "object.__class__"))) && (decide (PySem.W.specialIn K (.builtin "object.__class__") "__get__" = some (some (.builtin "getset_descriptor.__get__"))) && (decide (PySem.W.takesIn K (.builtin "object.__class__") = some true) &&
  decide (PySem.W.mroIn K C (.type "object") = some true))))))))
structure ExQ (K : PySem.W.Frag) (C : Addr) : Prop where
  cl : (PySem.W.clsIn K C).isSome = true
  ga : PySem.W.findIn K (.ref C) "__getattribute__" = some (some (.builtin "BaseException.__getattribute__"))
  gg : PySem.W.findIn K (.ref C) "__getattr__" = some none
  sb : PySem.W.subIn K (.ref C) (.type "BaseException") = some true
  hd : PySem.W.hasDictIn K C = true
  ha : PySem.W.findIn K (.ref C) "__class__" = some (some (.builtin "object.__class__"))
  hn : PySem.W.specialIn K (.builtin "object.__class__") "__get__" = some (some (.builtin "getset_descriptor.__get__"))
  ht : PySem.W.takesIn K (.builtin "object.__class__") = some true
  hm : PySem.W.mroIn K C (.type "object") = some true
theorem exqB_ok {K : PySem.W.Frag} {C : Addr} (h : exqB K C = true) : ExQ K C := by
  obtain ⟨a1, h⟩ := Bool.and_eq_true_iff.mp h
  obtain ⟨a2, h⟩ := Bool.and_eq_true_iff.mp h
  obtain ⟨a3, h⟩ := Bool.and_eq_true_iff.mp h
  obtain ⟨a4, h⟩ := Bool.and_eq_true_iff.mp h
  obtain ⟨a5, h⟩ := Bool.and_eq_true_iff.mp h
  obtain ⟨a6, h⟩ := Bool.and_eq_true_iff.mp h
  obtain ⟨a7, h⟩ := Bool.and_eq_true_iff.mp h
  obtain ⟨a8, a9⟩ := Bool.and_eq_true_iff.mp h
  exact ⟨a1, of_decide_eq_true a2, of_decide_eq_true a3, of_decide_eq_true a4, a5, of_decide_eq_true a6, of_decide_eq_true a7, of_decide_eq_true a8, of_decide_eq_true a9⟩
def atB (K : PySem.W.Frag) (C : Addr) (f : Str) : Bool := exqB K C && decide (PySem.W.findIn K (.ref C) f = some none)
/-- an exception's class, its fields' names: all may be asked for -/
def xcB (K : PySem.W.Frag) (C : Str) (fs : List Str) : Bool := exqB K (He.ga K C) && fs.all (atB K (He.ga K C))

/-- data as trees; classes by their names -/
inductive D where
  | non | bl (b : Bool) | int (i : Int) | str (x : Str)
  | tup (xs : List D) | lst (xs : List D)
  | dK (kvs : List (Key × D))
  | dT (kvs : List (List Key × D))
  | ref (a : Addr) | ty (n : String) | cls (x : Str)
  | exc (C : Str) (fs : List (Str × D))
  | ins (C : Str) (fs : List (Str × D))
  | cell (i : Nat)
  | arg (ns : List Int)
  deriving Inhabited

/-- an exception object at a, never raised so far -/
def ExF (C : Addr) (d : Option Addr) (a : Addr) : HO := .ext fun h =>
  ∃ (oe : Obj) (vs : Array Value), h.get? a = some oe ∧ Zc (.ref C) d oe ∧ oe.data = .fields vs ∧ vs[1]? = some .none ∧ vs[2]? = some .none ∧ 4 < vs.size

mutual
/-- v reads as the tree; K the written part, Mu the addresses that may change, m the cells -/
def Rp (K : PySem.W.Frag) (Mu : Addr → Prop) (m : List Addr) (H : Hp) : D → V → Prop
  | .non, v => v = .non
  | .bl b, v => v = .bl b
  | .int i, v => v = .int i
  | .str x, v => v = .str x
  | .tup xs, v => ∃ a vs, v = .ref a ∧ ¬ Mu a ∧ H a = some (.tup vs) ∧ RpA K Mu m H xs vs
  | .lst xs, v => ∃ a vs, v = .ref a ∧ ¬ Mu a ∧ H a = some (.lst vs) ∧ RpA K Mu m H xs vs
  | .dK kvs, v => ∃ a ws, v = .ref a ∧ ¬ Mu a ∧ H a = some (.dK ws) ∧ RpK K Mu m H kvs ws
  | .dT kvs, v => ∃ a ws, v = .ref a ∧ ¬ Mu a ∧ H a = some (.dT ws) ∧ RpT K Mu m H kvs ws
  | .ref a, v => v = .ref a
  | .ty n, v => v = .ty n
  | .cls x, v => v = .ref (He.ga K x)
  | .exc C fs, v => xcB K C (fs.map (·.1)) = true ∧ ∃ a, v = .ref a ∧ ¬ Mu a ∧ ((fs = [] ∧ H a = some (ExF (He.ga K C) none a)) ∨
      ∃ d ws, ¬ Mu d ∧ H a = some (ExF (He.ga K C) (some d) a) ∧ H d = some (.xd ws) ∧ RpF K Mu m H fs ws)
  | .ins C fs, v => ∃ a dx ws, v = .ref a ∧ ¬ Mu a ∧ H a = some (.ins (He.ga K C) dx ws) ∧ RpF K Mu m H fs ws
  | .cell i, v => ∃ a, m[i]? = some a ∧ v = .ref a
  | .arg ns, v => ∃ a, v = .ref a ∧ ((¬ Mu a ∧ ∃ o, H a = some (.frz o (.lst (ns.map V.int)))) ∨ (∀ H' : Hp, SqL K H' a (ns.map V.int)))
def RpA (K : PySem.W.Frag) (Mu : Addr → Prop) (m : List Addr) (H : Hp) : List D → List V → Prop
  | [], vs => vs = []
  | d :: ds, vs => ∃ v r, vs = v :: r ∧ Rp K Mu m H d v ∧ RpA K Mu m H ds r
def RpK (K : PySem.W.Frag) (Mu : Addr → Prop) (m : List Addr) (H : Hp) : List (Key × D) → List (Key × V) → Prop
  | [], ws => ws = []
  | (k, d) :: r, ws => ∃ v t, ws = (k, v) :: t ∧ Rp K Mu m H d v ∧ RpK K Mu m H r t
def RpT (K : PySem.W.Frag) (Mu : Addr → Prop) (m : List Addr) (H : Hp) : List (List Key × D) → List (List Key × V) → Prop
  | [], ws => ws = []
  | (k, d) :: r, ws => ∃ v t, ws = (k, v) :: t ∧ Rp K Mu m H d v ∧ RpT K Mu m H r t
def RpF (K : PySem.W.Frag) (Mu : Addr → Prop) (m : List Addr) (H : Hp) : List (Str × D) → List (Str × V) → Prop
  | [], ws => ws = []
  | (k, d) :: r, ws => ∃ v t, ws = (k, v) :: t ∧ Rp K Mu m H d v ∧ RpF K Mu m H r t
end

/-- nothing that H tracks is lost or changed -/
def ExtF (H H' : Hp) : Prop := ∀ a o, H a = some o → H' a = some o
theorem ExtF.refl (H : Hp) : ExtF H H := fun _ _ h => h
theorem ExtF.trans {H H1 H2 : Hp} (x : ExtF H H1) (y : ExtF H1 H2) : ExtF H H2 := fun a o h => y a o (x a o h)
theorem ExtF.new {H : Hp} {p : Addr} {o : HO} (h : H p = none) : ExtF H (upd H p o) := fun a u e => by
  rw [upd_ne (ne_of_none e h)]
  exact e
/-- what may change is tracked -/
def TrM (Mu : Addr → Prop) (H : Hp) : Prop := ∀ a, Mu a → H a ≠ none
theorem TrM.ext {Mu : Addr → Prop} {H H' : Hp} (t : TrM Mu H) (e : ExtF H H') : TrM Mu H' := fun a h z => by
  cases q : H a with
  | none => exact t a h q
  | some o => rw [e a o q] at z; cases z
theorem TrM.new {Mu : Addr → Prop} {H : Hp} {p : Addr} (t : TrM Mu H) (h : H p = none) : ¬ Mu p := fun z => t p z h

section
variable {K : PySem.W.Frag} {Mu Mu' : Addr → Prop} {m m' : List Addr} {H H' : Hp}
/-- what a tree's reading leans on -/
structure Keep (Mu Mu' : Addr → Prop) (m m' : List Addr) (H H' : Hp) : Prop where
  mu : ∀ a, Mu' a → Mu a ∨ H a = none
  at_ : ∀ a o, ¬ Mu a → H a = some o → H' a = some o
  cells : ∀ (i : Nat) a, m[i]? = some a → m'[i]? = some a
theorem Keep.no (k : Keep Mu Mu' m m' H H') {a : Addr} {o : HO} (h : ¬ Mu a) (e : H a = some o) : ¬ Mu' a := fun z => by
  rcases k.mu a z with z | z
  · exact h z
  · rw [e] at z; cases z
mutual
theorem Rp.keep (k : Keep Mu Mu' m m' H H') : ∀ {d : D} {v : V}, Rp K Mu m H d v → Rp K Mu' m' H' d v
  | .non, _, h => h
  | .bl _, _, h => h
  | .int _, _, h => h
  | .str _, _, h => h
  | .tup xs, v, h => by
    obtain ⟨a, vs, e, n, ha, r⟩ := h
    exact ⟨a, vs, e, k.no n ha, k.at_ a _ n ha, RpA.keep k r⟩
  | .lst xs, v, h => by
    obtain ⟨a, vs, e, n, ha, r⟩ := h
    exact ⟨a, vs, e, k.no n ha, k.at_ a _ n ha, RpA.keep k r⟩
  | .dK kvs, v, h => by
    obtain ⟨a, vs, e, n, ha, r⟩ := h
    exact ⟨a, vs, e, k.no n ha, k.at_ a _ n ha, RpK.keep k r⟩
  | .dT kvs, v, h => by
    obtain ⟨a, vs, e, n, ha, r⟩ := h
    exact ⟨a, vs, e, k.no n ha, k.at_ a _ n ha, RpT.keep k r⟩
  | .ref _, _, h => h
  | .ty _, _, h => h
  | .cls _, _, h => h
  | .exc C fs, v, h => by
    obtain ⟨hx, a, e, n, h⟩ := h
    rcases h with ⟨z, ha⟩ | ⟨d, ws, nd, ha, hd, r⟩
    · exact ⟨hx, a, e, k.no n ha, .inl ⟨z, k.at_ a _ n ha⟩⟩
    · exact ⟨hx, a, e, k.no n ha, .inr ⟨d, ws, k.no nd hd, k.at_ a _ n ha, k.at_ d _ nd hd, RpF.keep k r⟩⟩
  | .ins C fs, v, h => by
    obtain ⟨a, dx, ws, e, n, ha, r⟩ := h
    exact ⟨a, dx, ws, e, k.no n ha, k.at_ a _ n ha, RpF.keep k r⟩
  | .cell i, v, h => by
    obtain ⟨a, e, z⟩ := h
    exact ⟨a, k.cells i a e, z⟩
  | .arg ns, v, h => by
    obtain ⟨a, e, h⟩ := h
    rcases h with ⟨n, o, h⟩ | h
    · exact ⟨a, e, .inl ⟨k.no n h, o, k.at_ a _ n h⟩⟩
    · exact ⟨a, e, .inr h⟩
theorem RpA.keep (k : Keep Mu Mu' m m' H H') : ∀ {ds : List D} {vs : List V}, RpA K Mu m H ds vs → RpA K Mu' m' H' ds vs
  | [], _, h => h
  | d :: ds, vs, h => by
    obtain ⟨v, r, e, h1, h2⟩ := h
    exact ⟨v, r, e, Rp.keep k h1, RpA.keep k h2⟩
theorem RpK.keep (k : Keep Mu Mu' m m' H H') : ∀ {ds : List (Key × D)} {vs : List (Key × V)}, RpK K Mu m H ds vs → RpK K Mu' m' H' ds vs
  | [], _, h => h
  | (q, d) :: ds, vs, h => by
    obtain ⟨v, r, e, h1, h2⟩ := h
    exact ⟨v, r, e, Rp.keep k h1, RpK.keep k h2⟩
theorem RpT.keep (k : Keep Mu Mu' m m' H H') : ∀ {ds : List (List Key × D)} {vs : List (List Key × V)}, RpT K Mu m H ds vs → RpT K Mu' m' H' ds vs
  | [], _, h => h
  | (q, d) :: ds, vs, h => by
    obtain ⟨v, r, e, h1, h2⟩ := h
    exact ⟨v, r, e, Rp.keep k h1, RpT.keep k h2⟩
theorem RpF.keep (k : Keep Mu Mu' m m' H H') : ∀ {ds : List (Str × D)} {vs : List (Str × V)}, RpF K Mu m H ds vs → RpF K Mu' m' H' ds vs
  | [], _, h => h
  | (q, d) :: ds, vs, h => by
    obtain ⟨v, r, e, h1, h2⟩ := h
    exact ⟨v, r, e, Rp.keep k h1, RpF.keep k h2⟩
end
theorem Keep.ext (e : ExtF H H') : Keep Mu Mu m m H H' := ⟨fun _ h => .inl h, fun a o _ h => e a o h, fun _ _ h => h⟩
theorem Rp.ext {d : D} {v : V} (h : Rp K Mu m H d v) (e : ExtF H H') : Rp K Mu m H' d v := h.keep (.ext e)
theorem RpA.ext {ds : List D} {vs : List V} (h : RpA K Mu m H ds vs) (e : ExtF H H') : RpA K Mu m H' ds vs := h.keep (.ext e)
theorem RpA.length : ∀ {ds : List D} {vs : List V}, RpA K Mu m H ds vs → ds.length = vs.length
  | [], vs, h => by
    have e : vs = [] := h
    rw [e]
    rfl
  | d :: ds, vs, h => by
    obtain ⟨v, r, e, _, h2⟩ := h
    rw [e, List.length_cons, List.length_cons, RpA.length h2]
theorem RpA.append : ∀ {ds es : List D} {vs ws : List V}, RpA K Mu m H ds vs → RpA K Mu m H es ws → RpA K Mu m H (ds ++ es) (vs ++ ws)
  | [], _, _, _, h, g => by rw [show _ = [] from h]; exact g
  | d :: ds, es, vs, ws, h, g => by
    obtain ⟨v, r, e, h1, h2⟩ := h
    rw [e]
    exact ⟨v, r ++ ws, rfl, h1, RpA.append h2 g⟩
theorem RpA.take : ∀ {ds : List D} {vs : List V} (n : Nat), RpA K Mu m H ds vs → RpA K Mu m H (ds.take n) (vs.take n)
  | _, _, 0, _ => rfl
  | [], _, n + 1, h => by rw [show _ = [] from h]; rfl
  | d :: ds, vs, n + 1, h => by
    obtain ⟨v, r, e, h1, h2⟩ := h
    rw [e]
    exact ⟨v, r.take n, rfl, h1, RpA.take n h2⟩
theorem RpA.drop : ∀ {ds : List D} {vs : List V} (n : Nat), RpA K Mu m H ds vs → RpA K Mu m H (ds.drop n) (vs.drop n)
  | ds, vs, 0, h => h
  | [], _, n + 1, h => by rw [show _ = [] from h]; rfl
  | d :: ds, vs, n + 1, h => by
    obtain ⟨v, r, e, h1, h2⟩ := h
    rw [e]
    exact RpA.drop n h2
theorem RpA.get : ∀ {ds : List D} {vs : List V} {i : Nat} {d : D}, RpA K Mu m H ds vs → ds[i]? = some d → ∃ v, vs[i]? = some v ∧ Rp K Mu m H d v
  | [], _, _, _, _, e => by cases e
  | d :: ds, vs, 0, _, h, e => by
    obtain ⟨v, r, q, h1, _⟩ := h
    cases e
    exact ⟨v, by rw [q]; rfl, h1⟩
  | d :: ds, vs, i + 1, x, h, e => by
    obtain ⟨v, r, q, _, h2⟩ := h
    obtain ⟨w, h3, h4⟩ := RpA.get (i := i) h2 (by simpa using e)
    exact ⟨w, by rw [q]; simpa using h3, h4⟩
theorem RpA.getV : ∀ {ds : List D} {vs : List V} {i : Nat} {v : V}, RpA K Mu m H ds vs → vs[i]? = some v → ∃ d, ds[i]? = some d ∧ Rp K Mu m H d v := fun {ds vs i v} h e => by
  have hl := h.length
  have hi : i < ds.length := by rw [hl]; exact (List.getElem?_eq_some_iff.mp e).1
  obtain ⟨w, h1, h2⟩ := h.get (i := i) (d := ds[i]) (List.getElem?_eq_getElem hi)
  rw [h1] at e
  cases e
  exact ⟨_, List.getElem?_eq_getElem hi, h2⟩
theorem RpA.rep {ds : List D} {vs : List V} (h : RpA K Mu m H ds vs) : ∀ n : Nat, RpA K Mu m H (List.replicate n ds).flatten (List.replicate n vs).flatten
  | 0 => rfl
  | n + 1 => by
    rw [List.replicate_succ, List.replicate_succ, List.flatten_cons, List.flatten_cons]
    exact h.append (RpA.rep h n)
theorem RpA.ints : ∀ {ns : List Int}, RpA K Mu m H (ns.map D.int) (ns.map V.int)
  | [] => rfl
  | n :: r => ⟨_, _, rfl, rfl, RpA.ints⟩
theorem RpA.ints_inv : ∀ {ns : List Int} {vs : List V}, RpA K Mu m H (ns.map D.int) vs → vs = ns.map V.int
  | [], _, h => h
  | n :: r, vs, h => by
    obtain ⟨v, t, e, h1, h2⟩ := h
    rw [e, show v = V.int n from h1, RpA.ints_inv h2]
    rfl
end
end TL
namespace TL
open PySem PySem.Spec PyProof.Rows L2

/-- a name's content: not known | a tree | a list or dict of the frame's own, that nothing else holds -/
inductive Slot where
  | un | dat (d : D) | ownL (xs : List D) | ownK (kvs : List (Key × D)) | ownT (kvs : List (List Key × D))
  deriving Inhabited
/-- a shared thing that may change -/
inductive AO where
  | gone | lst (xs : List D) | dK (kvs : List (Key × D)) | dT (kvs : List (List Key × D)) | ins (C : Str) (fs : List (Str × D))
  deriving Inhabited
inductive Out (α : Type) where
  | ok (d : α) | ex (C : Str) (fs : List (Str × D))
abbrev Rho := List Slot
abbrev Eta := List AO
abbrev Res (α : Type) := Option (Out α × Eta)
abbrev EF := Rho → Eta → Res D
abbrev AF := Rho → Eta → Res (List D)
abbrev BF := Rho → Eta → Res Bool
inductive SO where
  | nx (ρ : Rho) | rt (d : D) | ex (C : Str) (fs : List (Str × D)) | bk (ρ : Rho) | ct (ρ : Rho)
abbrev SF := Rho → Eta → Option (SO × Eta)

/-- the ground of a run: the heap at its beginning, what others hold and may change, the cells -/
structure Gr where
  H0 : Hp
  M0 : Addr → Prop
  m0 : List Addr

def MuOf (C : Gr) (oas : List (Option Addr)) (m : List Addr) : Addr → Prop := fun a => C.M0 a ∨ a ∈ m ∨ some a ∈ oas

section
variable (K : PySem.W.Frag) (Mu : Addr → Prop) (m : List Addr) (H : Hp)
def SlotR : Slot → Option Addr → Option V → Prop
  | .un, oa, _ => oa = none
  | .dat d, oa, v => oa = none ∧ ∃ x, v = some x ∧ Rp K Mu m H d x
  | .ownL xs, oa, v => ∃ a vs, oa = some a ∧ v = some (.ref a) ∧ H a = some (.lst vs) ∧ RpA K Mu m H xs vs
  | .ownK xs, oa, v => ∃ a vs, oa = some a ∧ v = some (.ref a) ∧ H a = some (.dK vs) ∧ RpK K Mu m H xs vs
  | .ownT xs, oa, v => ∃ a vs, oa = some a ∧ v = some (.ref a) ∧ H a = some (.dT vs) ∧ RpT K Mu m H xs vs
def CellR : AO → Addr → Prop
  | .gone, _ => True
  | .lst xs, a => ∃ vs, H a = some (.lst vs) ∧ RpA K Mu m H xs vs
  | .dK xs, a => ∃ vs, H a = some (.dK vs) ∧ RpK K Mu m H xs vs
  | .dT xs, a => ∃ vs, H a = some (.dT vs) ∧ RpT K Mu m H xs vs
  | .ins C fs, a => ∃ dx ws, H a = some (.ins (He.ga K C) dx ws) ∧ RpF K Mu m H fs ws
structure CellsR (η : Eta) : Prop where
  len : m.length = η.length
  at_ : ∀ (i : Nat) o a, η[i]? = some o → m[i]? = some a → CellR K Mu m H o a
  nd : m.Nodup
end

/-- the abstract state stands for the slots and the heap -/
structure Sim (K : PySem.W.Frag) (C : Gr) (oas : List (Option Addr)) (m : List Addr) (ρ : Rho) (η : Eta) (σ : L2.St) (H : Hp) : Prop where
  evo : ∀ a o, a ∉ C.m0 → C.H0 a = some o → H a = some o
  trk : TrM (MuOf C oas m) H
  pre : ∃ r, m = C.m0 ++ r ∧ ∀ a ∈ r, C.H0 a = none
  own0 : ∀ a, some a ∈ oas → C.H0 a = none
  nd : (oas.filterMap id).Nodup
  apart : ∀ a, some a ∈ oas → a ∉ m
  olen : oas.length = ρ.length
  slen : ρ.length = σ.length
  slots : ∀ (i : Nat) sl oa, ρ[i]? = some sl → oas[i]? = some oa → SlotR K (MuOf C oas m) m H sl oa (σ[i]?.join)
  cells : CellsR K (MuOf C oas m) m H η

/-- behind an expression: only cells have changed, cells may have come -/
structure Nxt (m m' : List Addr) (H H' : Hp) : Prop where
  at_ : ∀ a o, a ∉ m → H a = some o → H' a = some o
  pre : ∃ r, m' = m ++ r ∧ ∀ a ∈ r, H a = none
  trk : ∀ a o, H a = some o → H' a ≠ none

section
variable {K : PySem.W.Frag} {C : Gr} {oas oas' : List (Option Addr)} {m m' m'' : List Addr} {ρ : Rho} {η η' : Eta} {σ : L2.St} {H H' H'' : Hp} {Mu Mu' : Addr → Prop}
theorem Nxt.refl : Nxt m m H H := ⟨fun _ _ _ h => h, ⟨[], by simp, by simp⟩, fun a o h z => by rw [h] at z; cases z⟩
theorem Nxt.ext (e : ExtF H H') : Nxt m m H H' := ⟨fun a o _ h => e a o h, ⟨[], by simp, by simp⟩, fun a o h z => by rw [e a o h] at z; cases z⟩
theorem Nxt.mem (n : Nxt m m' H H') {a : Addr} (h : a ∈ m') : a ∈ m ∨ H a = none := by
  obtain ⟨r, e, hr⟩ := n.pre
  rw [e] at h
  rcases List.mem_append.mp h with h | h
  · exact .inl h
  · exact .inr (hr a h)
theorem Nxt.sub (n : Nxt m m' H H') {a : Addr} (h : a ∈ m) : a ∈ m' := by
  obtain ⟨r, e, _⟩ := n.pre
  rw [e]
  exact List.mem_append_left _ h
theorem Nxt.trans (x : Nxt m m' H H') (y : Nxt m' m'' H' H'') : Nxt m m'' H H'' := by
  refine ⟨fun a o n h => ?_, ?_, fun a o h => ?_⟩
  · refine y.at_ a o (fun z => ?_) (x.at_ a o n h)
    rcases x.mem z with z | z
    · exact n z
    · rw [h] at z; cases z
  · obtain ⟨r, e, hr⟩ := x.pre
    obtain ⟨t, e2, ht⟩ := y.pre
    refine ⟨r ++ t, by rw [e2, e, List.append_assoc], fun a ha => ?_⟩
    rcases List.mem_append.mp ha with ha | ha
    · exact hr a ha
    · cases q : H a with
      | none => rfl
      | some o =>
        exact absurd (ht a ha) (x.trk a o q)
  · cases q : H' a with
    | none => exact absurd q (x.trk a o h)
    | some u => exact y.trk a u q
theorem Nxt.get (n : Nxt m m' H H') {i : Nat} {a : Addr} (h : m[i]? = some a) : m'[i]? = some a := by
  obtain ⟨r, e, _⟩ := n.pre
  rw [e, List.getElem?_append_left (List.getElem?_eq_some_iff.mp h).1]
  exact h
theorem Nxt.keep (n : Nxt m m' H H') : Keep (MuOf C oas m) (MuOf C oas m') m m' H H' := by
  refine ⟨fun a h => ?_, fun a o h e => n.at_ a o (fun z => h (.inr (.inl z))) e, fun i a h => n.get h⟩
  rcases h with h | h | h
  · exact .inl (.inl h)
  · rcases n.mem h with z | z
    · exact .inl (.inr (.inl z))
    · exact .inr z
  · exact .inl (.inr (.inr h))
theorem SlotR.keep (k : Keep Mu Mu' m m' H H') {sl : Slot} {oa : Option Addr} {v : Option V} (ho : ∀ a o, oa = some a → H a = some o → H' a = some o) (h : SlotR K Mu m H sl oa v) : SlotR K Mu' m' H' sl oa v := by
  cases sl with
  | un => exact h
  | dat d => exact ⟨h.1, h.2.imp fun x q => ⟨q.1, q.2.keep k⟩⟩
  | ownL xs =>
    obtain ⟨a, vs, e1, e2, e3, r⟩ := h
    exact ⟨a, vs, e1, e2, ho a _ e1 e3, r.keep k⟩
  | ownK xs =>
    obtain ⟨a, vs, e1, e2, e3, r⟩ := h
    exact ⟨a, vs, e1, e2, ho a _ e1 e3, r.keep k⟩
  | ownT xs =>
    obtain ⟨a, vs, e1, e2, e3, r⟩ := h
    exact ⟨a, vs, e1, e2, ho a _ e1 e3, r.keep k⟩
theorem CellR.keep (k : Keep Mu Mu' m m' H H') {o : AO} {a : Addr} (h : CellR K Mu m H o a) (ha : ∀ u, H a = some u → H' a = some u) : CellR K Mu' m' H' o a := by
  cases o with
  | gone => trivial
  | lst xs =>
    obtain ⟨vs, e, r⟩ := h
    exact ⟨vs, ha _ e, r.keep k⟩
  | dK xs =>
    obtain ⟨vs, e, r⟩ := h
    exact ⟨vs, ha _ e, r.keep k⟩
  | dT xs =>
    obtain ⟨vs, e, r⟩ := h
    exact ⟨vs, ha _ e, r.keep k⟩
  | ins D fs =>
    obtain ⟨dx, ws, e, r⟩ := h
    exact ⟨dx, ws, ha _ e, r.keep k⟩
theorem CellsR.ext (c : CellsR K Mu m H η) (e : ExtF H H') : CellsR K Mu m H' η :=
  ⟨c.len, fun i o a h1 h2 => (c.at_ i o a h1 h2).keep (.ext e) fun u h => e a u h, c.nd⟩
theorem Sim.ext (S : Sim K C oas m ρ η σ H) (e : ExtF H H') : Sim K C oas m ρ η σ H' :=
  ⟨fun a o n h => e a o (S.evo a o n h), S.trk.ext e, S.pre, S.own0, S.nd, S.apart, S.olen, S.slen, fun i sl oa h1 h2 => (S.slots i sl oa h1 h2).keep (.ext e) fun a o _ h => e a o h, S.cells.ext e⟩
theorem Keep.trans {Mu2 : Addr → Prop} {m2 : List Addr} {H2 : Hp} (x : Keep Mu Mu' m m' H H') (y : Keep Mu' Mu2 m' m2 H' H2) : Keep Mu Mu2 m m2 H H2 := by
  refine ⟨fun a h => ?_, fun a o n h => y.at_ a o (x.no n h) (x.at_ a o n h), fun i a h => y.cells i a (x.cells i a h)⟩
  by_cases hm : Mu a
  · exact .inl hm
  · cases q : H a with
    | none => exact .inr rfl
    | some o =>
      rcases y.mu a h with z | z
      · exact absurd z (x.no hm q)
      · rw [x.at_ a o hm q] at z; cases z
theorem Keep.refl : Keep Mu Mu m m H H := ⟨fun _ h => .inl h, fun _ _ _ h => h, fun _ _ h => h⟩
theorem filterMap_set_none {α : Type} : ∀ (l : List (Option α)) (i : Nat), ((l.set i none).filterMap id).Sublist (l.filterMap id)
  | [], _ => by simp
  | a :: l, 0 => by
    cases a with
    | none => simp
    | some x => simp
  | a :: l, i + 1 => by
    cases a with
    | none => simpa using filterMap_set_none l i
    | some x => simpa using (filterMap_set_none l i).cons₂ x
theorem mem_set_none {α : Type} {l : List (Option α)} {i : Nat} {a : α} (h : some a ∈ l.set i none) : some a ∈ l := by
  rcases List.mem_or_eq_of_mem_set h with h | h
  · exact h
  · cases h
theorem keep_set {i : Nat} : Keep (MuOf C oas m) (MuOf C (oas.set i none) m) m m H H := by
  refine ⟨fun a h => .inl ?_, fun _ _ _ h => h, fun _ _ h => h⟩
  rcases h with h | h | h
  · exact .inl h
  · exact .inr (.inl h)
  · exact .inr (.inr (mem_set_none h))
/-- a name is stored -/
theorem Sim.set (S : Sim K C oas m ρ η σ H) {i : Nat} {d : D} {v : V} (r : Rp K (MuOf C oas m) m H d v) : Sim K C (oas.set i none) m (ρ.set i (.dat d)) η (σ.set i (some v)) H := by
  refine ⟨S.evo, fun a h => S.trk a ?_, S.pre, fun a h => S.own0 a (mem_set_none h), (filterMap_set_none oas i).nodup S.nd, fun a h => S.apart a (mem_set_none h), by simpa using S.olen, by simpa using S.slen, fun j sl oa h1 h2 => ?_, ?_⟩
  · rcases h with h | h | h
    · exact .inl h
    · exact .inr (.inl h)
    · exact .inr (.inr (mem_set_none h))
  · by_cases hj : j = i
    · subst hj
      have hl : j < ρ.length := by
        have := (List.getElem?_eq_some_iff.mp h1).1
        simpa using this
      rw [List.getElem?_set_self hl] at h1
      rw [List.getElem?_set_self (by rw [S.olen]; exact hl)] at h2
      cases h1
      cases h2
      rw [List.getElem?_set_self (by rw [← S.slen]; exact hl)]
      exact ⟨rfl, v, rfl, r.keep keep_set⟩
    · rw [List.getElem?_set_ne (Ne.symm hj)] at h1 h2 ⊢
      exact (S.slots j sl oa h1 h2).keep keep_set fun _ _ _ h => h
  · exact ⟨S.cells.len, fun j o a h1 h2 => (S.cells.at_ j o a h1 h2).keep keep_set fun _ h => h, S.cells.nd⟩
/-- a tree at a name -/
theorem Sim.dat (S : Sim K C oas m ρ η σ H) {i : Nat} {d : D} (h : ρ[i]? = some (.dat d)) : ∃ v, σ[i]? = some (some v) ∧ Rp K (MuOf C oas m) m H d v := by
  have hi : i < oas.length := by rw [S.olen]; exact (List.getElem?_eq_some_iff.mp h).1
  obtain ⟨_, x, e, r⟩ := S.slots i _ _ h (List.getElem?_eq_getElem hi)
  refine ⟨x, ?_, r⟩
  cases q : σ[i]? with
  | none => rw [q] at e; cases e
  | some w =>
    rw [q] at e
    rw [show w = some x from e]
end
end TL
namespace TL
open PySem PySem.Spec PyProof.Rows L2

/-- the fields of an exception in the air -/
def XR (K : PySem.W.Frag) (Mu : Addr → Prop) (m : List Addr) (H : Hp) (fs : List (Str × D)) (d : Option Addr) : Prop :=
  (fs = [] ∧ d = none) ∨ ∃ a ws, d = some a ∧ ¬ Mu a ∧ H a = some (.xd ws) ∧ RpF K Mu m H fs ws

/-- what is wanted behind an expression -/
def PostG {α β : Type} (Rel : PySem.W.Frag → (Addr → Prop) → List Addr → Hp → α → β → Prop) (K : PySem.W.Frag) (W : WX) (C : Gr) (oas : List (Option Addr)) (m : List Addr) (ρ : Rho) (σ : L2.St) (H : Hp) (Q : β → Hp → Prop) (r : Out α × Eta) : Prop :=
  match r.1 with
  | .ok d => ∀ m' v H', Nxt m m' H H' → Sim K C oas m' ρ r.2 σ H' → Rel K (MuOf C oas m') m' H' d v → Q v H'
  | .ex E fs => ∀ m' d H', Nxt m m' H H' → Sim K C oas m' ρ r.2 σ H' → XR K (MuOf C oas m') m' H' fs d → W (.ref (He.ga K E)) d σ H'
def RelB (_ : PySem.W.Frag) (_ : Addr → Prop) (_ : List Addr) (_ : Hp) (b c : Bool) : Prop := b = c
def tG {α β : Type} (Rel : PySem.W.Frag → (Addr → Prop) → List Addr → Hp → α → β → Prop) (K : PySem.W.Frag) (W : WX) (f : Rho → Eta → Res α) : L2.St → Hp → (β → Hp → Prop) → Prop := fun σ H Q =>
  ∃ C oas m ρ η r, Sim K C oas m ρ η σ H ∧ f ρ η = some r ∧ PostG Rel K W C oas m ρ σ H Q r
abbrev tE (K : PySem.W.Frag) (W : WX) (f : EF) : TE := tG Rp K W f
abbrev tA (K : PySem.W.Frag) (W : WX) (f : AF) : TA := tG RpA K W f
abbrev tT (K : PySem.W.Frag) (W : WX) (f : BF) : TT := tG RelB K W f

def bindO {α β : Type} (x : Res α) (k : α → Eta → Res β) : Res β := match x with
  | none => none
  | some (.ok d, η) => k d η
  | some (.ex E fs, η) => some (.ex E fs, η)
def okO {α : Type} (x : Option α) (η : Eta) : Res α := match x with
  | some d => some (.ok d, η)
  | none => none

section
variable {α β γ δ : Type} {Rel : PySem.W.Frag → (Addr → Prop) → List Addr → Hp → α → β → Prop} {Rel2 : PySem.W.Frag → (Addr → Prop) → List Addr → Hp → γ → δ → Prop}
variable {K : PySem.W.Frag} {W : WX} {C : Gr} {oas : List (Option Addr)} {m m1 : List Addr} {ρ : Rho} {η : Eta} {σ : L2.St} {H H1 : Hp}
theorem PostG.step {Q : β → Hp → Prop} {r : Out α × Eta} (h : PostG Rel K W C oas m ρ σ H Q r) (n : Nxt m m1 H H1) : PostG Rel K W C oas m1 ρ σ H1 Q r := by
  obtain ⟨o, η'⟩ := r
  cases o with
  | ok d => exact fun m' v H' n' S R => h m' v H' (n.trans n') S R
  | ex E fs => exact fun m' d H' n' S R => h m' d H' (n.trans n') S R
theorem PostG.ok {Q : β → Hp → Prop} {d : α} {η' : Eta} (h : PostG Rel K W C oas m ρ σ H Q (.ok d, η')) {m' : List Addr} {v : β} {H' : Hp} (n : Nxt m m' H H') (S : Sim K C oas m' ρ η' σ H') (R : Rel K (MuOf C oas m') m' H' d v) : Q v H' := h m' v H' n S R
/-- one part, then the rest -/
theorem bind_G {fa : Rho → Eta → Res α} {k : α → Eta → Res γ} {Q : δ → Hp → Prop} {R : β → Hp → Prop} {r : Out γ × Eta} (S : Sim K C oas m ρ η σ H) (e : bindO (fa ρ η) k = some r) (P : PostG Rel2 K W C oas m ρ σ H Q r)
    (cont : ∀ m1 v H1 x η1, Nxt m m1 H H1 → Sim K C oas m1 ρ η1 σ H1 → Rel K (MuOf C oas m1) m1 H1 x v → k x η1 = some r → PostG Rel2 K W C oas m1 ρ σ H1 Q r → R v H1) : tG Rel K W fa σ H R := by
  cases q : fa ρ η with
  | none => rw [q] at e; cases e
  | some z =>
    obtain ⟨o, η1⟩ := z
    rw [q] at e
    cases o with
    | ok x => exact ⟨C, oas, m, ρ, η, _, S, q, fun m1 v H1 n S1 r1 => cont m1 v H1 x η1 n S1 r1 e (P.step n)⟩
    | ex E fs =>
      have e2 : (Out.ex E fs, η1) = r := Option.some.inj e
      subst e2
      exact ⟨C, oas, m, ρ, η, _, S, q, P⟩
end

/-! ### operations by values -/
section
variable (K : PySem.W.Frag)
def rD2 (g : D → D → Option D) : R2 := fun vx vy H Q => ∃ Mu m x y z, TrM Mu H ∧ Rp K Mu m H x vx ∧ Rp K Mu m H y vy ∧ g x y = some z ∧ ∀ v H', ExtF H H' → Rp K Mu m H' z v → Q v H'
def rD1 (g : D → Option D) : V → Hp → VK → Prop := fun vx H Q => ∃ Mu m x z, TrM Mu H ∧ Rp K Mu m H x vx ∧ g x = some z ∧ ∀ v H', ExtF H H' → Rp K Mu m H' z v → Q v H'
def rDN (g : List D → Option D) : List V → Hp → VK → Prop := fun vs H Q => ∃ Mu m xs z, TrM Mu H ∧ RpA K Mu m H xs vs ∧ g xs = some z ∧ ∀ v H', ExtF H H' → Rp K Mu m H' z v → Q v H'
def rDM (g : D → List D → Option D) : V → List V → Hp → VK → Prop := fun vx vs H Q => ∃ Mu m x xs z, TrM Mu H ∧ Rp K Mu m H x vx ∧ RpA K Mu m H xs vs ∧ g x xs = some z ∧ ∀ v H', ExtF H H' → Rp K Mu m H' z v → Q v H'
end
def f1 (g : D → Option D) (fa : EF) : EF := fun ρ η => bindO (fa ρ η) fun x η1 => okO (g x) η1
def f2 (g : D → D → Option D) (fa fb : EF) : EF := fun ρ η => bindO (fa ρ η) fun x η1 => bindO (fb ρ η1) fun y η2 => okO (g x y) η2
def fN (g : List D → Option D) (fa : AF) : EF := fun ρ η => bindO (fa ρ η) fun x η1 => okO (g x) η1
def fM (g : D → List D → Option D) (fo : EF) (fa : AF) : EF := fun ρ η => bindO (fo ρ η) fun x η1 => bindO (fa ρ η1) fun ys η2 => okO (g x ys) η2
theorem okO_inv {α : Type} {x : Option α} {η : Eta} {r : Out α × Eta} (h : okO x η = some r) : ∃ d, x = some d ∧ r = (.ok d, η) := by
  cases x with
  | none => cases h
  | some d => exact ⟨d, rfl, (Option.some.inj h).symm⟩

section
variable {X : Cx} {W : WX}
theorem _root_.L2.PE.imp {e : Expr} {t t' : TE} (h : PE X e t) (i : ∀ σ H Q, t' σ H Q → t σ H Q) : PE X e t' := ⟨fun pins s σ H Q I q => h.run pins s σ H Q I (i σ H Q q)⟩
theorem _root_.L2.PA.imp {e : List Expr} {t t' : TA} (h : PA X e t) (i : ∀ σ H Q, t' σ H Q → t σ H Q) : PA X e t' := ⟨fun pos pins s σ H Q I q => h.run pos pins s σ H Q I (i σ H Q q)⟩
theorem _root_.L2.PT.imp {e : Expr} {t t' : TT} (h : PT X e t) (i : ∀ σ H Q, t' σ H Q → t σ H Q) : PT X e t' := ⟨fun pins s σ H Q I q => h.run pins s σ H Q I (i σ H Q q)⟩
theorem _root_.L2.PW.imp {e : Expr} {t t' : TT} (h : PW X e t) (i : ∀ σ H Q, t' σ H Q → t σ H Q) : PW X e t' := ⟨fun wh pins s σ H Q I q => h.run wh pins s σ H Q I (i σ H Q q)⟩
theorem _root_.L2.PS.imp {e : Stmt} {t t' : TS} (h : PS X e t) (i : ∀ D σ H, t' D σ H → t D σ H) : PS X e t' := ⟨fun pins s σ H D I q => h.run pins s σ H D I (i D σ H q)⟩
theorem _root_.L2.PSs.imp {e : List Stmt} {t t' : TS} (h : PSs X e t) (i : ∀ D σ H, t' D σ H → t D σ H) : PSs X e t' := ⟨fun pins s σ H D I q => h.run pins s σ H D I (i D σ H q)⟩

section
variable {K : PySem.W.Frag} {σ : L2.St} {H : Hp}
theorem imp_op {g : D → D → Option D} {fa fb : EF} {Q : VK} (h : tE K W (f2 g fa fb) σ H Q) : tOp (rD2 K g) (tE K W fa) (tE K W fb) σ H Q := by
  obtain ⟨C, oas, m, ρ, η, r, S, e, P⟩ := h
  refine bind_G S e P fun m1 vx H1 x η1 n1 S1 rx e1 P1 => ?_
  refine bind_G S1 e1 P1 fun m2 vy H2 y η2 n2 S2 ry e2 P2 => ?_
  obtain ⟨z, hg, rfl⟩ := okO_inv e2
  exact ⟨_, m2, x, y, z, S2.trk, rx.keep n2.keep, ry, hg, fun v H' ex rz => P2.ok (.ext ex) (S2.ext ex) rz⟩
theorem imp_un {g : D → Option D} {fa : EF} {Q : VK} (h : tE K W (f1 g fa) σ H Q) : tUn (rD1 K g) (tE K W fa) σ H Q := by
  obtain ⟨C, oas, m, ρ, η, r, S, e, P⟩ := h
  refine bind_G S e P fun m1 vx H1 x η1 n1 S1 rx e1 P1 => ?_
  obtain ⟨z, hg, rfl⟩ := okO_inv e1
  exact ⟨_, m1, x, z, S1.trk, rx, hg, fun v H' ex rz => P1.ok (.ext ex) (S1.ext ex) rz⟩
theorem imp_cb {g : List D → Option D} {fa : AF} {Q : VK} (h : tE K W (fN g fa) σ H Q) : tCB (rDN K g) (tA K W fa) σ H Q := by
  obtain ⟨C, oas, m, ρ, η, r, S, e, P⟩ := h
  refine bind_G S e P fun m1 vx H1 x η1 n1 S1 rx e1 P1 => ?_
  obtain ⟨z, hg, rfl⟩ := okO_inv e1
  exact ⟨_, m1, x, z, S1.trk, rx, hg, fun v H' ex rz => P1.ok (.ext ex) (S1.ext ex) rz⟩
end

variable {a b c e : Expr} {es : List Expr} {pos p : Pos} {fa fb fc : EF} {ff : AF}

/-! ### names, constants -/
def fVar (i : Nat) : EF := fun ρ η => match ρ[i]? with
  | some (.dat d) => some (.ok d, η)
  | _ => none
def fC (d : D) : EF := fun _ η => some (.ok d, η)
theorem td_var {i : Nat} {x : Str} (hN : X.N[i]? = some x) (hv : Vis X.env.scope x) (hd : (x == ("__debug__" : Str)) = false := by decide) (hcd : (x == ("__classdict__" : Str)) = false := by decide) : PE X (.Name x pos) (tE X.K W (fVar i)) := by
  refine (pe_var hN hv hd hcd).imp fun σ H Q h => ?_
  obtain ⟨C, oas, m, ρ, η, r, S, e, P⟩ := h
  unfold fVar at e
  split at e
  · rename_i d hd
    cases e
    obtain ⟨v, h1, h2⟩ := S.dat hd
    exact ⟨v, h1, P.ok .refl S h2⟩
  · cases e
theorem imp_c {K : PySem.W.Frag} {d : D} {v : V} (h : ∀ Mu m H, Rp K Mu m H d v) {σ : L2.St} {H : Hp} {Q : VK} (q : tE K W (fC d) σ H Q) : tC v σ H Q := by
  obtain ⟨C, oas, m, ρ, η, r, S, e, P⟩ := q
  cases e
  exact P.ok .refl S (h _ _ _)
theorem td_int {i : Int} {j : Nat} : PE X (.Constant (.int i) j pos) (tE X.K W (fC (.int i))) := pe_int.imp fun _ _ _ => imp_c (d := .int i) fun _ _ _ => rfl
theorem td_bl {i : Bool} {j : Nat} : PE X (.Constant (.bool i) j pos) (tE X.K W (fC (.bl i))) := pe_bl.imp fun _ _ _ => imp_c (d := .bl i) fun _ _ _ => rfl
theorem td_non {j : Nat} : PE X (.Constant .none j pos) (tE X.K W (fC .non)) := pe_non.imp fun _ _ _ => imp_c (d := .non) fun _ _ _ => rfl
theorem td_str {x : Str} {j : Nat} : PE X (.Constant (.str x) j pos) (tE X.K W (fC (.str x))) := pe_str.imp fun _ _ _ => imp_c (d := .str x) fun _ _ _ => rfl
/-- a module's name that stands for an int, a text, a class, a def -/
theorem td_glob {x : Str} {d : D} {v : V} {u : Value} (hg : Gl X x) (hm : X.mg x = some u) (r : RelV v u) (h : ∀ Mu m H, Rp X.K Mu m H d v) (hd : (x == ("__debug__" : Str)) = false := by decide) : PE X (.Name x pos) (tE X.K W (fC d)) :=
  (pe_glob hg hm r hd).imp fun _ _ _ => imp_c h
theorem td_ty {x : Str} {n : String} (hg : Gl X x) (hm : X.mg x = none) (hv : bootBuiltins x = some (.type n)) (hn : x ≠ "__name__" := by decide) (hd : (x == ("__debug__" : Str)) = false := by decide) : PE X (.Name x pos) (tE X.K W (fC (.ty n))) :=
  (pe_bltn (v := .ty n) hg hm hv rfl hn hd).imp fun _ _ _ => imp_c (d := .ty n) fun _ _ _ => rfl

/-! ### operators, comparisons -/
theorem td_op {op : Operator} {g : D → D → Option D} (ho : OpR X (binaryOp op) (rD2 X.K g)) (ha : PE X a (tE X.K W fa)) (hb : PE X b (tE X.K W fb)) : PE X (.BinOp a op b pos) (tE X.K W (f2 g fa fb)) :=
  (pe_op ho ha hb).imp fun _ _ _ => imp_op
theorem td_un {op : UnaryOp} {g : D → Option D} (ho : UnR X (unaryOp op) (rD1 X.K g)) (ha : PE X a (tE X.K W fa)) : PE X (.UnaryOp op a pos) (tE X.K W (f1 g fa)) :=
  (pe_un ho ha).imp fun _ _ _ => imp_un
theorem td_cmp {op : CmpOp} {g : D → D → Option D} (ho : OpR X (compareOp op) (rD2 X.K g)) (ha : PE X a (tE X.K W fa)) (hb : PE X b (tE X.K W fb)) (hm : behindInMarks op b = false) : PE X (.Compare a [op] [b] pos) (tE X.K W (f2 g fa fb)) :=
  (pe_cmpR ho ha hb hm).imp fun _ _ _ => imp_op
theorem td_ix {g : D → D → Option D} (ho : IxR X (rD2 X.K g)) (ha : PE X a (tE X.K W fa)) (hb : PE X b (tE X.K W fb)) (hs : PlainIx b) : PE X (.Subscript a b pos) (tE X.K W (f2 g fa fb)) :=
  (pe_ix ho ha hb hs).imp fun _ _ _ => imp_op

/-! ### tests -/
def asB : D → Option Bool
  | .bl b => some b
  | _ => none
def fB (fa : EF) : BF := fun ρ η => bindO (fa ρ η) fun x η1 => okO (asB x) η1
theorem asB_inv {d : D} {b : Bool} (h : asB d = some b) : d = .bl b := by
  cases d <;> first | (cases h; rfl) | cases h
theorem imp_tB {K : PySem.W.Frag} {σ : L2.St} {H : Hp} {Q : Bool → Hp → Prop} (h : tT K W (fB fa) σ H Q) : tE K W fa σ H fun x H' => ∃ k, x = .bl k ∧ Q k H' := by
  obtain ⟨C, oas, m, ρ, η, r, S, e, P⟩ := h
  refine bind_G S e P fun m1 vx H1 x η1 n1 S1 rx e1 P1 => ?_
  obtain ⟨z, hg, rfl⟩ := okO_inv e1
  rw [asB_inv hg] at rx
  exact ⟨z, rx, P1.ok .refl S1 rfl⟩
/-- a bool's expression as a test -/
theorem tt_val (h : PE X e (tE X.K W fa)) (he : ∀ whole, isTrue e X.env whole = (do let v ← whole; standAt e.pos; holding [v] (truthy v)) := by intro _; rfl) : PT X e (tT X.K W (fB fa)) :=
  (pt_val h he).imp fun _ _ _ => imp_tB
theorem tt_cmp {op : CmpOp} {g : D → D → Option D} (ho : OpR X (compareOp op) (rD2 X.K g)) (ha : PE X a (tE X.K W fa)) (hb : PE X b (tE X.K W fb)) (hm : behindInMarks op b = false) : PT X (.Compare a [op] [b] pos) (tT X.K W (fB (f2 g fa fb))) :=
  (pt_cmpR ho ha hb hm).imp fun σ H Q h => by
    obtain ⟨C, oas, m, ρ, η, r, S, e, P⟩ := imp_tB h
    exact imp_op ⟨C, oas, m, ρ, η, r, S, e, P⟩
def fNot (f : BF) : BF := fun ρ η => bindO (f ρ η) fun x η1 => some (.ok (!x), η1)
theorem tt_not {f : BF} (h : PT X a (tT X.K W f)) : PT X (.UnaryOp .Not a pos) (tT X.K W (fNot f)) :=
  (pt_not h).imp fun σ H Q h => by
    obtain ⟨C, oas, m, ρ, η, r, S, e, P⟩ := h
    refine bind_G S e P fun m1 vx H1 x η1 n1 S1 rx e1 P1 => ?_
    cases e1
    cases rx
    exact P1.ok .refl S1 rfl
def fAnd (f g : BF) : BF := fun ρ η => bindO (f ρ η) fun x η1 => match x with
  | true => g ρ η1
  | false => some (.ok false, η1)
def fOr (f g : BF) : BF := fun ρ η => bindO (f ρ η) fun x η1 => match x with
  | true => some (.ok true, η1)
  | false => g ρ η1
theorem tw_and1 {f : BF} (h : PT X a (tT X.K W f)) : PW X (.BoolOp .And [a] pos) (tT X.K W f) := pw_and1 h
theorem tw_or1 {f : BF} (h : PT X a (tT X.K W f)) : PW X (.BoolOp .Or [a] pos) (tT X.K W f) := pw_or1 h
theorem tw_and {f g : BF} {rest : List Expr} (ha : PT X a (tT X.K W f)) (hb : PW X (.BoolOp .And (b :: rest) pos) (tT X.K W g)) : PW X (.BoolOp .And (a :: b :: rest) pos) (tT X.K W (fAnd f g)) :=
  (pw_and ha hb).imp fun σ H Q h => by
    obtain ⟨C, oas, m, ρ, η, r, S, e, P⟩ := h
    refine bind_G S e P fun m1 vx H1 x η1 n1 S1 rx e1 P1 => ?_
    cases rx
    cases vx with
    | true =>
      rw [if_pos rfl]
      exact ⟨C, oas, m1, ρ, η1, r, S1, e1, P1⟩
    | false =>
      cases e1
      rw [if_neg Bool.false_ne_true]
      exact P1.ok .refl S1 rfl
theorem tw_or {f g : BF} {rest : List Expr} (ha : PT X a (tT X.K W f)) (hb : PW X (.BoolOp .Or (b :: rest) pos) (tT X.K W g)) : PW X (.BoolOp .Or (a :: b :: rest) pos) (tT X.K W (fOr f g)) :=
  (pw_or ha hb).imp fun σ H Q h => by
    obtain ⟨C, oas, m, ρ, η, r, S, e, P⟩ := h
    refine bind_G S e P fun m1 vx H1 x η1 n1 S1 rx e1 P1 => ?_
    cases rx
    cases vx with
    | true =>
      cases e1
      rw [if_pos rfl]
      exact P1.ok .refl S1 rfl
    | false =>
      rw [if_neg Bool.false_ne_true]
      exact ⟨C, oas, m1, ρ, η1, r, S1, e1, P1⟩
def fIf (f : BF) (fa fb : EF) : EF := fun ρ η => bindO (f ρ η) fun x η1 => match x with
  | true => fa ρ η1
  | false => fb ρ η1
theorem td_if {f : BF} (hc : PT X c (tT X.K W f)) (ha : PE X a (tE X.K W fa)) (hb : PE X b (tE X.K W fb)) : PE X (.IfExp c a b pos) (tE X.K W (fIf f fa fb)) :=
  (pe_ifExp hc ha hb).imp fun σ H Q h => by
    obtain ⟨C, oas, m, ρ, η, r, S, e, P⟩ := h
    refine bind_G S e P fun m1 vx H1 x η1 n1 S1 rx e1 P1 => ?_
    cases rx
    cases vx with
    | true =>
      rw [if_pos rfl]
      exact ⟨C, oas, m1, ρ, η1, r, S1, e1, P1⟩
    | false =>
      rw [if_neg Bool.false_ne_true]
      exact ⟨C, oas, m1, ρ, η1, r, S1, e1, P1⟩

/-! ### arguments, displays -/
def aNil : AF := fun _ η => some (.ok [], η)
def aCons (fa : EF) (ff : AF) : AF := fun ρ η => bindO (fa ρ η) fun x η1 => bindO (ff ρ η1) fun xs η2 => some (.ok (x :: xs), η2)
theorem ta_nil : PA X [] (tA X.K W aNil) := pa_nil.imp fun σ H Q h => by
  obtain ⟨C, oas, m, ρ, η, r, S, e, P⟩ := h
  cases e
  exact P.ok .refl S rfl
theorem ta_cons (ha : PE X e (tE X.K W fa)) (hr : PA X es (tA X.K W ff)) (hs : starEach (e :: es) X.env = (false, eval e X.env) :: starEach es X.env := by rfl) : PA X (e :: es) (tA X.K W (aCons fa ff)) :=
  (pa_cons ha hr hs).imp fun σ H Q h => by
    obtain ⟨C, oas, m, ρ, η, r, S, e, P⟩ := h
    refine bind_G S e P fun m1 vx H1 x η1 n1 S1 rx e1 P1 => ?_
    refine bind_G S1 e1 P1 fun m2 vs H2 xs η2 n2 S2 rs e2 P2 => ?_
    cases e2
    exact P2.ok .refl S2 ⟨vx, vs, rfl, rx.keep n2.keep, rs⟩
def SZ : Nat := 1000000
theorem sz_line {n : Nat} (h : n ≤ SZ) : n ≤ sizeLine := Nat.le_trans h (by rw [sizeLine_eq]; decide)
theorem sz_line' {n : Nat} (h : n ≤ SZ) : n < sizeLine := Nat.lt_of_le_of_lt h (by rw [sizeLine_eq]; decide)
def mkT (ds : List D) : Option D := if ds.length ≤ SZ then some (.tup ds) else none
def mkL (ds : List D) : Option D := if ds.length ≤ SZ then some (.lst ds) else none
theorem mkT_inv {ds : List D} {d : D} (h : mkT ds = some d) : ds.length ≤ SZ ∧ d = .tup ds := by
  unfold mkT at h
  split at h
  · exact ⟨by assumption, (Option.some.inj h).symm⟩
  · cases h
theorem mkL_inv {ds : List D} {d : D} (h : mkL ds = some d) : ds.length ≤ SZ ∧ d = .lst ds := by
  unfold mkL at h
  split at h
  · exact ⟨by assumption, (Option.some.inj h).symm⟩
  · cases h
section
variable {K : PySem.W.Frag} {Mu : Addr → Prop} {m : List Addr} {H : Hp} {p : Addr} {ds : List D} {vs : List V}
theorem Rp.newT (r : RpA K Mu m H ds vs) (t : TrM Mu H) (h : H p = none) : Rp K Mu m (upd H p (.tup vs)) (.tup ds) (.ref p) := ⟨p, vs, rfl, t.new h, upd_same, r.ext (.new h)⟩
theorem Rp.newL (r : RpA K Mu m H ds vs) (t : TrM Mu H) (h : H p = none) : Rp K Mu m (upd H p (.lst vs)) (.lst ds) (.ref p) := ⟨p, vs, rfl, t.new h, upd_same, r.ext (.new h)⟩
end
theorem td_tup {x1} (h : PA X es (tA X.K W ff)) : PE X (.Tuple es x1 pos) (tE X.K W (fN mkT ff)) :=
  (pe_tup h).imp fun σ H Q h => by
    obtain ⟨C, oas, m, ρ, η, r, S, e, P⟩ := h
    refine bind_G S e P fun m1 vs H1 xs η1 n1 S1 rs e1 P1 => ?_
    obtain ⟨z, hg, rfl⟩ := okO_inv e1
    obtain ⟨hz, rfl⟩ := mkT_inv hg
    exact ⟨sz_line (by rw [← rs.length]; exact hz), fun p hp => P1.ok (.ext (.new hp)) (S1.ext (.new hp)) (.newT rs S1.trk hp)⟩
theorem td_lst (h : PA X es (tA X.K W ff)) : PE X (.List es pos) (tE X.K W (fN mkL ff)) :=
  (pe_lst h).imp fun σ H Q h => by
    obtain ⟨C, oas, m, ρ, η, r, S, e, P⟩ := h
    refine bind_G S e P fun m1 vs H1 xs η1 n1 S1 rs e1 P1 => ?_
    obtain ⟨z, hg, rfl⟩ := okO_inv e1
    obtain ⟨hz, rfl⟩ := mkL_inv hg
    exact ⟨sz_line (by rw [← rs.length]; exact hz), fun p hp => P1.ok (.ext (.new hp)) (S1.ext (.new hp)) (.newL rs S1.trk hp)⟩

/-! ### calls of built-ins by name -/
theorem td_cb {x : Str} {id : String} {g : List D → Option D} (hc : CallR X (.builtin id) (rDN X.K g)) (hg : Gl X x) (hm : X.mg x = none) (hv : bootBuiltins x = some (.builtin id)) (ha : PA X (e :: es) (tA X.K W ff)) (hn : x ≠ "__name__" := by decide) (hdb : (x == ("__debug__" : Str)) = false := by decide)
    (he : starEach (e :: es) X.env = (false, eval e X.env) :: starEach es X.env := by rfl) (hpl : (backTo pos (starEach es X.env)).any (·.1) = false := by rfl) : PE X (.Call (.Name x p) (e :: es) [] pos) (tE X.K W (fN g ff)) :=
  (pe_callB hc hg hm hv ha hn hdb he hpl).imp fun _ _ _ => imp_cb
theorem td_cty {x : Str} {T : String} {g : List D → Option D} (hc : CallR X (.type T) (rDN X.K g)) (hg : Gl X x) (hm : X.mg x = none) (hv : bootBuiltins x = some (.type T)) (ha : PA X (e :: es) (tA X.K W ff)) (hn : x ≠ "__name__" := by decide) (hdb : (x == ("__debug__" : Str)) = false := by decide)
    (he : starEach (e :: es) X.env = (false, eval e X.env) :: starEach es X.env := by rfl) (hpl : (backTo pos (starEach es X.env)).any (·.1) = false := by rfl) : PE X (.Call (.Name x p) (e :: es) [] pos) (tE X.K W (fN g ff)) :=
  (pe_callTy hc hg hm hv ha hn hdb he hpl).imp fun _ _ _ => imp_cb
end
end TL
namespace TL
open PySem PySem.Spec PyProof.Rows L2

/-- the heap's part of what stands for the abstract state -/
structure SimH (K : PySem.W.Frag) (C : Gr) (oas : List (Option Addr)) (m : List Addr) (η : Eta) (H : Hp) : Prop where
  evo : ∀ a o, a ∉ C.m0 → C.H0 a = some o → H a = some o
  trk : TrM (MuOf C oas m) H
  pre : ∃ r, m = C.m0 ++ r ∧ ∀ a ∈ r, C.H0 a = none
  cells : CellsR K (MuOf C oas m) m H η

def PostS (K : PySem.W.Frag) (W : WX) (C : Gr) (oas : List (Option Addr)) (m : List Addr) (H : Hp) (D : Ends) (r : SO × Eta) : Prop :=
  match r.1 with
  | .nx ρ' => ∀ oas' m' σ' H', Keep (MuOf C oas m) (MuOf C oas' m') m m' H H' → Sim K C oas' m' ρ' r.2 σ' H' → D.nx σ' H'
  | .bk ρ' => ∀ oas' m' σ' H', Keep (MuOf C oas m) (MuOf C oas' m') m m' H H' → Sim K C oas' m' ρ' r.2 σ' H' → D.bk σ' H'
  | .ct ρ' => ∀ oas' m' σ' H', Keep (MuOf C oas m) (MuOf C oas' m') m m' H H' → Sim K C oas' m' ρ' r.2 σ' H' → D.ct σ' H'
  | .rt d => ∀ oas' m' v H', Keep (MuOf C oas m) (MuOf C oas' m') m m' H H' → SimH K C oas' m' r.2 H' → Rp K (MuOf C oas' m') m' H' d v → D.rt v H'
  | .ex E fs => ∀ oas' m' d σ' H', Keep (MuOf C oas m) (MuOf C oas' m') m m' H H' → SimH K C oas' m' r.2 H' → XR K (MuOf C oas' m') m' H' fs d → W (.ref (He.ga K E)) d σ' H'
def tS (K : PySem.W.Frag) (W : WX) (g : SF) : TS := fun D σ H => ∃ C oas m ρ η r, Sim K C oas m ρ η σ H ∧ g ρ η = some r ∧ PostS K W C oas m H D r

def bindE {α : Type} (x : Res α) (k : α → Eta → Option (SO × Eta)) : Option (SO × Eta) := match x with
  | none => none
  | some (.ok d, η) => k d η
  | some (.ex E fs, η) => some (.ex E fs, η)

section
variable {K : PySem.W.Frag} {W : WX} {C : Gr} {oas oas1 : List (Option Addr)} {m m1 : List Addr} {ρ : Rho} {η : Eta} {σ : L2.St} {H H1 : Hp} {D : Ends} {r : SO × Eta}
theorem Sim.h (S : Sim K C oas m ρ η σ H) : SimH K C oas m η H := ⟨S.evo, S.trk, S.pre, S.cells⟩
theorem PostS.step (P : PostS K W C oas m H D r) (k : Keep (MuOf C oas m) (MuOf C oas1 m1) m m1 H H1) : PostS K W C oas1 m1 H1 D r := by
  obtain ⟨o, η'⟩ := r
  cases o with
  | nx ρ' => exact fun oas' m' σ' H' k' S => P oas' m' σ' H' (k.trans k') S
  | bk ρ' => exact fun oas' m' σ' H' k' S => P oas' m' σ' H' (k.trans k') S
  | ct ρ' => exact fun oas' m' σ' H' k' S => P oas' m' σ' H' (k.trans k') S
  | rt d => exact fun oas' m' v H' k' S => P oas' m' v H' (k.trans k') S
  | ex E fs => exact fun oas' m' d σ' H' k' S => P oas' m' d σ' H' (k.trans k') S
/-- an expression, then the rest -/
theorem bind_S {α β : Type} {Rel : PySem.W.Frag → (Addr → Prop) → List Addr → Hp → α → β → Prop} {fa : Rho → Eta → Res α} {k : α → Eta → Option (SO × Eta)} {R : β → Hp → Prop} (S : Sim K C oas m ρ η σ H) (e : bindE (fa ρ η) k = some r) (P : PostS K W C oas m H D r)
    (cont : ∀ m1 v H1 x η1, Nxt m m1 H H1 → Sim K C oas m1 ρ η1 σ H1 → Rel K (MuOf C oas m1) m1 H1 x v → k x η1 = some r → PostS K W C oas m1 H1 D r → R v H1) : tG Rel K W fa σ H R := by
  cases q : fa ρ η with
  | none => rw [q] at e; cases e
  | some z =>
    obtain ⟨o, η1⟩ := z
    rw [q] at e
    cases o with
    | ok x => exact ⟨C, oas, m, ρ, η, _, S, q, fun m1 v H1 n S1 r1 => cont m1 v H1 x η1 n S1 r1 e (P.step n.keep)⟩
    | ex E fs =>
      have e2 : (SO.ex E fs, η1) = r := Option.some.inj e
      subst e2
      exact ⟨C, oas, m, ρ, η, _, S, q, fun m1 d H1 n S1 x => P oas m1 d σ H1 n.keep S1.h x⟩
end

/-- behind code that leaves the names and the frame's own objects alone -/
theorem Sim.restore {K : PySem.W.Frag} {C : Gr} {oas : List (Option Addr)} {m m' : List Addr} {ρ : Rho} {η η' : Eta} {σ : L2.St} {H H' : Hp} (S : Sim K C oas m ρ η σ H) (S2 : SimH K C oas m' η' H') (n : Nxt m m' H H') : Sim K C oas m' ρ η' σ H' := by
  refine ⟨S2.evo, S2.trk, S2.pre, S.own0, S.nd, fun a h z => ?_, S.olen, S.slen, fun i sl oa h1 h2 => (S.slots i sl oa h1 h2).keep n.keep fun a o q h => n.at_ a o (S.apart a ?_) h, S2.cells⟩
  · rcases n.mem z with z | z
    · exact S.apart a h z
    · exact S.trk a (.inr (.inr h)) z
  · rw [← q]
    exact List.mem_of_getElem? h2
section
variable {X : Cx} {W : WX} {e c : Expr} {st : Stmt} {a b sts : List Stmt} {pos : Pos} {fa : EF} {g g1 g2 : SF}
def sNil : SF := fun ρ η => some (.nx ρ, η)
def sSeq (g1 g2 : SF) : SF := fun ρ η => match g1 ρ η with
  | some (.nx ρ', η') => g2 ρ' η'
  | r => r
theorem ts_nil : PSs X [] (tS X.K W sNil) := pss_nil.imp fun D σ H h => by
  obtain ⟨C, oas, m, ρ, η, r, S, e, P⟩ := h
  cases e
  exact P oas m σ H .refl S
theorem ts_cons (h1 : PS X st (tS X.K W g1)) (h2 : PSs X sts (tS X.K W g2)) : PSs X (st :: sts) (tS X.K W (sSeq g1 g2)) :=
  (pss_cons h1 h2).imp fun D σ H h => by
    obtain ⟨C, oas, m, ρ, η, r, S, e, P⟩ := h
    unfold sSeq at e
    cases q : g1 ρ η with
    | none => rw [q] at e; cases e
    | some z =>
      obtain ⟨o, η1⟩ := z
      rw [q] at e
      refine ⟨C, oas, m, ρ, η, _, S, q, ?_⟩
      cases o with
      | nx ρ' => exact fun oas' m' σ' H' k' S' => ⟨C, oas', m', ρ', η1, r, S', e, P.step k'⟩
      | bk ρ' => cases e; exact P
      | ct ρ' => cases e; exact P
      | rt d => cases e; exact P
      | ex E fs => cases e; exact P
theorem ts_one (h1 : PS X st (tS X.K W g)) : PSs X [st] (tS X.K W g) := pss_one h1
def sDrop (fa : EF) : SF := fun ρ η => bindE (fa ρ η) fun _ η1 => some (.nx ρ, η1)
theorem ts_expr (he : PE X e (tE X.K W fa)) (hs : swapsWith e none pos.line X.env = pure false := by rfl) : PS X (.Expr e pos) (tS X.K W (sDrop fa)) :=
  (ps_expr he hs).imp fun D σ H h => by
    obtain ⟨C, oas, m, ρ, η, r, S, e, P⟩ := h
    refine bind_S S e P fun m1 v H1 x η1 n S1 r1 e1 P1 => ?_
    cases e1
    exact P1 oas m1 σ H1 .refl S1
def sRet (fa : EF) : SF := fun ρ η => bindE (fa ρ η) fun x η1 => some (.rt x, η1)
theorem ts_ret (he : PE X e (tE X.K W fa)) : PS X (.Return (some e) pos) (tS X.K W (sRet fa)) :=
  (ps_ret he).imp fun D σ H h => by
    obtain ⟨C, oas, m, ρ, η, r, S, e, P⟩ := h
    refine bind_S S e P fun m1 v H1 x η1 n S1 r1 e1 P1 => ?_
    cases e1
    exact P1 oas m1 v H1 .refl S1.h r1
def sRetN : SF := fun _ η => some (.rt .non, η)
theorem ts_retN : PS X (.Return none pos) (tS X.K W sRetN) := ps_retN.imp fun D σ H h => by
  obtain ⟨C, oas, m, ρ, η, r, S, e, P⟩ := h
  cases e
  exact P oas m .non H .refl S.h rfl
def sPass : SF := fun ρ η => some (.nx ρ, η)
theorem ts_pass : PS X (.Pass pos) (tS X.K W sPass) := ps_pass.imp fun D σ H h => by
  obtain ⟨C, oas, m, ρ, η, r, S, e, P⟩ := h
  cases e
  exact P oas m σ H .refl S
def sIf (f : BF) (g1 g2 : SF) : SF := fun ρ η => bindE (f ρ η) fun x η1 => match x with
  | true => g1 ρ η1
  | false => g2 ρ η1
theorem ts_if {f : BF} (hc : PT X c (tT X.K W f)) (ha : PSs X a (tS X.K W g1)) (hb : PSs X b (tS X.K W g2)) : PS X (.If c a b pos) (tS X.K W (sIf f g1 g2)) :=
  (ps_if hc ha hb).imp fun D σ H h => by
    obtain ⟨C, oas, m, ρ, η, r, S, e, P⟩ := h
    refine bind_S S e P fun m1 vx H1 x η1 n1 S1 rx e1 P1 => ?_
    cases rx
    cases vx with
    | true =>
      rw [if_pos rfl]
      exact ⟨C, oas, m1, ρ, η1, r, S1, e1, P1⟩
    | false =>
      rw [if_neg Bool.false_ne_true]
      exact ⟨C, oas, m1, ρ, η1, r, S1, e1, P1⟩
def sSet (i : Nat) (fa : EF) : SF := fun ρ η => bindE (fa ρ η) fun x η1 => some (.nx (ρ.set i (.dat x)), η1)
theorem imp_set {K : PySem.W.Frag} {i : Nat} {D : Ends} {σ : L2.St} {H : Hp} (h : tS K W (sSet i fa) D σ H) : tAsg (tE K W fa) (gName i) D σ H := by
  obtain ⟨C, oas, m, ρ, η, r, S, e, P⟩ := h
  refine bind_S S e P fun m1 v H1 x η1 n S1 r1 e1 P1 => ?_
  cases e1
  exact P1 _ m1 _ H1 keep_set (S1.set r1)
theorem ts_set {i : Nat} {x : Str} {pos' : Pos} (hN : X.N.Nodup) (hi : X.N[i]? = some x) (hx : Loc X.env.scope x) (he : PE X e (tE X.K W fa)) (hs : swapsWith e (some (.Name x pos')) pos.line X.env = pure false := by rfl)
    (hf : X.fn x = true ∨ X.env.scope.names.lookup x = some .local := by first | exact .inl rfl | exact .inr rfl | assumption) : PS X (.Assign [.Name x pos'] e pos) (tS X.K W (sSet i fa)) :=
  (ps_set hN hi hx he hs hf).imp fun _ _ _ => imp_set

/-! ### for -/
def loopS (i : Nat) (g : SF) : List D → SF
  | [], ρ, η => some (.nx ρ, η)
  | d :: ds, ρ, η => match g (ρ.set i (.dat d)) η with
    | some (.nx ρ', η') => loopS i g ds ρ' η'
    | some (.ct ρ', η') => loopS i g ds ρ' η'
    | some (.bk ρ', η') => some (.nx ρ', η')
    | r => r
def lstOf : D → Option (List D)
  | .lst ds => some ds
  | _ => none
def tupOf : D → Option (List D)
  | .tup ds => some ds
  | _ => none
def sFor (sel : D → Option (List D)) (i : Nat) (fa : EF) (g : SF) : SF := fun ρ η => bindE (fa ρ η) fun x η1 => match sel x with
  | some ds => loopS i g ds ρ η1
  | none => none
theorem lstOf_inv {d : D} {ds : List D} (h : lstOf d = some ds) : d = .lst ds := by cases d <;> first | (cases h; rfl) | cases h
theorem tupOf_inv {d : D} {ds : List D} (h : tupOf d = some ds) : d = .tup ds := by cases d <;> first | (cases h; rfl) | cases h
/-- what stands ahead of the i-th turn; ao: what is walked, if it is an object -/
def LoopAt (K : PySem.W.Frag) (W : WX) (C : Gr) (i : Nat) (g : SF) (ao : Option (Addr × HO)) (E : Ends) (ds : List D) (vs : List V) (r : SO × Eta) (n : Nat) (σ : L2.St) (H : Hp) : Prop :=
  ∃ oas m ρ η, Sim K C oas m ρ η σ H ∧ (∀ a o, ao = some (a, o) → H a = some o ∧ ¬ MuOf C oas m a) ∧ RpA K (MuOf C oas m) m H ds vs ∧ loopS i g (ds.drop n) ρ η = some r ∧ PostS K W C oas m H E r
theorem loop_turn {K : PySem.W.Frag} {C : Gr} {i : Nat} {ao : Option (Addr × HO)} {E : Ends} {ds : List D} {vs : List V} {r : SO × Eta} {n : Nat} {x : V} {σ : L2.St} {H : Hp} (hx : vs[n]? = some x) (L : LoopAt K W C i g ao E ds vs r n σ H) :
    gName i x σ H fun σ2 H2 => tS K W g { E with nx := LoopAt K W C i g ao E ds vs r (n + 1), ct := LoopAt K W C i g ao E ds vs r (n + 1), bk := E.nx } σ2 H2 := by
  obtain ⟨oas, m, ρ, η, S, ha, R, e, P⟩ := L
  obtain ⟨d, hd, rd⟩ := R.getV hx
  have hdrop : ds.drop n = d :: ds.drop (n + 1) := by
    obtain ⟨hl, hq⟩ := List.getElem?_eq_some_iff.mp hd
    rw [← hq]
    exact List.drop_eq_getElem_cons hl
  rw [hdrop] at e
  unfold loopS at e
  have S2 := S.set (i := i) rd
  have ha2 : ∀ a o, ao = some (a, o) → H a = some o ∧ ¬ MuOf C (oas.set i none) m a := fun a o q => ⟨(ha a o q).1, keep_set.no (ha a o q).2 (ha a o q).1⟩
  have R2 := R.keep (keep_set (C := C) (oas := oas) (i := i))
  have P2 := P.step (oas1 := oas.set i none) (m1 := m) (H1 := H) keep_set
  cases q : g (ρ.set i (.dat d)) η with
  | none => rw [q] at e; cases e
  | some z =>
    obtain ⟨so, η1⟩ := z
    rw [q] at e
    have go : ∀ ρ', loopS i g (ds.drop (n + 1)) ρ' η1 = some r → ∀ oas' m' σ' H', Keep (MuOf C (oas.set i none) m) (MuOf C oas' m') m m' H H' → Sim K C oas' m' ρ' η1 σ' H' → LoopAt K W C i g ao E ds vs r (n + 1) σ' H' :=
      fun ρ' e' oas' m' σ' H' k' S' => ⟨oas', m', ρ', η1, S', fun a o q => ⟨k'.at_ a o (ha2 a o q).2 (ha2 a o q).1, k'.no (ha2 a o q).2 (ha2 a o q).1⟩, R2.keep k', e', P2.step k'⟩
    refine ⟨C, oas.set i none, m, _, η, _, S2, q, ?_⟩
    cases so with
    | nx ρ' => exact go ρ' e
    | ct ρ' => exact go ρ' e
    | bk ρ' => cases e; exact P2
    | rt d => cases e; exact P2
    | ex E fs => cases e; exact P2
theorem loop_end {K : PySem.W.Frag} {C : Gr} {i n : Nat} {ao : Option (Addr × HO)} {E : Ends} {ds : List D} {vs : List V} {r : SO × Eta} {σ : L2.St} {H : Hp} (hn : vs.length ≤ n) (L : LoopAt K W C i g ao E ds vs r n σ H) : E.nx σ H := by
  obtain ⟨oas, m, ρ, η, S, ha, R, e, P⟩ := L
  rw [List.drop_eq_nil_of_le (by rw [R.length]; exact hn)] at e
  cases e
  exact P oas m σ H .refl S
section
variable {i : Nat} {x : Str} {p' p2 : Pos} {iter : Expr}
theorem ts_for (hp : PassesOwn (model X.prog X.w) X.A X.env X.xe) (hc : X.calm = true) (hN : X.N.Nodup) (hi : X.N[i]? = some x) (hx : Loc X.env.scope x) (hf : X.fn x = true ∨ X.env.scope.names.lookup x = some .local) (he : PE X iter (tE X.K W fa)) (hb : PSs X a (tS X.K W g))
    (hs : ∀ x, foldedSetIterable iter X.env x = pure x := by intro _; rfl) : PS X (.For (.Name x p') iter a [] pos) (tS X.K W (sFor lstOf i fa g)) :=
  (ps_for hp hc (pi_list he) (pg_name hN hi hx hf) hb hs).imp fun E σ H h => by
    obtain ⟨C, oas, m, ρ, η, r, S, e, P⟩ := h
    refine bind_S S e P fun m1 v H1 x η1 n S1 r1 e1 P1 => ?_
    cases q : lstOf x with
    | none => rw [q] at e1; cases e1
    | some ds =>
      rw [q] at e1
      rw [lstOf_inv q] at r1
      obtain ⟨l, vs, rfl, nm, hl, R⟩ := r1
      refine ⟨l, rfl, ⟨vs, .of hl⟩, ?_⟩
      refine for_list (K := X.K) (a := l) (xs := vs) (LoopAt X.K W C i g (some (l, .lst vs)) E ds vs r) ⟨oas, m1, ρ, η1, S1, fun a o q => by cases q; exact ⟨hl, nm⟩, R, e1, P1⟩ ?_ ?_ ?_
      · rintro n σ H _ ⟨oas, m, ρ, η, _, ha, _⟩
        exact .of (ha _ _ rfl).1
      · exact fun n x σ H hx L => loop_turn hx L
      · exact fun σ H L => loop_end (Nat.le_refl _) L
theorem ts_forT (hp : PassesOwn (model X.prog X.w) X.A X.env X.xe) (hc : X.calm = true) (hN : X.N.Nodup) (hi : X.N[i]? = some x) (hx : Loc X.env.scope x) (hf : X.fn x = true ∨ X.env.scope.names.lookup x = some .local) (he : PE X iter (tE X.K W fa)) (hb : PSs X a (tS X.K W g))
    (hs : ∀ x, foldedSetIterable iter X.env x = pure x := by intro _; rfl) : PS X (.For (.Name x p') iter a [] pos) (tS X.K W (sFor tupOf i fa g)) :=
  (ps_for hp hc (pi_tup he) (pg_name hN hi hx hf) hb hs).imp fun E σ H h => by
    obtain ⟨C, oas, m, ρ, η, r, S, e, P⟩ := h
    refine bind_S S e P fun m1 v H1 x η1 n S1 r1 e1 P1 => ?_
    cases q : tupOf x with
    | none => rw [q] at e1; cases e1
    | some ds =>
      rw [q] at e1
      rw [tupOf_inv q] at r1
      obtain ⟨l, vs, rfl, nm, hl, R⟩ := r1
      refine ⟨l, rfl, ⟨vs, .of hl⟩, ?_⟩
      refine for_tup (K := X.K) (a := l) (xs := vs) (LoopAt X.K W C i g (some (l, .tup vs)) E ds vs r) ⟨oas, m1, ρ, η1, S1, fun a o q => by cases q; exact ⟨hl, nm⟩, R, e1, P1⟩ ?_ ?_ ?_
      · rintro n σ H _ ⟨oas, m, ρ, η, _, ha, _⟩
        exact .of (ha _ _ rfl).1
      · exact fun n x σ H hx L => loop_turn hx L
      · exact fun σ H L => loop_end (Nat.le_refl _) L
/-- lo, lo + 1, .. -/
def intsFrom (lo : Int) (n : Nat) : List Int := (List.range n).map fun (k : Nat) => lo + (k : Int)
def upTo (lo : Int) (n : Nat) : List D := (intsFrom lo n).map D.int
def rng1 : D → Option (List D)
  | .int j => if j ≤ 1000000 ∧ -1000000 ≤ j then some (upTo 0 j.toNat) else none
  | _ => none
theorem rng1_inv {d : D} {ds : List D} (h : rng1 d = some ds) : ∃ j : Int, d = .int j ∧ (j ≤ 1000000 ∧ -1000000 ≤ j) ∧ ds = upTo 0 j.toNat := by
  unfold rng1 at h
  split at h
  · split at h
    · exact ⟨_, rfl, by assumption, (Option.some.inj h).symm⟩
    · cases h
  · cases h
def rng2 : D → D → Option (List D)
  | .int i, .int j => if (j ≤ 1000000 ∧ -1000000 ≤ j) ∧ i ≤ 1000000 ∧ -1000000 ≤ i then some (upTo i (j - i).toNat) else none
  | _, _ => none
theorem upTo_get {lo : Int} {n k : Nat} (h : k < n) : ((intsFrom lo n).map V.int)[k]? = some (V.int (lo + (k : Int))) := by
  unfold intsFrom
  rw [List.getElem?_map, List.getElem?_map, List.getElem?_range h]
  rfl
theorem imp_rng {K : PySem.W.Frag} {C : Gr} {oas : List (Option Addr)} {m : List Addr} {ρ : Rho} {η : Eta} {σ : L2.St} {H : Hp} {E : Ends} {r : SO × Eta} {lo : Int} {n : Nat} (S : Sim K C oas m ρ η σ H) (e : loopS i g (upTo lo n) ρ η = some r) (P : PostS K W C oas m H E r) :
    ∃ W' : Nat → Nat → L2.St → Hp → Prop, (∃ m, W' 0 m σ H) ∧ ∀ k m σ H, W' k m σ H →
      ((Itr lo n).stop k H ∧ E.nx σ H) ∨ ((Itr lo n).go k H ∧ ∃ N : L2.St → Hp → Prop, (∀ σ' H', N σ' H' → ∃ m', m' < m ∧ W' (k + 1) m' σ' H') ∧ ∀ x H', (Itr lo n).yld k H x H' → gName i x σ H' fun σ2 H2 => tS K W g { E with nx := N, ct := N, bk := E.nx } σ2 H2) := by
  have hlen : ((intsFrom lo n).map V.int).length = n := by simp [intsFrom]
  have st : LoopAt K W C i g none E (upTo lo n) ((intsFrom lo n).map V.int) r 0 σ H := ⟨oas, m, ρ, η, S, (fun a o q => by cases q), RpA.ints, e, P⟩
  refine for_range (LoopAt K W C i g none E (upTo lo n) ((intsFrom lo n).map V.int) r) st ?_ ?_
  · exact fun k σ H hk L => loop_turn (upTo_get hk) L
  · exact fun σ H L => loop_end (Nat.le_of_eq hlen) L
/-- for x in range(e) -/
theorem ts_forR {e : Expr} {q3 : Pos} (hp : PassesOwn (model X.prog X.w) X.A X.env X.xe) (hc : X.calm = true) (hN : X.N.Nodup) (hi : X.N[i]? = some x) (hx : Loc X.env.scope x) (hf : X.fn x = true ∨ X.env.scope.names.lookup x = some .local) (hg : Gl X "range") (hm : X.mg "range" = none)
    (he : PE X e (tE X.K W fa)) (hb : PSs X a (tS X.K W g)) (hes : starEach [e] X.env = (false, eval e X.env) :: starEach [] X.env := by rfl) : PS X (.For (.Name x p') (.Call (.Name "range" p2) [e] [] q3) a [] pos) (tS X.K W (sFor rng1 i fa g)) :=
  (ps_for hp hc (pi_range1 hg hm (pa_cons he pa_nil hes) hes) (pg_name hN hi hx hf) hb (by intro _; rfl)).imp fun E σ H h => by
    obtain ⟨C, oas, m, ρ, η, r, S, e, P⟩ := h
    refine bind_S S e P fun m1 v H1 x η1 n S1 r1 e1 P1 => ?_
    cases q : rng1 x with
    | none => rw [q] at e1; cases e1
    | some ds =>
      rw [q] at e1
      obtain ⟨j, rfl, hj, rfl⟩ := rng1_inv q
      have e0 : v = V.int j := r1
      subst e0
      exact ⟨j, rfl, by omega, by omega, imp_rng S1 e1 P1⟩
end
end
end TL
namespace TL
open PySem PySem.Spec PyProof.Rows L2

/-- nothing is raised -/
def WF : WX := fun _ _ _ _ => False
def bindN {α β : Type} (x : Res α) (k : α → Eta → Res β) : Res β := match x with
  | some (.ok d, η) => k d η
  | _ => none
/-- a list comprehension over these items; i: its name -/
def compL (i : Nat) (ft : BF) (fe : EF) : List D → Rho → Eta → Res (List D)
  | [], _, η => some (.ok [], η)
  | d :: ds, ρ, η => bindN (ft (ρ.set i (.dat d)) η) fun b η1 => match b with
    | true => bindN (fe (ρ.set i (.dat d)) η1) fun y η2 => bindN (compL i ft fe ds ρ η2) fun ys η3 => some (.ok (y :: ys), η3)
    | false => compL i ft fe ds ρ η1
def noOwn : Option Slot → Bool
  | some (.ownL _) => false
  | some (.ownK _) => false
  | some (.ownT _) => false
  | _ => true
def fComp (sel : D → Option (List D)) (i : Nat) (fs : EF) (ft : BF) (fe : EF) : EF := fun ρ η => bindO (fs ρ η) fun x η1 => match sel x, noOwn ρ[i]? with
  | some ds, true => bindN (compL i ft fe ds (ρ.set i .un) η1) fun ys η2 => okO (mkL ys) η2
  | _, _ => none
def tYesF : BF := fun _ η => some (.ok true, η)
theorem bindN_inv {α β : Type} {x : Res α} {k : α → Eta → Res β} {r : Out β × Eta} (h : bindN x k = some r) : ∃ d η, x = some (.ok d, η) ∧ k d η = some r := by
  cases x with
  | none => cases h
  | some z =>
    obtain ⟨o, η⟩ := z
    cases o with
    | ok d => exact ⟨d, η, rfl, h⟩
    | ex E fs => cases h

section
variable {K : PySem.W.Frag} {C : Gr} {oas : List (Option Addr)} {m : List Addr} {ρ : Rho} {η : Eta} {σ : L2.St} {H : Hp} {p : Addr}
def Gr.and (C : Gr) (p : Addr) : Gr := ⟨C.H0, fun a => C.M0 a ∨ a = p, C.m0⟩
theorem mu_and {a : Addr} (h : MuOf (C.and p) oas m a) : MuOf C oas m a ∨ a = p := by
  rcases h with (h | h) | h | h
  · exact .inl (.inl h)
  · exact .inr h
  · exact .inl (.inr (.inl h))
  · exact .inl (.inr (.inr h))
theorem mu_sub {a : Addr} (h : MuOf C oas m a) : MuOf (C.and p) oas m a := by
  rcases h with h | h | h
  · exact .inl (.inl h)
  · exact .inr (.inl h)
  · exact .inr (.inr h)
theorem keep_and (hp : H p = none) {o : HO} : Keep (MuOf C oas m) (MuOf (C.and p) oas m) m m H (upd H p o) :=
  ⟨fun a h => (mu_and h).imp id fun e => by rw [e]; exact hp, fun a u _ h => ExtF.new hp a u h, fun _ _ h => h⟩
theorem keep_less : Keep (MuOf (C.and p) oas m) (MuOf C oas m) m m H H := ⟨fun a h => .inl (mu_sub h), fun _ _ _ h => h, fun _ _ h => h⟩
/-- an object that may change is laid -/
theorem Sim.and (S : Sim K C oas m ρ η σ H) (hp : H p = none) (o : HO) : Sim K (C.and p) oas m ρ η σ (upd H p o) := by
  have e := ExtF.new (o := o) hp
  refine ⟨fun a u n h => e a u (S.evo a u n h), fun a h z => ?_, S.pre, S.own0, S.nd, S.apart, S.olen, S.slen, fun i sl oa h1 h2 => (S.slots i sl oa h1 h2).keep (keep_and hp) fun a u _ h => e a u h,
    ⟨S.cells.len, fun i u a h1 h2 => (S.cells.at_ i u a h1 h2).keep (keep_and hp) fun w h => e a w h, S.cells.nd⟩⟩
  rcases mu_and h with h | h
  · exact (S.trk.ext e) a h z
  · rw [h, upd_same] at z; cases z
/-- it changes -/
theorem Sim.poke (S : Sim K C oas m ρ η σ H) (hm : C.M0 p) (n1 : p ∉ m) (n2 : some p ∉ oas) (h0 : C.H0 p = none) (o : HO) : Sim K C oas m ρ η σ (upd H p o) := by
  have k : Keep (MuOf C oas m) (MuOf C oas m) m m H (upd H p o) := ⟨fun a h => .inl h, fun a u n h => by
    rw [upd_ne fun z => n (by rw [z]; exact .inl hm)]
    exact h, fun _ _ h => h⟩
  refine ⟨fun a u n h => ?_, fun a h z => ?_, S.pre, S.own0, S.nd, S.apart, S.olen, S.slen, fun i sl oa h1 h2 => (S.slots i sl oa h1 h2).keep k fun a u q h => ?_,
    ⟨S.cells.len, fun i u a h1 h2 => (S.cells.at_ i u a h1 h2).keep k fun w h => ?_, S.cells.nd⟩⟩
  · rw [upd_ne fun z => by rw [z, h0] at h; cases h]
    exact S.evo a u n h
  · by_cases e : a = p
    · rw [e, upd_same] at z; cases z
    · rw [upd_ne e] at z
      exact S.trk a h z
  · rw [upd_ne fun z => n2 (by rw [← z, ← q]; exact List.mem_of_getElem? h2)]
    exact h
  · rw [upd_ne fun z => n1 (by rw [← z]; exact List.mem_of_getElem? h2)]
    exact h
theorem Sim.less (S : Sim K (C.and p) oas m ρ η σ H) : Sim K C oas m ρ η σ H :=
  ⟨S.evo, fun a h => S.trk a (mu_sub h), S.pre, S.own0, S.nd, S.apart, S.olen, S.slen, fun i sl oa h1 h2 => (S.slots i sl oa h1 h2).keep keep_less fun _ _ _ h => h,
    ⟨S.cells.len, fun i u a h1 h2 => (S.cells.at_ i u a h1 h2).keep keep_less fun w h => h, S.cells.nd⟩⟩
/-- a name is forgotten -/
theorem Sim.unset (S : Sim K C oas m ρ η σ H) {i : Nat} (h : noOwn ρ[i]? = true) : Sim K C oas m (ρ.set i .un) η (σ.set i none) H := by
  refine ⟨S.evo, S.trk, S.pre, S.own0, S.nd, S.apart, by simpa using S.olen, by simpa using S.slen, fun j sl oa h1 h2 => ?_, S.cells⟩
  by_cases hj : j = i
  · subst hj
    have hl : j < ρ.length := by
      have := (List.getElem?_eq_some_iff.mp h1).1
      simpa using this
    rw [List.getElem?_set_self hl] at h1
    cases h1
    have q : ρ[j]? = some ρ[j] := List.getElem?_eq_getElem hl
    have z := S.slots j _ oa q h2
    rw [q] at h
    show oa = none
    cases e : ρ[j] with
    | un => rw [e] at z; exact z
    | dat d => rw [e] at z; exact z.1
    | ownL xs => rw [e] at h; cases h
    | ownK xs => rw [e] at h; cases h
    | ownT xs => rw [e] at h; cases h
  · rw [List.getElem?_set_ne (Ne.symm hj)] at h1 ⊢
    exact S.slots j sl oa h1 h2
theorem Sim.fresh0 (S : Sim K C oas m ρ η σ H) (hp : H p = none) : C.H0 p = none ∧ p ∉ m ∧ some p ∉ oas := by
  have nm : p ∉ m := fun h => S.trk p (.inr (.inl h)) hp
  refine ⟨?_, nm, fun h => S.trk p (.inr (.inr h)) hp⟩
  cases q : C.H0 p with
  | none => rfl
  | some o =>
    have n0 : p ∉ C.m0 := fun h => nm (by obtain ⟨r, e, _⟩ := S.pre; rw [e]; exact List.mem_append_left _ h)
    rw [S.evo p o n0 q] at hp
    cases hp
end

theorem Nxt.poke {m m' : List Addr} {H H' : Hp} {p : Addr} {o : HO} (n : Nxt m m' H H') (hp : H p = none) : Nxt m m' H (upd H' p o) := by
  refine ⟨fun a u h e => ?_, n.pre, fun a u e z => ?_⟩
  · rw [upd_ne (ne_of_none e hp)]
    exact n.at_ a u h e
  · rw [upd_ne (ne_of_none e hp)] at z
    exact n.trk a u e z
/-- the comprehension's state ahead of the n-th item; L: the new list -/
structure CompAt (K : PySem.W.Frag) (C : Gr) (oas : List (Option Addr)) (ρ : Rho) (σ : L2.St) (i : Nat) (ft : BF) (fe : EF) (ao : Option (Addr × HO)) (L : Addr) (ds : List D) (vs : List V) (full : List D) (ηe : Eta) (m1 : List Addr) (H1 : Hp) (n : Nat) (H : Hp) : Prop where
  ex : ∃ m η acc accD rest, Sim K (C.and L) oas m (ρ.set i .un) η (σ.set i none) H ∧ (∀ a o, ao = some (a, o) → H a = some o ∧ ¬ MuOf (C.and L) oas m a) ∧ RpA K (MuOf (C.and L) oas m) m H ds vs ∧
    H L = some (.lst acc) ∧ RpA K (MuOf (C.and L) oas m) m H accD acc ∧ compL i ft fe (ds.drop n) (ρ.set i .un) η = some (.ok rest, ηe) ∧ full = accD ++ rest ∧ L ∉ m ∧ Nxt m1 m H1 H
section
variable {K : PySem.W.Frag} {C : Gr} {oas : List (Option Addr)} {ρ : Rho} {σ : L2.St} {i : Nat} {ft : BF} {fe : EF} {ao : Option (Addr × HO)} {L : Addr} {ds : List D} {vs : List V} {full : List D} {ηe : Eta} {m1 : List Addr} {H1 H : Hp} {n : Nat} {x : V} {tt : TT}
theorem comp_turn (h0 : C.H0 L = none) (n2 : some L ∉ oas) (hL : H1 L = none) (hz : full.length ≤ SZ) (ht : ∀ σ H Q, tT K WF ft σ H Q → tt σ H Q) (hx : vs[n]? = some x) (A : CompAt K C oas ρ σ i ft fe ao L ds vs full ηe m1 H1 n H) :
    gName i x (wipe σ [i]) H fun σ2 H2 => wipe σ2 [i] = wipe σ [i] ∧ tt σ2 H2 fun b H3 =>
      if b = true then tE K WF fe σ2 H3 fun y H4 => ∃ acc, H4 L = some (.lst acc) ∧ acc.length < sizeLine ∧ CompAt K C oas ρ σ i ft fe ao L ds vs full ηe m1 H1 (n + 1) (upd H4 L (.lst (acc ++ [y]))) else CompAt K C oas ρ σ i ft fe ao L ds vs full ηe m1 H1 (n + 1) H3 := by
  obtain ⟨m, η, acc, accD, rest, S, ha, R, hl, Ra, e, ef, nL, N⟩ := A.ex
  obtain ⟨d, hd, rd⟩ := R.getV hx
  have hdrop : ds.drop n = d :: ds.drop (n + 1) := by
    obtain ⟨hl, hq⟩ := List.getElem?_eq_some_iff.mp hd
    rw [← hq]
    exact List.drop_eq_getElem_cons hl
  rw [hdrop] at e
  unfold compL at e
  obtain ⟨b, η1, e1, e2⟩ := bindN_inv e
  have wp : wipe σ [i] = σ.set i none := rfl
  refine ⟨?_, ?_⟩
  · rw [wp]
    show ((σ.set i none).set i (some x)).set i none = σ.set i none
    simp
  refine ht _ _ _ ?_
  have S2 : Sim K (C.and L) (oas.set i none) m ((ρ.set i .un).set i (.dat d)) η ((wipe σ [i]).set i (some x)) H := S.set rd
  refine ⟨C.and L, oas.set i none, m, _, η, _, S2, e1, fun m2 b' H2 N2 S3 rb => ?_⟩
  -- oas.set i none = oas
  have oi : oas.set i none = oas := by
    have z := S.slots i .un
    by_cases hi : i < oas.length
    · have hρ : i < ρ.length := by have := S.olen; simp at this; omega
      have q := z oas[i] (by rw [List.getElem?_set_self hρ]) (List.getElem?_eq_getElem hi)
      have q : oas[i] = none := q
      refine List.ext_getElem? fun j => ?_
      by_cases hj : j = i
      · subst hj
        rw [List.getElem?_set_self hi, List.getElem?_eq_getElem hi, q]
      · rw [List.getElem?_set_ne (Ne.symm hj)]
    · exact List.set_eq_of_length_le (by omega)
  rw [oi] at S3
  have hb : b = b' := rb
  subst hb
  have kk := N2.keep (C := C.and L) (oas := oas)
  have hL2 : H2 L = some (.lst acc) := N2.at_ L _ nL hl
  have nL2 : L ∉ m2 := fun z => by
    rcases N2.mem z with z | z
    · exact nL z
    · rw [hl] at z; cases z
  have ha2 : ∀ a o, ao = some (a, o) → H2 a = some o ∧ ¬ MuOf (C.and L) oas m2 a := fun a o q => ⟨kk.at_ a o (ha a o q).2 (ha a o q).1, kk.no (ha a o q).2 (ha a o q).1⟩
  have back : Sim K (C.and L) oas m2 (ρ.set i .un) η1 (σ.set i none) H2 := by
    have q := S3.unset (i := i) (by
      rw [List.set_set]
      by_cases hi : i < ρ.length
      · rw [List.getElem?_set_self hi]; rfl
      · rw [List.getElem?_eq_none (by simp; omega)]; rfl)
    have e1 : ((ρ.set i Slot.un).set i (.dat d)).set i .un = ρ.set i .un := by simp
    have e2 : ((wipe σ [i]).set i (some x)).set i none = σ.set i none := by rw [wp]; simp
    rw [e1, e2] at q
    exact q
  cases b with
  | false =>
    refine iteF ?_
    exact ⟨m2, η1, acc, accD, rest, back, ha2, R.keep kk, hL2, Ra.keep kk, e2, ef, nL2, N.trans N2⟩
  | true =>
    refine iteT ?_
    obtain ⟨y, η2, e3, e4⟩ := bindN_inv e2
    obtain ⟨ys, η3, e5, e6⟩ := bindN_inv e4
    cases e6
    refine ⟨C.and L, oas, m2, _, η1, _, S3, e3, fun m3 yv H3 N3 S4 ry => ?_⟩
    have k3 := N3.keep (C := C.and L) (oas := oas)
    have hL3 : H3 L = some (.lst acc) := N3.at_ L _ nL2 hL2
    have nL3 : L ∉ m3 := fun z => by
      rcases N3.mem z with z | z
      · exact nL2 z
      · rw [hL2] at z; cases z
    have back3 : Sim K (C.and L) oas m3 (ρ.set i .un) η2 (σ.set i none) H3 := by
      have q := S4.unset (i := i) (by
        rw [List.set_set]
        by_cases hi : i < ρ.length
        · rw [List.getElem?_set_self hi]; rfl
        · rw [List.getElem?_eq_none (by simp; omega)]; rfl)
      have e1 : ((ρ.set i Slot.un).set i (.dat d)).set i .un = ρ.set i .un := by simp
      have e2 : ((wipe σ [i]).set i (some x)).set i none = σ.set i none := by rw [wp]; simp
      rw [e1, e2] at q
      exact q
    refine ⟨acc, hL3, sz_line' ?_, ?_⟩
    · have q1 := Ra.length
      have q2 := congrArg List.length ef
      rw [List.length_append] at q2
      omega
    have mL : MuOf (C.and L) oas m3 L := .inl (.inr rfl)
    have kp : Keep (MuOf (C.and L) oas m3) (MuOf (C.and L) oas m3) m3 m3 H3 (upd H3 L (.lst (acc ++ [yv]))) := ⟨fun a h => .inl h, fun a u n h => by
      rw [upd_ne fun z => n (by rw [z]; exact mL)]
      exact h, fun _ _ h => h⟩
    have kf := (kk.trans k3).trans kp
    refine ⟨m3, η2, acc ++ [yv], accD ++ [y], ys, back3.poke (.inr rfl) nL3 n2 h0 _, fun a o q => ⟨kf.at_ a o (ha a o q).2 (ha a o q).1, kf.no (ha a o q).2 (ha a o q).1⟩, R.keep kf, upd_same,
      (Ra.keep kf).append ⟨yv, [], rfl, ry.keep kp, rfl⟩, e5, by rw [ef]; simp, nL3, (N.trans (N2.trans N3)).poke hL⟩
/-- the items are through -/
theorem comp_end (h0 : C.H0 L = none) (hn : vs.length ≤ n) (A : CompAt K C oas ρ σ i ft fe ao L ds vs full ηe m1 H1 n H) : ∃ m acc, Sim K (C.and L) oas m (ρ.set i .un) ηe (σ.set i none) H ∧ H L = some (.lst acc) ∧ L ∉ m ∧ RpA K (MuOf (C.and L) oas m) m H full acc ∧ Nxt m1 m H1 H := by
  obtain ⟨m, η, acc, accD, rest, S, ha, R, hl, Ra, e, ef, nL, N⟩ := A.ex
  rw [List.drop_eq_nil_of_le (by rw [R.length]; exact hn)] at e
  cases e
  rw [List.append_nil] at ef
  rw [ef]
  exact ⟨m, acc, S, hl, nL, Ra, N⟩
end
section
variable {X : Cx} {W : WX} {i : Nat} {x : Str} {p' pos : Pos} {iter elt : Expr} {ifs : List Expr} {scope : Scope} {fs fe : EF} {ft : BF} {tt : TT}
/-- the new list behind its items -/
theorem comp_done {K : PySem.W.Frag} {C : Gr} {oas : List (Option Addr)} {m1 : List Addr} {ρ : Rho} {σ : L2.St} {ao : Option (Addr × HO)} {L : Addr} {ds : List D} {vs : List V} {full : List D} {ηe η1 : Eta} {H H1 : Hp} {Q : VK} {r : Out D × Eta}
    (S : Sim K C oas m1 ρ η1 σ H1) (hL : H1 L = none) (hno : noOwn ρ[i]? = true) (hr : okO (mkL full) ηe = some r) (P : PostG Rp K W C oas m1 ρ σ H1 Q r) {n : Nat} (hn : vs.length ≤ n) (A : CompAt K C oas ρ σ i ft fe ao L ds vs full ηe m1 H1 n H) : Q (.ref L) H := by
  obtain ⟨h0, n1, n2⟩ := S.fresh0 hL
  obtain ⟨m, acc, S2, hl, nL, R, N⟩ := comp_end h0 hn A
  obtain ⟨z, hz, rfl⟩ := okO_inv hr
  obtain ⟨_, rfl⟩ := mkL_inv hz
  refine P.ok N (S.restore S2.less.h N) ⟨L, acc, rfl, fun q => ?_, hl, R.keep keep_less⟩
  rcases q with q | q | q
  · exact (S.trk L (.inl q)) hL
  · exact nL q
  · exact n2 q
/-- ahead of the first item -/
theorem comp_start {K : PySem.W.Frag} {C : Gr} {oas : List (Option Addr)} {m1 : List Addr} {ρ : Rho} {σ : L2.St} {ao : Option (Addr × HO)} {L : Addr} {ds : List D} {vs : List V} {full : List D} {ηe η1 : Eta} {H1 : Hp}
    (S : Sim K C oas m1 ρ η1 σ H1) (hL : H1 L = none) (hno : noOwn ρ[i]? = true) (ha : ∀ a o, ao = some (a, o) → H1 a = some o ∧ ¬ MuOf C oas m1 a) (R : RpA K (MuOf C oas m1) m1 H1 ds vs) (e : compL i ft fe ds (ρ.set i .un) η1 = some (.ok full, ηe)) :
    CompAt K C oas ρ σ i ft fe ao L ds vs full ηe m1 H1 0 (upd H1 L (.lst [])) := by
  have k := keep_and (C := C) (oas := oas) (m := m1) (o := HO.lst []) hL
  exact ⟨m1, η1, [], [], full, (S.and hL _).unset hno, fun a o q => ⟨k.at_ a o (ha a o q).2 (ha a o q).1, k.no (ha a o q).2 (ha a o q).1⟩, R.keep k, upd_same, rfl, e, rfl, (S.fresh0 hL).2.1, (Nxt.refl).poke hL⟩
/-- what a comprehension's parts are, within its block -/
structure BlkG (X : Cx) (scope : Scope) (i : Nat) (x : Str) (p' : Pos) (ifs : List Expr) (elt : Expr) (ft : BF) (fe : EF) : Prop where
  calm : X.calm = true
  nd : X.N.Nodup
  ok : BlkOk X.N X.env.scope scope [(x, i)]
  tg : ∀ (s : Shared) (H : Hp) (C : Addr) (cl : List (Str × Addr)) (fp : List Addr), PG (X.blk s H scope (compEnvC scope cl C X.env) fp) (.Name x p') (gName i)
  ts : ∀ (s : Shared) (H : Hp) (C : Addr) (cl : List (Str × Addr)) (fp : List Addr), ∃ tt : TT, PTs (X.blk s H scope (compEnvC scope cl C X.env) fp) ifs tt ∧ ∀ σ H Q, tT X.K WF ft σ H Q → tt σ H Q
  el : ∀ (s : Shared) (H : Hp) (C : Addr) (cl : List (Str × Addr)) (fp : List Addr), PE (X.blk s H scope (compEnvC scope cl C X.env) fp) elt (tE X.K WF fe)
theorem PTs.imp {X : Cx} {ifs : List Expr} {t t' : TT} (h : PTs X ifs t) (i : ∀ σ H Q, t' σ H Q → t σ H Q) : PTs X ifs t' := ⟨fun pins s σ H Q I q => h.run pins s σ H Q I (i σ H Q q)⟩
theorem BlkG.te (B : BlkG X scope i x p' ifs elt ft fe) (s : Shared) (H : Hp) (C : Addr) (cl : List (Str × Addr)) (fp : List Addr) : PTs (X.blk s H scope (compEnvC scope cl C X.env) fp) ifs (tT X.K WF ft) := by
  obtain ⟨tt, h1, h2⟩ := B.ts s H C cl fp
  exact PTs.imp h1 h2
theorem td_lc (B : BlkG X scope i x p' ifs elt ft fe) (he : PE X iter (tE X.K W fs)) (hs : ∀ x, foldedSetIterable iter X.env x = pure x := by intro _; rfl) : PE X (.ListComp elt [⟨.Name x p', iter, ifs, 0⟩] scope pos) (tE X.K W (fComp lstOf i fs ft fe)) :=
  (pe_lc B.calm B.nd (pi_list he) B.ok B.tg B.te B.el hs).imp fun σ H Q h => by
    obtain ⟨C, oas, m, ρ, η, r, S, e, P⟩ := h
    refine bind_G S e P fun m1 v H1 d η1 n1 S1 r1 e1 P1 => ?_
    cases q1 : lstOf d with
    | none => rw [q1] at e1; cases e1
    | some ds =>
      cases q2 : noOwn ρ[i]? with
      | false => rw [q1, q2] at e1; cases e1
      | true =>
        rw [q1, q2] at e1
        obtain ⟨full, ηe, e2, e3⟩ := bindN_inv e1
        rw [lstOf_inv q1] at r1
        obtain ⟨l, vs, rfl, nm, hl, R⟩ := r1
        refine ⟨l, rfl, ⟨vs, .of hl⟩, fun L hL => ?_⟩
        obtain ⟨h0, n1, n2⟩ := S1.fresh0 hL
        obtain ⟨z, hz, _⟩ := okO_inv e3
        have A := comp_start (ao := some (l, .lst vs)) S1 hL q2 (fun a o q => by cases q; exact ⟨hl, nm⟩) R e2
        refine lc_list (K := X.K) (a := l) (xs := vs) (CompAt X.K C oas ρ σ i ft fe (some (l, .lst vs)) L ds vs full ηe m1 H1) A ?_ ?_ ?_
        · rintro n H _ ⟨m, η, acc, accD, rest, _, ha, _⟩
          exact .of (ha _ _ rfl).1
        · exact fun n x H hx A => comp_turn h0 n2 hL (mkL_inv hz).1 (fun _ _ _ h => h) hx A
        · exact fun H A => comp_done S1 hL q2 e3 P1 (Nat.le_refl _) A
theorem td_lcT (B : BlkG X scope i x p' ifs elt ft fe) (he : PE X iter (tE X.K W fs)) (hs : ∀ x, foldedSetIterable iter X.env x = pure x := by intro _; rfl) : PE X (.ListComp elt [⟨.Name x p', iter, ifs, 0⟩] scope pos) (tE X.K W (fComp tupOf i fs ft fe)) :=
  (pe_lc B.calm B.nd (pi_tup he) B.ok B.tg B.te B.el hs).imp fun σ H Q h => by
    obtain ⟨C, oas, m, ρ, η, r, S, e, P⟩ := h
    refine bind_G S e P fun m1 v H1 d η1 n1 S1 r1 e1 P1 => ?_
    cases q1 : tupOf d with
    | none => rw [q1] at e1; cases e1
    | some ds =>
      cases q2 : noOwn ρ[i]? with
      | false => rw [q1, q2] at e1; cases e1
      | true =>
        rw [q1, q2] at e1
        obtain ⟨full, ηe, e2, e3⟩ := bindN_inv e1
        rw [tupOf_inv q1] at r1
        obtain ⟨l, vs, rfl, nm, hl, R⟩ := r1
        refine ⟨l, rfl, ⟨vs, .of hl⟩, fun L hL => ?_⟩
        obtain ⟨h0, n1, n2⟩ := S1.fresh0 hL
        obtain ⟨z, hz, _⟩ := okO_inv e3
        have A := comp_start (ao := some (l, .tup vs)) S1 hL q2 (fun a o q => by cases q; exact ⟨hl, nm⟩) R e2
        refine lc_tup (K := X.K) (a := l) (xs := vs) (CompAt X.K C oas ρ σ i ft fe (some (l, .tup vs)) L ds vs full ηe m1 H1) A ?_ ?_ ?_
        · rintro n H _ ⟨m, η, acc, accD, rest, _, ha, _⟩
          exact .of (ha _ _ rfl).1
        · exact fun n x H hx A => comp_turn h0 n2 hL (mkL_inv hz).1 (fun _ _ _ h => h) hx A
        · exact fun H A => comp_done S1 hL q2 e3 P1 (Nat.le_refl _) A
theorem td_lcR {e : Expr} {p2 q3 : Pos} (B : BlkG X scope i x p' ifs elt ft fe) (hg : Gl X "range") (hm : X.mg "range" = none) (he : PE X e (tE X.K W fs)) (hes : starEach [e] X.env = (false, eval e X.env) :: starEach [] X.env := by rfl) :
    PE X (.ListComp elt [⟨.Name x p', .Call (.Name "range" p2) [e] [] q3, ifs, 0⟩] scope pos) (tE X.K W (fComp rng1 i fs ft fe)) :=
  (pe_lc B.calm B.nd (pi_range1 hg hm (pa_cons he pa_nil hes) hes) B.ok B.tg B.te B.el (by intro _; rfl)).imp fun σ H Q h => by
    obtain ⟨C, oas, m, ρ, η, r, S, e, P⟩ := h
    refine bind_G S e P fun m1 v H1 d η1 n1 S1 r1 e1 P1 => ?_
    cases q1 : rng1 d with
    | none => rw [q1] at e1; cases e1
    | some ds =>
      cases q2 : noOwn ρ[i]? with
      | false => rw [q1, q2] at e1; cases e1
      | true =>
        rw [q1, q2] at e1
        obtain ⟨full, ηe, e2, e3⟩ := bindN_inv e1
        obtain ⟨j, rfl, hj, rfl⟩ := rng1_inv q1
        have e0 : v = V.int j := r1
        subst e0
        refine ⟨j, rfl, by omega, by omega, fun L hL => ?_⟩
        obtain ⟨h0, n1, n2⟩ := S1.fresh0 hL
        obtain ⟨z, hz, _⟩ := okO_inv e3
        have hlen : ((intsFrom 0 j.toNat).map V.int).length = j.toNat := by simp [intsFrom]
        have A := comp_start (ao := none) (vs := (intsFrom 0 j.toNat).map V.int) S1 hL q2 (fun a o q => by cases q) RpA.ints e2
        refine lc_range (CompAt X.K C oas ρ σ i ft fe none L (upTo 0 j.toNat) ((intsFrom 0 j.toNat).map V.int) full ηe m1 H1) A ?_ ?_
        · exact fun n H hn A => comp_turn h0 n2 hL (mkL_inv hz).1 (fun _ _ _ h => h) (upTo_get hn) A
        · exact fun H A => comp_done S1 hL q2 e3 P1 (Nat.le_of_eq hlen) A
end
end TL
namespace TL
open PySem PySem.Spec PyProof.Rows L2

/-! ### the contract of a def -/
structure RoomG (k : Nat) (A : Around) : Prop where
  r : Room k A
  g : A.guards = some []
theorem RoomG.mono {j k : Nat} {A : Around} (h : RoomG k A) (l : j ≤ k) : RoomG j A := ⟨h.r.mono l, h.g⟩
theorem RoomG.deeper {k : Nat} {A : Around} (h : RoomG (k + 1) A) (env : Env) : RoomG k (A.deeper env) := ⟨h.r.deeper env, h.g⟩
theorem RoomG.make {k : Nat} {A : Around} (h : RoomG (k + 1) A) (C : Addr) (us : List Value) (kw : List (Str × Value)) : RoomG k (A.under (.builtin "type.__call__" ⟨.ref C :: us, kw⟩)) :=
  ⟨h.r.make C us kw, by first | exact h.g | (simpa [Around.under, Code.guards, pushGuards] using h.g)⟩

def MuA (Mu : Addr → Prop) (m : List Addr) : Addr → Prop := fun a => Mu a ∨ a ∈ m
/-- behind a call: the cells -/
structure Aft (K : PySem.W.Frag) (Mu : Addr → Prop) (m m' : List Addr) (H H' : Hp) (η' : Eta) : Prop where
  nxt : Nxt m m' H H'
  trk : ∀ a ∈ m', H' a ≠ none
  cells : CellsR K (MuA Mu m') m' H' η'

def EndR (P : Program) (w : World) (K : PySem.W.Frag) (outer : List Env) (s : Shared) (H : Hp) (Mu : Addr → Prop) (m : List Addr) (r : Out D × Eta) (res : Result) (s' : Shared) : Prop :=
  match r.1 with
  | .ok d => ∃ u, res = .ok (.ret u) ∧ CE outer P w H s (fun v H' => ∃ m', Aft K Mu m m' H H' r.2 ∧ Rp K (MuA Mu m') m' H' d v) u s'
  | .ex E fs => ∃ e, res = .error e ∧ CX P w outer H s (fun cls dd H' => cls = .ref (He.ga K E) ∧ ∃ m', Aft K Mu m m' H H' r.2 ∧ XR K (MuA Mu m') m' H' fs dd) e s'
/-- what a def does: M, from the arguments and the cells -/
structure FnG (P : Program) (w : World) (K : PySem.W.Frag) (mg : Str → Option Value) (base : Heap) (k : Nat) (f : Addr) (fd : FuncData) (ps : List Str) (M : List D → Eta → Res D) : Prop where
  run : ∀ (A : Around) (outer : List Env) (s : Shared) (H : Hp) (args : Args) (us : List Value) (vs : List V) (Mu : Addr → Prop) (m : List Addr) (η : Eta) (ds : List D) (r : Out D × Eta), RoomG k A → Env0 P w K mg base A outer s H → us.length = ps.length →
    BindsTo s fd args (ps.zip us) → Vals vs us → TrM Mu H → (∀ a ∈ m, Mu a) → CellsR K Mu m H η → RpA K Mu m H ds vs → M ds η = some r → codeAny (model P w) A (.call (.ref f) args) (EndR P w K outer s H Mu m r) s
theorem FnG.mono {P : Program} {w : World} {K : PySem.W.Frag} {mg : Str → Option Value} {base : Heap} {j k : Nat} {f : Addr} {fd : FuncData} {ps : List Str} {M : List D → Eta → Res D} (F : FnG P w K mg base j f fd ps M) (h : j ≤ k) : FnG P w K mg base k f fd ps M :=
  ⟨fun A outer s H args us vs Mu m η ds r hr => F.run A outer s H args us vs Mu m η ds r (hr.mono h)⟩
/-- less is promised -/
theorem FnG.imp {P : Program} {w : World} {K : PySem.W.Frag} {mg : Str → Option Value} {base : Heap} {k : Nat} {f : Addr} {fd : FuncData} {ps : List Str} {M M' : List D → Eta → Res D} (F : FnG P w K mg base k f fd ps M) (h : ∀ ds η r, M' ds η = some r → M ds η = some r) : FnG P w K mg base k f fd ps M' :=
  ⟨fun A outer s H args us vs Mu m η ds r hr e0 hl hb hv t hm c R e => F.run A outer s H args us vs Mu m η ds r hr e0 hl hb hv t hm c R (h _ _ _ e)⟩

section
variable {K : PySem.W.Frag} {C : Gr} {oas : List (Option Addr)} {m m' : List Addr} {ρ : Rho} {η η' : Eta} {σ : L2.St} {H H' : Hp} {Mu Mu' : Addr → Prop}
theorem CellsR.keep (c : CellsR K Mu m H η) (k : Keep Mu Mu' m m H H) : CellsR K Mu' m H η := ⟨c.len, fun i o a h1 h2 => (c.at_ i o a h1 h2).keep k fun _ h => h, c.nd⟩
theorem Sim.after (S : Sim K C oas m ρ η σ H) (a : Aft K (MuOf C oas m) m m' H H' η') : Sim K C oas m' ρ η' σ H' := by
  have kk : Keep (MuA (MuOf C oas m) m') (MuOf C oas m') m' m' H' H' := ⟨fun a h => .inl (by
    rcases h with h | h | h
    · exact .inl (.inl h)
    · exact .inr h
    · exact .inl (.inr (.inr h))), fun _ _ _ h => h, fun _ _ h => h⟩
  obtain ⟨r0, e0, h0⟩ := S.pre
  refine S.restore ⟨fun b o n h => ?_, fun b h z => ?_, ?_, a.cells.keep kk⟩ a.nxt
  · refine a.nxt.at_ b o (fun q => ?_) (S.evo b o n h)
    rw [e0] at q
    rcases List.mem_append.mp q with q | q
    · exact n q
    · rw [h0 b q] at h; cases h
  · rcases h with h | h | h
    · cases q : H b with
      | none => exact S.trk b (.inl h) q
      | some o => exact a.nxt.trk b o q z
    · exact a.trk b h z
    · cases q : H b with
      | none => exact S.trk b (.inr (.inr h)) q
      | some o => exact a.nxt.trk b o q z
  · obtain ⟨r, e, hr⟩ := a.nxt.pre
    refine ⟨r0 ++ r, by rw [e, e0, List.append_assoc], fun b hb => ?_⟩
    rcases List.mem_append.mp hb with hb | hb
    · exact h0 b hb
    · exact (S.fresh0 (hr b hb)).1
theorem Rp.after {d : D} {v : V} (h : Rp K (MuA (MuOf C oas m) m') m' H' d v) : Rp K (MuOf C oas m') m' H' d v := h.keep ⟨fun a h => .inl (by
    rcases h with h | h | h
    · exact .inl (.inl h)
    · exact .inr h
    · exact .inl (.inr (.inr h))), fun _ _ _ h => h, fun _ _ h => h⟩
theorem RpF.after {d : List (Str × D)} {v : List (Str × V)} (h : RpF K (MuA (MuOf C oas m) m') m' H' d v) : RpF K (MuOf C oas m') m' H' d v := h.keep ⟨fun a h => .inl (by
    rcases h with h | h | h
    · exact .inl (.inl h)
    · exact .inr h
    · exact .inl (.inr (.inr h))), fun _ _ _ h => h, fun _ _ h => h⟩
theorem XR.after {fs : List (Str × D)} {d : Option Addr} (h : XR K (MuA (MuOf C oas m) m') m' H' fs d) : XR K (MuOf C oas m') m' H' fs d := by
  rcases h with h | ⟨a, ws, e, n, ha, r⟩
  · exact .inl h
  · refine .inr ⟨a, ws, e, fun q => n ?_, ha, r.after⟩
    rcases q with q | q | q
    · exact .inl (.inl q)
    · exact .inr q
    · exact .inl (.inr (.inr q))
end

/-! ### calls by values -/
/-- a call of a value that is known -/
def CallS (X : Cx) (f : Value) (kws : List Str) (r : L2.St → List V → Hp → VK → Prop) : Prop :=
  ∀ (pins : List (Addr × Obj)) (s : Shared) (σ : L2.St) (H : Hp) (xs zs : List V) (us ws : List Value) (Q : VK), Inv X pins σ H s → Vals xs us → Vals zs ws → ws.length = kws.length → r σ (xs ++ zs) H Q →
    wpAny (model X.prog X.w) X.A (call f us (kws.zip ws)) (EP X pins σ Q) X.xe s
def rM (K : PySem.W.Frag) (W : WX) (M : List D → Eta → Res D) : L2.St → List V → Hp → VK → Prop := fun σ vs H Q =>
  ∃ C oas m ρ η ds r, Sim K C oas m ρ η σ H ∧ RpA K (MuOf C oas m) m H ds vs ∧ M ds η = some r ∧ PostG Rp K W C oas m ρ σ H Q r
def fCall (M : List D → Eta → Res D) (ff : AF) : EF := fun ρ η => bindO (ff ρ η) fun ds η1 => M ds η1
/-- how arguments bind: n by position, then these names; the order that the parameters want; defaults -/
structure BindG (K : PySem.W.Frag) (fd : FuncData) (ps : List Str) (n : Nat) (ks : List Str) (g : List Value → List Value) (gV : List V → List V) (gD : List D → List D) : Prop where
  to : ∀ (s : Shared) (us ws : List Value), K.In s.heap → us.length = n → ws.length = ks.length → BindsTo s fd ⟨us, ks.zip ws⟩ (ps.zip (g (us ++ ws))) ∧ (g (us ++ ws)).length = ps.length
  rel : ∀ {vs : List V} {us : List Value}, Vals vs us → us.length = n + ks.length → Vals (gV vs) (g us)
  relD : ∀ {Mu : Addr → Prop} {m : List Addr} {H : Hp} {ds : List D} {vs : List V}, RpA K Mu m H ds vs → vs.length = n + ks.length → RpA K Mu m H (gD ds) (gV vs)
section
variable {X : Cx} {W : WX} {k : Nat} {f : Addr} {fd : FuncData} {ps ks : List Str} {M : List D → Eta → Res D} {x : Str} {u : Value} {p pos : Pos} {e : Expr} {es : List Expr} {ff fk : AF} {n : Nat} {g : List Value → List Value} {gV : List V → List V} {gD : List D → List D}
/-- a def is called -/
theorem FnG.callS (F : FnG X.prog X.w X.K X.mg X.base k f fd ps M) (hr : RoomG k X.A) (hb : BindG X.K fd ps n ks g gV gD) (tk : Takes X W) : CallS X (.ref f) ks (rM X.K W fun ds η => if ds.length = n + ks.length then M (gD ds) η else none) := by
  intro pins s σ H xs zs us ws Q I rx rz hk h
  obtain ⟨C, oas, m, ρ, η, ds, r, S, R, e, P⟩ := h
  have e : (if ds.length = n + ks.length then M (gD ds) η else none) = some r := e
  split at e
  · rename_i hn
    have r2 : Vals (xs ++ zs) (us ++ ws) := rx.append rz
    have hl : (us ++ ws).length = n + ks.length := by rw [← r2.length, ← R.length, hn]
    have hu : us.length = n := by rw [List.length_append] at hl; omega
    obtain ⟨b1, b2⟩ := hb.to s us ws I.kIn hu hk
    refine wpAny_call (codeAny_mono (F.run X.A X.stack s H ⟨us, ks.zip ws⟩ (g (us ++ ws)) (gV (xs ++ zs)) (MuOf C oas m) m η (gD ds) r hr I.env0 b2 b1 (hb.rel r2 hl) S.trk (fun a h => .inr (.inl h)) S.cells (hb.relD R (by rw [r2.length]; exact hl)) e) fun res s' hq => ?_)
    obtain ⟨o, η'⟩ := r
    cases o with
    | ok d =>
      obtain ⟨u, rfl, c⟩ := hq
      obtain ⟨v, H', J, rv, m', a, rd⟩ := I.after c
      exact ⟨v, H', J, rv, P.ok a.nxt (S.after a) rd.after⟩
    | ex E fs =>
      obtain ⟨u, rfl, c⟩ := hq
      exact tk u s' (XE.of_call I (fun cls d H' q => by
        obtain ⟨rfl, m', a, xr⟩ := q
        exact P m' d H' a.nxt (S.after a) xr.after) c)
  · cases e
/-- f(e, ..) -/
theorem td_call (hc : CallS X u [] (rM X.K W M)) (hg : Gl X x) (hm : X.mg x = some u) (hk : PySem.W.keepIn X.K u = true) (ha : PA X (e :: es) (tA X.K W ff)) (hdb : (x == ("__debug__" : Str)) = false := by decide)
    (he : starEach (e :: es) X.env = (false, eval e X.env) :: starEach es X.env := by rfl) (hpl : (backTo pos (starEach es X.env)).any (·.1) = false := by rfl) : PE X (.Call (.Name x p) (e :: es) [] pos) (tE X.K W (fCall M ff)) := by
  refine ⟨fun pins s σ H Q I h => ?_⟩
  refine wpAny_Call_Name_kw (ld_glob I hg hm ?_ hdb)
  obtain ⟨C, oas, m, ρ, η, r, S, e, P⟩ := h
  have q := bind_G S e P (R := fun vs H1 => rM X.K W M σ vs H1 Q) fun m1 vs H1 ds η1 n1 S1 rs e1 P1 => ⟨C, oas, m1, ρ, η1, ds, r, S1, rs, e1, P1⟩
  refine PySem.W.callWith_K (h₀ := X.base) I.ok.mod.kin hk (thn (ha.run pos pins s σ H _ I q) fun us s1 ⟨vs, H1, I1, r1, q1⟩ => ⟨I1.kIn, ?_⟩) he hpl
  exact hc pins s1 σ H1 vs [] us [] Q I1 r1 .nil rfl (by rw [List.append_nil]; exact q1)
/-- f() -/
theorem td_call0 (hc : CallS X u [] (rM X.K W M)) (hg : Gl X x) (hm : X.mg x = some u) (hk : PySem.W.keepIn X.K u = true) (hdb : (x == ("__debug__" : Str)) = false := by decide) : PE X (.Call (.Name x p) [] [] pos) (tE X.K W (fCall M aNil)) := by
  refine ⟨fun pins s σ H Q I h => ?_⟩
  refine wpAny_Call_Name_kw (ld_glob I hg hm ?_ hdb)
  obtain ⟨C, oas, m, ρ, η, r, S, e, P⟩ := h
  exact PySem.W.callWith_K0 I.kIn hk (hc pins s σ H [] [] [] [] Q I .nil .nil rfl ⟨C, oas, m, ρ, η, [], r, S, rfl, e, P⟩)
def tKs (K : PySem.W.Frag) (W : WX) (f : AF) : TA := tA K W f
theorem _root_.L2.PK.imp {kws : List Keyword} {t t' : TA} (h : PK X kws t) (i : ∀ σ H Q, t' σ H Q → t σ H Q) : PK X kws t' := ⟨fun pos pins s σ H Q I q => h.run pos pins s σ H Q I (i σ H Q q)⟩
theorem tk_nil : PK X [] (tA X.K W aNil) := pk_nil.imp fun σ H Q h => by
  obtain ⟨C, oas, m, ρ, η, r, S, e, P⟩ := h
  cases e
  exact P.ok .refl S rfl
theorem tk_cons {kws : List Keyword} {nm : Option Str} {kpos : Pos} {fa : EF} (ha : PE X e (tE X.K W fa)) (hr : PK X kws (tA X.K W ff)) : PK X (⟨nm, e, kpos⟩ :: kws) (tA X.K W (aCons fa ff)) :=
  (pk_cons ha hr).imp fun σ H Q h => by
    obtain ⟨C, oas, m, ρ, η, r, S, e, P⟩ := h
    refine bind_G S e P fun m1 vx H1 x η1 n1 S1 rx e1 P1 => ?_
    refine bind_G S1 e1 P1 fun m2 vs H2 xs η2 n2 S2 rs e2 P2 => ?_
    cases e2
    exact P2.ok .refl S2 ⟨vx, vs, rfl, rx.keep n2.keep, rs⟩
def aApp (ff fk : AF) : AF := fun ρ η => bindO (ff ρ η) fun xs η1 => bindO (fk ρ η1) fun ys η2 => some (.ok (xs ++ ys), η2)
theorem bind_GE {α β γ δ : Type} {Rel : PySem.W.Frag → (Addr → Prop) → List Addr → Hp → α → β → Prop} {Rel2 : PySem.W.Frag → (Addr → Prop) → List Addr → Hp → γ → δ → Prop} {K : PySem.W.Frag} {C : Gr} {oas : List (Option Addr)} {m : List Addr} {ρ : Rho} {η : Eta} {σ : L2.St} {H : Hp}
    {fa : Rho → Eta → Res α} {k : α → Eta → Res γ} {Q : δ → Hp → Prop} {R : β → Hp → Prop} {r : Out γ × Eta} (S : Sim K C oas m ρ η σ H) (e : bindO (fa ρ η) k = some r) (P : PostG Rel2 K W C oas m ρ σ H Q r)
    (cont : ∀ m1 v H1 x η1, fa ρ η = some (.ok x, η1) → Nxt m m1 H H1 → Sim K C oas m1 ρ η1 σ H1 → Rel K (MuOf C oas m1) m1 H1 x v → k x η1 = some r → PostG Rel2 K W C oas m1 ρ σ H1 Q r → R v H1) : tG Rel K W fa σ H R := by
  cases q : fa ρ η with
  | none => rw [q] at e; cases e
  | some z =>
    obtain ⟨o, η1⟩ := z
    rw [q] at e
    cases o with
    | ok x => exact ⟨C, oas, m, ρ, η, _, S, q, fun m1 v H1 n S1 r1 => cont m1 v H1 x η1 q n S1 r1 e (P.step n)⟩
    | ex E fs =>
      have e2 : (Out.ex E fs, η1) = r := Option.some.inj e
      subst e2
      exact ⟨C, oas, m, ρ, η, _, S, q, P⟩
def aLen (f : AF) (n : Nat) : Prop := ∀ ρ η ds η', f ρ η = some (.ok ds, η') → ds.length = n
theorem aLen_nil : aLen aNil 0 := fun ρ η ds η' h => by cases h; rfl
theorem aLen_cons {fa : EF} {n : Nat} (h : aLen ff n) : aLen (aCons fa ff) (n + 1) := fun ρ η ds η' e => by
  unfold aCons at e
  cases q : fa ρ η with
  | none => rw [q] at e; cases e
  | some z =>
    obtain ⟨o, η1⟩ := z
    rw [q] at e
    cases o with
    | ex E fs => cases e
    | ok x =>
      have e : bindO (ff ρ η1) (fun xs η2 => some (.ok (x :: xs), η2)) = some (.ok ds, η') := e
      cases q2 : ff ρ η1 with
      | none => rw [q2] at e; cases e
      | some z =>
        obtain ⟨o, η2⟩ := z
        rw [q2] at e
        cases o with
        | ex E fs => cases e
        | ok xs =>
          cases e
          rw [List.length_cons, h _ _ _ _ q2]
theorem aApp_bind {K : PySem.W.Frag} {C : Gr} {oas : List (Option Addr)} {m : List Addr} {ρ : Rho} {η : Eta} {σ : L2.St} {H : Hp} {Q : VK} {r : Out D × Eta} {j : Nat} (hj : aLen fk j) (S : Sim K C oas m ρ η σ H) (e : fCall M (aApp ff fk) ρ η = some r) (P : PostG Rp K W C oas m ρ σ H Q r) :
    tA K W ff σ H fun vs H1 => tA K W fk σ H1 fun zs H2 => zs.length = j ∧ rM K W M σ (vs ++ zs) H2 Q := by
  have e1 : (bindO (ff ρ η) fun xs η1 => bindO (fk ρ η1) fun ys η2 => M (xs ++ ys) η2) = some r := by
    unfold fCall aApp at e
    cases q : ff ρ η with
    | none => rw [q] at e; cases e
    | some z =>
      obtain ⟨o, η1⟩ := z
      rw [q] at e
      cases o with
      | ex E fs => exact e
      | ok xs =>
        have e : bindO (bindO (fk ρ η1) fun ys η2 => some (.ok (xs ++ ys), η2)) (fun ds η1 => M ds η1) = some r := e
        show bindO (fk ρ η1) (fun ys η2 => M (xs ++ ys) η2) = some r
        cases q2 : fk ρ η1 with
        | none => rw [q2] at e; cases e
        | some z =>
          obtain ⟨o, η2⟩ := z
          rw [q2] at e
          cases o with
          | ex E fs => exact e
          | ok ys => exact e
  refine bind_G S e1 P fun m1 vs H1 xs η1 n1 S1 r1 e2 P1 => ?_
  exact bind_GE S1 e2 P1 fun m2 zs H2 ys η2 q n2 S2 r2 e3 P2 => ⟨by rw [← r2.length]; exact hj _ _ _ _ q, C, oas, m2, ρ, η2, xs ++ ys, r, S2, (r1.keep n2.keep).append r2, e3, P2⟩
/-- f(e, .., k = v, ..) -/
theorem td_callK {kws : List Keyword} (hc : CallS X u ks (rM X.K W M)) (hg : Gl X x) (hm : X.mg x = some u) (hk : PySem.W.keepIn X.K u = true) (ha : PA X (e :: es) (tA X.K W ff)) (hkw : PK X kws (tA X.K W fk)) (hfk : aLen fk ks.length)
    (hall : (backToKw pos (keywordEach kws X.env)).all (·.1.isSome) = true := by rfl) (hks : (backToKw pos (keywordEach kws X.env)).filterMap (·.1) = ks := by rfl) (hdb : (x == ("__debug__" : Str)) = false := by decide)
    (he : starEach (e :: es) X.env = (false, eval e X.env) :: starEach es X.env := by rfl) (hpl : ((backTo pos (starEach (e :: es) X.env)).any (·.1) || (backToKw pos (keywordEach kws X.env)).any (·.1.isNone)) = false := by rfl) :
    PE X (.Call (.Name x p) (e :: es) kws pos) (tE X.K W (fCall M (aApp ff fk))) := by
  refine ⟨fun pins s σ H Q I h => ?_⟩
  refine wpAny_Call_Name_kw (ld_glob I hg hm ?_ hdb)
  obtain ⟨C, oas, m, ρ, η, r, S, e, P⟩ := h
  have q := aApp_bind hfk S e P
  refine PySem.W.callWith_KW (h₀ := X.base) I.ok.mod.kin hk hall (thn (ha.run pos pins s σ H _ I q) fun us s1 ⟨vs, H1, I1, r1, q1⟩ => ?_) hpl he
  refine thn (hkw.run pos pins s1 σ H1 _ I1 q1) fun ws s2 ⟨zs, H2, I2, rz, hl, q2⟩ => ⟨I2.kIn, ?_⟩
  rw [hks]
  exact hc pins s2 σ H2 vs zs us ws Q I2 r1 rz (by rw [← rz.length]; exact hl) q2
/-- f(k = v, ..) -/
theorem td_callK0 {kws : List Keyword} (hc : CallS X u ks (rM X.K W M)) (hg : Gl X x) (hm : X.mg x = some u) (hk : PySem.W.keepIn X.K u = true) (hkw : PK X kws (tA X.K W fk)) (hfk : aLen fk ks.length)
    (hall : (backToKw pos (keywordEach kws X.env)).all (·.1.isSome) = true := by rfl) (hks : (backToKw pos (keywordEach kws X.env)).filterMap (·.1) = ks := by rfl) (hdb : (x == ("__debug__" : Str)) = false := by decide)
    (hpl : ((backTo pos (starEach [] X.env)).any (·.1) || (backToKw pos (keywordEach kws X.env)).any (·.1.isNone)) = false := by rfl) :
    PE X (.Call (.Name x p) [] kws pos) (tE X.K W (fCall M fk)) := by
  refine ⟨fun pins s σ H Q I h => ?_⟩
  refine wpAny_Call_Name_kw (ld_glob I hg hm ?_ hdb)
  obtain ⟨C, oas, m, ρ, η, r, S, e, P⟩ := h
  have q : tA X.K W fk σ H fun zs H2 => zs.length = ks.length ∧ rM X.K W M σ ([] ++ zs) H2 Q :=
    bind_GE S e P fun m2 zs H2 ys η2 q n2 S2 r2 e3 P2 => ⟨by rw [← r2.length]; exact hfk _ _ _ _ q, C, oas, m2, ρ, η2, ys, r, S2, r2, e3, P2⟩
  refine PySem.W.callWith_KW0 (h₀ := X.base) I.ok.mod.kin hk hall ?_ hpl
  refine thn (hkw.run pos pins s σ H _ I q) fun ws s2 ⟨zs, H2, I2, rz, hl, q2⟩ => ⟨I2.kIn, ?_⟩
  rw [hks]
  exact hc pins s2 σ H2 [] zs [] ws Q I2 .nil rz (by rw [← rz.length]; exact hl) q2
end

/-! ### a def's body -/
/-- the names at the entry -/
def startR (N : List Str) (ds : List D) : Rho := ds.map Slot.dat ++ List.replicate (N.length - ds.length) .un
def endS : SO × Eta → Res D
  | (.nx _, η) => some (.ok .non, η)
  | (.rt d, η) => some (.ok d, η)
  | (.ex E fs, η) => some (.ex E fs, η)
  | _ => none
def runS (N : List Str) (n : Nat) (g : SF) : List D → Eta → Res D := fun ds η => if ds.length = n then (match g (startR N ds) η with
  | some r => endS r
  | none => none) else none
section
variable {P : Program} {w : World} {K : PySem.W.Frag} {mg : Str → Option Value} {base : Heap}
theorem RpA.slots {Mu : Addr → Prop} {m : List Addr} {H : Hp} {ds : List D} {vs : List V} (h : RpA K Mu m H ds vs) (n : Nat) : ∀ (i : Nat) sl, (ds.map Slot.dat ++ List.replicate n Slot.un)[i]? = some sl → SlotR K Mu m H sl none (((vs.map some ++ List.replicate n none : L2.St)[i]?).join) := by
  intro i sl e
  have hl := h.length
  by_cases hi : i < ds.length
  · have hi2 : i < vs.length := by rw [← hl]; exact hi
    rw [List.getElem?_append_left (by simpa using hi), List.getElem?_map, List.getElem?_eq_getElem hi] at e
    rw [List.getElem?_append_left (by simpa using hi2)]
    cases e
    obtain ⟨v, h1, h2⟩ := h.get (i := i) (d := ds[i]) (List.getElem?_eq_getElem hi)
    rw [List.getElem?_map, h1]
    exact ⟨rfl, v, rfl, h2⟩
  · have hi2 : ¬ i < vs.length := by rw [← hl]; exact hi
    rw [List.getElem?_append_right (by simpa using Nat.le_of_not_lt hi), List.getElem?_replicate] at e
    rw [List.getElem?_append_right (by simpa using Nat.le_of_not_lt hi2), List.getElem?_replicate]
    split at e
    · cases e
      split <;> rfl
    · cases e
theorem sim_start {Mu : Addr → Prop} {m : List Addr} {H : Hp} {ds : List D} {vs : List V} {η : Eta} {N : List Str} (t : TrM Mu H) (hm : ∀ a ∈ m, Mu a) (c : CellsR K Mu m H η) (h : RpA K Mu m H ds vs) (hN : ds.length ≤ N.length) :
    Sim K ⟨H, Mu, m⟩ (List.replicate N.length none) m (startR N ds) η (L2.start N vs) H := by
  have hmu : ∀ a, MuOf ⟨H, Mu, m⟩ (List.replicate N.length none) m a → Mu a := fun a h => by
    rcases h with h | h | h
    · exact h
    · exact hm a h
    · have z := List.eq_of_mem_replicate h
      cases z
  have k : Keep Mu (MuOf ⟨H, Mu, m⟩ (List.replicate N.length none) m) m m H H := ⟨fun a h => .inl (hmu a h), fun _ _ _ h => h, fun _ _ h => h⟩
  refine ⟨fun a o _ h => h, fun a h => t a (hmu a h), ⟨[], by simp, by simp⟩, fun a h => ?_, by simp, fun a h => ?_, ?_, ?_, fun i sl oa h1 h2 => ?_, c.keep k⟩
  · have z := List.eq_of_mem_replicate h
    cases z
  · have z := List.eq_of_mem_replicate h
    cases z
  · unfold startR
    simp
    omega
  · unfold startR L2.start
    simp [h.length]
  · have e2 : oa = none := by
      have z := List.mem_of_getElem? h2
      exact List.eq_of_mem_replicate z
    subst e2
    have q := (h.keep k).slots (N.length - ds.length) i sl h1
    unfold L2.start
    rw [← h.length]
    exact q
/-- THE RULE for a def -/
theorem fn_ofG {k : Nat} {f : Addr} {fd : FuncData} {name qual : Str} {params : Arguments} {body : List Stmt} {scope : Scope} {dvs : List V} {kws : List (Str × V)} {N ps : List Str} {g : SF} (F : FunD K name qual params body scope dvs kws f fd) (S : FnScope N ps scope)
    (hbody : ∀ (cdv : Value) (A : Around) (outer : List Env) (s : Shared) (H : Hp) (E : XK), RoomG k (A.deeper (envOfC qual scope s.heap.objs.size f cdv)) →
      PSs (cxOf (CX P w) P w K mg base N qual scope f cdv A outer s H E) body (tS K (fun cls d _ H' => E cls d H') g)) : FnG P w K mg base (k + 1) f fd ps (runS N ps.length g) := by
  obtain ⟨oc, od, dV, kV, doc, pm, an, cdv, ct, osl, rfl, lk, hcd, _, _⟩ := F.ex
  refine ⟨fun A outer s H args us vs Mu m η ds r hr e0 hl hb rv t hm c R e => ?_⟩
  have KX : K.In s.heap := e0.mod.kin.keeps fun b o q => (e0.bs b o q).1
  have lim : s.heap.NoLimit := e0.mod.nolimit.keeps fun b o q => (e0.bs b o q).1
  have e : (if ds.length = ps.length then (match g (startR N ds) η with
    | some r => endS r
    | none => none) else none) = some r := e
  split at e
  case isFalse => cases e
  rename_i hds
  cases q : g (startR N ds) η with
  | none => rw [q] at e; cases e
  | some sr =>
    rw [q] at e
    have hpN : ps.length ≤ N.length := by have z := congrArg List.length S.pre; rw [List.length_take] at z; omega
    have hkind : ∀ y ∈ ps.zip us, scope.names.lookup y.1 = some .local ∨ (scope.names.lookup y.1 = some .cell ∧ ((cellsFrom (s.heap.objs.size + 1) scope.names []).lookup y.1).isSome = true) := fun ⟨n, v⟩ hy => by
      rcases S.par n (List.of_mem_zip hy).1 with z | z
      · exact .inl z
      · exact .inr ⟨z, PySem.W.cellsFrom_some _ _ _ (.inl z)⟩
    refine codeAny_call_function hr.r.depth (KX _ _ lk) rfl S.co S.gen rfl (PySem.W.codeRec_of KX hcd) (hb _ _ _ _ ?_)
    refine wpAny_newFunctionEnv_cells S.kind hkind fun env he s1 x => ?_
    subst he
    refine ⟨lim.keeps x.toInCall.keep, codeAny_func ?_⟩
    have hvl : vs.length = ps.length := rv.length.trans hl
    let Ex : XK := fun cls dd H' => match r.1 with
      | .ok _ => False
      | .ex E fs => cls = .ref (He.ga K E) ∧ ∃ m', Aft K Mu m m' H H' r.2 ∧ XR K (MuA Mu m') m' H' fs dd
    let Qx : VK := fun v H' => match r.1 with
      | .ok d => ∃ m', Aft K Mu m m' H H' r.2 ∧ Rp K (MuA Mu m') m' H' d v
      | .ex _ _ => False
    have I : Inv (cxOf (CX P w) P w K mg base N qual scope f cdv A outer s H Ex) [] (L2.start N vs) H s1 := inv_start S hr.r.hd e0 hvl rv x
    have hdp := hbody cdv A outer s H Ex (by
      refine ⟨⟨hr.r.hd, ?_, ?_⟩, hr.g⟩
      · have := hr.r.dp
        show A.depth + 1 + 3 * k + 5 < _
        omega
      · have := hr.r.un
        show A.units + 3 + 16 * k + 200 < _
        omega)
    have S0 := sim_start (N := N) t hm c R (by omega)
    have aft : ∀ {oas' m' H' η'}, Keep (MuOf ⟨H, Mu, m⟩ (List.replicate N.length none) m) (MuOf ⟨H, Mu, m⟩ oas' m') m m' H H' → SimH K ⟨H, Mu, m⟩ oas' m' η' H' → Aft K Mu m m' H H' η' := fun {oas' m' H' η'} kk Sh => by
      obtain ⟨rr, er, hrr⟩ := Sh.pre
      have er : m' = m ++ rr := er
      have hrr : ∀ a ∈ rr, H a = none := hrr
      refine ⟨⟨Sh.evo, ⟨rr, er, hrr⟩, fun a o ha hz => ?_⟩, fun a ha => Sh.trk a (.inr (.inl ha)), Sh.cells.keep ⟨fun a h => .inl ?_, fun _ _ _ h => h, fun _ _ h => h⟩⟩
      · by_cases hmm : a ∈ m
        · exact Sh.trk a (.inr (.inl (by rw [er]; exact List.mem_append_left _ hmm))) hz
        · rw [Sh.evo a o hmm ha] at hz
          cases hz
      · rcases h with h | h
        · exact .inl h
        · exact .inr (.inl h)
    have toA : ∀ {oas' m' H'}, Keep (MuOf ⟨H, Mu, m⟩ oas' m') (MuA Mu m') m' m' H' H' := fun {oas' m' H'} => ⟨fun a h => .inl (by
      rcases h with h | h
      · exact .inl h
      · exact .inr (.inl h)), fun _ _ _ h => h, fun _ _ h => h⟩
    refine wpAny_mono (hdp.run [] s1 (L2.start N vs) H { nx := fun _ H' => Qx .non H', rt := Qx } I ⟨_, _, m, _, η, sr, S0, q, ?_⟩) (fun fl s' hs => ?_) fun u s' hs => ?_
    · obtain ⟨o, η'⟩ := sr
      cases o with
      | nx ρ' =>
        cases e
        exact fun oas' m' σ' H' kk S' => ⟨m', aft kk S'.h, rfl⟩
      | rt d =>
        cases e
        exact fun oas' m' v H' kk S' rr => ⟨m', aft kk S', rr.keep toA⟩
      | ex E fs =>
        cases e
        refine fun oas' m' d σ' H' kk S' xr => ⟨rfl, m', aft kk S', ?_⟩
        rcases xr with xr | ⟨a, ws, e1, n, ha, xr⟩
        · exact .inl xr
        · refine .inr ⟨a, ws, e1, fun z => n ?_, ha, xr.keep toA⟩
          rcases z with z | z
          · exact .inl z
          · exact .inr (.inl z)
      | bk ρ' => cases e
      | ct ρ' => cases e
    · have fin : ∀ {σ' : L2.St} {H' : Hp} {v : V} {u : Value}, fl = .ret u ∨ (fl = .next ∧ u = Value.none) → Inv (cxOf (CX P w) P w K mg base N qual scope f cdv A outer s H Ex) [] σ' H' s' → RelV v u → Qx v H' → EndR P w K outer s H Mu m r (.ok (.ret u)) s' := fun {σ' H' v u} _ J rv' qx => by
        obtain ⟨o, η'⟩ := r
        cases o with
        | ok d => exact ⟨u, rfl, v, H', J.os, J.bare, J.base, J.hok, rv', qx⟩
        | ex E fs => exact False.elim qx
      cases fl with
      | ret u =>
        obtain ⟨v, σ', H', J, rv', qx⟩ := hs
        exact fin (.inl rfl) J rv' qx
      | next =>
        obtain ⟨σ', H', J, qx⟩ := hs
        exact fin (v := V.non) (u := Value.none) (.inr ⟨rfl, rfl⟩) J rfl qx
      | brk =>
        obtain ⟨_, _, _, qx⟩ := hs
        exact False.elim qx
      | cont =>
        obtain ⟨_, _, _, qx⟩ := hs
        exact False.elim qx
    · have conv : ∀ e9 s'', CX P w outer H s Ex e9 s'' → EndR P w K outer s H Mu m r (.error e9) s'' := fun e9 s'' hc => by
        obtain ⟨o, η'⟩ := r
        cases o with
        | ok d =>
          obtain ⟨_, _, _, _, _, _, _, _, _, _, _, _, hf⟩ := hc
          exact False.elim hf
        | ex E fs => exact ⟨e9, rfl, hc⟩
      exact wpAny_mono hs (fun _ s'' hc => conv _ _ hc) fun e' s'' hc => conv _ _ hc
end
end TL
namespace TL
open PySem PySem.Spec PyProof.Rows L2

/-! ### rules by values -/
def orG (g h : D → D → Option D) : D → D → Option D := fun x y => match g x y with
  | some z => some z
  | none => h x y
def orN (g h : List D → Option D) : List D → Option D := fun xs => match g xs with
  | some z => some z
  | none => h xs
theorem orG_inv {g h : D → D → Option D} {x y z : D} (e : orG g h x y = some z) : g x y = some z ∨ h x y = some z := by
  unfold orG at e
  split at e
  · rename_i q
    exact .inl (by rw [q]; exact e)
  · exact .inr e
theorem orN_inv {g h : List D → Option D} {xs : List D} {z : D} (e : orN g h xs = some z) : g xs = some z ∨ h xs = some z := by
  unfold orN at e
  split at e
  · rename_i q
    exact .inl (by rw [q]; exact e)
  · exact .inr e
theorem rD2_or {K : PySem.W.Frag} {g h : D → D → Option D} {x y : V} {H : Hp} {Q : VK} (q : rD2 K (orG g h) x y H Q) : rD2 K g x y H Q ∨ rD2 K h x y H Q := by
  obtain ⟨Mu, m, a, b, z, t, ra, rb, e, P⟩ := q
  rcases orG_inv e with e | e
  · exact .inl ⟨Mu, m, a, b, z, t, ra, rb, e, P⟩
  · exact .inr ⟨Mu, m, a, b, z, t, ra, rb, e, P⟩
theorem rDN_or {K : PySem.W.Frag} {g h : List D → Option D} {x : List V} {H : Hp} {Q : VK} (q : rDN K (orN g h) x H Q) : rDN K g x H Q ∨ rDN K h x H Q := by
  obtain ⟨Mu, m, a, z, t, ra, e, P⟩ := q
  rcases orN_inv e with e | e
  · exact .inl ⟨Mu, m, a, z, t, ra, e, P⟩
  · exact .inr ⟨Mu, m, a, z, t, ra, e, P⟩
section
variable {X : Cx}
theorem opOr {f : Value → Value → Sem Value} {g h : D → D → Option D} (a : OpR X f (rD2 X.K g)) (b : OpR X f (rD2 X.K h)) : OpR X f (rD2 X.K (orG g h)) := fun pins s σ H x y v u Q I rx ry q => by
  rcases rD2_or q with q | q
  · exact a pins s σ H x y v u Q I rx ry q
  · exact b pins s σ H x y v u Q I rx ry q
theorem crOr {f : Value} {g h : List D → Option D} (a : CallR X f (rDN X.K g)) (b : CallR X f (rDN X.K h)) : CallR X f (rDN X.K (orN g h)) := fun pins s σ H xs us Q I rx q => by
  rcases rDN_or q with q | q
  · exact a pins s σ H xs us Q I rx q
  · exact b pins s σ H xs us Q I rx q
theorem opImp {f : Value → Value → Sem Value} {r r' : R2} (a : OpR X f r) (i : ∀ x y H Q, r' x y H Q → r x y H Q) : OpR X f r' := fun pins s σ H x y v u Q I rx ry q => a pins s σ H x y v u Q I rx ry (i x y H Q q)
theorem crImp {f : Value} {r r' : List V → Hp → VK → Prop} (a : CallR X f r) (i : ∀ xs H Q, r' xs H Q → r xs H Q) : CallR X f r' := fun pins s σ H xs us Q I rx q => a pins s σ H xs us Q I rx (i xs H Q q)

/-! ### ints -/
def gI (C : Int → Int → Bool) (g : Int → Int → D) : D → D → Option D
  | .int i, .int j => if C i j = true then some (g i j) else none
  | _, _ => none
theorem gI_inv {C : Int → Int → Bool} {g : Int → Int → D} {x y z : D} (h : gI C g x y = some z) : ∃ i j, x = .int i ∧ y = .int j ∧ C i j = true ∧ z = g i j := by
  unfold gI at h
  split at h
  · split at h
    · exact ⟨_, _, rfl, rfl, by assumption, (Option.some.inj h).symm⟩
    · cases h
  · cases h
theorem opII {f : Value → Value → Sem Value} {P : Int → Int → Prop} {C : Int → Int → Bool} {gv : Int → Int → V} {g : Int → Int → D} (o : OpR X f (rI P gv)) (hc : ∀ i j, C i j = true → P i j) (hg : ∀ i j Mu m H, Rp X.K Mu m H (g i j) (gv i j)) : OpR X f (rD2 X.K (gI C g)) :=
  opImp o fun x y H Q ⟨Mu, m, a, b, z, t, ra, rb, e, P⟩ => by
    obtain ⟨i, j, rfl, rfl, c, rfl⟩ := gI_inv e
    exact ⟨i, j, ra, rb, hc i j c, P _ _ (.refl _) (hg i j _ _ _)⟩
theorem opI0' {f : Value → Value → Sem Value} {gv : Int → Int → V} {g : Int → Int → D} (o : OpR X f (rI0 gv)) (hg : ∀ i j Mu m H, Rp X.K Mu m H (g i j) (gv i j)) : OpR X f (rD2 X.K (gI (fun _ _ => true) g)) :=
  opImp o fun x y H Q ⟨Mu, m, a, b, z, t, ra, rb, e, P⟩ => by
    obtain ⟨i, j, rfl, rfl, c, rfl⟩ := gI_inv e
    exact ⟨i, j, ra, rb, P _ _ (.refl _) (hg i j _ _ _)⟩
def gAddI := gI (fun _ _ => true) fun i j => .int (i + j)
def gSubI := gI (fun _ _ => true) fun i j => .int (i - j)
def cMul (i j : Int) : Bool := decide (i.natAbs.log2 + j.natAbs.log2 < 1000000)
def gMulI := gI cMul fun i j => .int (i * j)
def gModI := gI (fun _ j => decide (0 < j)) fun i j => .int (i % j)
def gPowI := gI (fun i j => decide (0 ≤ j ∧ j ≤ 1000000 ∧ i.natAbs < 2 ^ 64)) fun i j => .int (i ^ j.toNat)
def gLt := gI (fun _ _ => true) fun i j => .bl (decide (i < j))
def gLe := gI (fun _ _ => true) fun i j => .bl (decide (i ≤ j))
def gGt := gI (fun _ _ => true) fun i j => .bl (decide (j < i))
def gGe := gI (fun _ _ => true) fun i j => .bl (decide (j ≤ i))
theorem o_addI : OpR X (binaryOp .Add) (rD2 X.K gAddI) := opI0' op_add fun _ _ _ _ _ => rfl
theorem o_subI : OpR X (binaryOp .Sub) (rD2 X.K gSubI) := opI0' op_sub fun _ _ _ _ _ => rfl
theorem o_mulI : OpR X (binaryOp .Mult) (rD2 X.K gMulI) := opII op_mulW (fun i j h => of_decide_eq_true (p := i.natAbs.log2 + j.natAbs.log2 < 1000000) h) fun _ _ _ _ _ => rfl
theorem o_modI : OpR X (binaryOp .Mod) (rD2 X.K gModI) := opII op_mod (fun i j h => of_decide_eq_true h) fun _ _ _ _ _ => rfl
theorem o_powI : OpR X (binaryOp .Pow) (rD2 X.K gPowI) := opII op_pow (fun i j h => of_decide_eq_true (p := 0 ≤ j ∧ j ≤ 1000000 ∧ i.natAbs < 2 ^ 64) h) fun _ _ _ _ _ => rfl
theorem o_lt : OpR X (compareOp .Lt) (rD2 X.K gLt) := opI0' op_lt fun _ _ _ _ _ => rfl
theorem o_le : OpR X (compareOp .LtE) (rD2 X.K gLe) := opI0' op_le fun _ _ _ _ _ => rfl
theorem o_gt : OpR X (compareOp .Gt) (rD2 X.K gGt) := opI0' op_gt fun _ _ _ _ _ => rfl
theorem o_ge : OpR X (compareOp .GtE) (rD2 X.K gGe) := opI0' op_ge fun _ _ _ _ _ => rfl
def gNeg : D → Option D
  | .int i => some (.int (-i))
  | _ => none
theorem o_neg : UnR X (unaryOp .USub) (rD1 X.K gNeg) := fun pins s σ H x v Q I rx q => by
  obtain ⟨Mu, m, a, z, t, ra, e, P⟩ := q
  unfold gNeg at e
  split at e
  · cases e
    exact un_neg pins s σ H x v Q I rx ⟨_, ra, P _ _ (.refl _) rfl⟩
  · cases e

/-! ### texts, lists, tuples -/
def gAddS : D → D → Option D
  | .str x, .str y => if x.length + y.length ≤ SZ then some (.str (x ++ y)) else none
  | _, _ => none
def gAddL : D → D → Option D
  | .lst x, .lst y => if x.length + y.length ≤ SZ then some (.lst (x ++ y)) else none
  | _, _ => none
def gAddT : D → D → Option D
  | .tup x, .tup y => if x.length + y.length ≤ SZ then some (.tup (x ++ y)) else none
  | _, _ => none
theorem o_addS : OpR X (binaryOp .Add) (rD2 X.K gAddS) := opImp op_add_str fun x y H Q ⟨Mu, m, a, b, z, t, ra, rb, e, P⟩ => by
  unfold gAddS at e
  split at e
  · split at e
    · cases e
      exact ⟨_, _, ra, rb, sz_line (by assumption), P _ _ (.refl _) rfl⟩
    · cases e
  · cases e
theorem o_addL : OpR X (binaryOp .Add) (rD2 X.K gAddL) := opImp op_cat fun x y H Q ⟨Mu, m, a, b, z, t, ra, rb, e, P⟩ => by
  unfold gAddL at e
  split at e
  · split at e
    · cases e
      obtain ⟨p1, v1, e1, n1, h1, r1⟩ := ra
      obtain ⟨p2, v2, e2, n2, h2, r2⟩ := rb
      exact ⟨p1, p2, v1, v2, e1, e2, h1, h2, sz_line (by rw [← r1.length, ← r2.length]; assumption), fun p hp => P _ _ (.new hp) (.newL (r1.append r2) t hp)⟩
    · cases e
  · cases e
def gMulL : D → D → Option D
  | .lst x, .int k => if (decide (k < 100000) && decide (-100000 < k) && decide (x.length * k.toNat ≤ SZ)) = true then some (.lst (List.replicate k.toNat x).flatten) else none
  | _, _ => none
theorem o_mulL : OpR X (binaryOp .Mult) (rD2 X.K gMulL) := opImp op_rep fun x y H Q ⟨Mu, m, a, b, z, t, ra, rb, e, P⟩ => by
  unfold gMulL at e
  split at e
  · split at e
    · rename_i c
      simp only [Bool.and_eq_true, decide_eq_true_eq] at c
      obtain ⟨⟨c1, c2⟩, c3⟩ := c
      cases e
      obtain ⟨p1, v1, e1, n1, h1, r1⟩ := ra
      exact ⟨p1, _, v1, e1, rb, h1, by omega, by omega, sz_line (by rw [← r1.length]; exact c3), fun p hp => P _ _ (.new hp) (.newL (r1.rep _) t hp)⟩
    · cases e
  · cases e
def gMulS : D → D → Option D
  | .str x, .int k => if (decide (k < 100000) && decide (-100000 < k) && decide (x.length * k.toNat ≤ SZ)) = true then some (.str (Txt.mul x k)) else none
  | _, _ => none
theorem mulOk {x : Str} {k : Int} (c1 : k < 100000) (c2 : -100000 < k) (c3 : x.length * k.toNat ≤ SZ) : MulOk x k := by
  have hz : x.length * k.toNat ≤ sizeLine := sz_line c3
  refine ⟨?_, fun h1 _ => ?_, fun h1 _ => ?_⟩
  · simp only [Bool.or_eq_false_iff, decide_eq_false_iff_not]
    exact ⟨by omega, by omega⟩
  · have hk : 0 < k := by omega
    rw [gt_iff_lt, Int.not_lt]
    refine (Int.le_ediv_iff_mul_le hk).mpr ?_
    have e : ((x.length * k.toNat : Nat) : Int) = (x.length : Int) * k := by
      rw [Int.natCast_mul, Int.toNat_of_nonneg (by omega)]
    rw [← e]
    have : x.length * k.toNat ≤ 1000000 := c3
    omega
  · unfold Builtin.Str.tooLong
    simpa using hz
theorem o_mulS : OpR X (binaryOp .Mult) (rD2 X.K gMulS) := fun pins s σ H x y v u Q I rx ry q => by
  obtain ⟨Mu, m, a, b, z, t, ra, rb, e, P⟩ := q
  unfold gMulS at e
  split at e
  · split at e
    · rename_i c
      simp only [Bool.and_eq_true, decide_eq_true_eq] at c
      obtain ⟨⟨c1, c2⟩, c3⟩ := c
      cases e
      cases ra
      cases rb
      obtain ⟨t1, rfl⟩ := rx
      obtain ⟨t2, rfl⟩ := ry
      exact SB.mul (mulOk c1 c2 c3) fun t' k => ⟨.str _, H, I.tok k, ⟨t', rfl⟩, P _ _ (.refl _) rfl⟩
    · cases e
  · cases e

/-! ### == of plain values -/
def sEq : D → D → Option Bool
  | .int i, .int j => some (decide (i = j))
  | .str i, .str j => some (decide (i = j))
  | .bl i, .bl j => some (decide (i = j))
  | .non, .non => some true
  | .non, .int _ => some false
  | .int _, .non => some false
  | .non, .str _ => some false
  | .str _, .non => some false
  | .non, .bl _ => some false
  | .bl _, .non => some false
  | .int _, .str _ => some false
  | .str _, .int _ => some false
  | .bl _, .str _ => some false
  | .str _, .bl _ => some false
  | _, _ => none
theorem sEq_inv {K : PySem.W.Frag} {Mu : Addr → Prop} {m : List Addr} {H : Hp} {a b : D} {x y : V} {c : Bool} (h : sEq a b = some c) (ra : Rp K Mu m H a x) (rb : Rp K Mu m H b y) : scal x y = true ∧ decide (x = y) = c := by
  unfold sEq at h
  split at h <;> first | (cases h; cases ra; cases rb; exact ⟨rfl, by simp⟩) | cases h
def gEqS : D → D → Option D := fun x y => (sEq x y).map D.bl
def gNeS : D → D → Option D := fun x y => (sEq x y).map fun b => D.bl (!b)
theorem o_eqS : OpR X (compareOp .Eq) (rD2 X.K gEqS) := opImp op_eq fun x y H Q ⟨Mu, m, a, b, z, t, ra, rb, e, P⟩ => by
  obtain ⟨c, hc, rfl⟩ := Option.map_eq_some_iff.mp e
  obtain ⟨h1, h2⟩ := sEq_inv hc ra rb
  exact ⟨h1, by rw [h2]; exact P _ _ (.refl _) rfl⟩
theorem o_neS : OpR X (compareOp .NotEq) (rD2 X.K gNeS) := opImp op_ne fun x y H Q ⟨Mu, m, a, b, z, t, ra, rb, e, P⟩ => by
  obtain ⟨c, hc, rfl⟩ := Option.map_eq_some_iff.mp e
  obtain ⟨h1, h2⟩ := sEq_inv hc ra rb
  exact ⟨h1, by rw [h2]; exact P _ _ (.refl _) rfl⟩

/-! ### == of data -/
mutual
def toE : D → Option PyData
  | .non => some .none
  | .bl b => some (.bool b)
  | .int i => some (.int i)
  | .str x => some (.str x)
  | .lst xs => (toEs xs).map PyData.list
  | .tup xs => (toEs xs).map PyData.tuple
  | .arg ns => some (.list (ns.map PyData.int))
  | _ => none
def toEs : List D → Option (List PyData)
  | [] => some []
  | x :: xs => match toE x, toEs xs with
    | some p, some q => some (p :: q)
    | _, _ => none
end
theorem dpInts {K : PySem.W.Frag} {H : Hp} : ∀ ns : List Int, DpAll K H (ns.map V.int) (ns.map PyData.int)
  | [] => .nil
  | n :: r => .cons (.int n) (dpInts r)
mutual
theorem toE_dp {K : PySem.W.Frag} {Mu : Addr → Prop} {m : List Addr} {H : Hp} : ∀ (d : D) {v : V} {p : PyData}, toE d = some p → Rp K Mu m H d v → Dp K H v p
  | .non, v, p, h, r => by cases (show some PyData.none = some p from h); cases r; exact .non
  | .bl b, v, p, h, r => by cases (show some (PyData.bool b) = some p from h); cases r; exact .bl b
  | .int b, v, p, h, r => by cases (show some (PyData.int b) = some p from h); cases r; exact .int b
  | .str b, v, p, h, r => by cases (show some (PyData.str b) = some p from h); cases r; exact .str b
  | .lst xs, v, p, h, r => by
    obtain ⟨ps, h1, rfl⟩ := Option.map_eq_some_iff.mp (show (toEs xs).map PyData.list = some p from h)
    obtain ⟨a, vs, rfl, _, ha, r⟩ := r
    exact .lst (.of ha) (toEs_dp xs h1 r)
  | .tup xs, v, p, h, r => by
    obtain ⟨ps, h1, rfl⟩ := Option.map_eq_some_iff.mp (show (toEs xs).map PyData.tuple = some p from h)
    obtain ⟨a, vs, rfl, _, ha, r⟩ := r
    exact .tup (.of ha) (toEs_dp xs h1 r)
  | .arg ns, v, p, h, r => by
    cases (show some (PyData.list (ns.map PyData.int)) = some p from h)
    obtain ⟨a, rfl, r⟩ := r
    rcases r with ⟨_, o, r⟩ | r
    · exact .lst (.inl (.inr ⟨o, r⟩)) (dpInts ns)
    · exact .lst (r H) (dpInts ns)
  | .dK _, _, _, h, _ => by cases (show none = some _ from h)
  | .dT _, _, _, h, _ => by cases (show none = some _ from h)
  | .ref _, _, _, h, _ => by cases (show none = some _ from h)
  | .ty _, _, _, h, _ => by cases (show none = some _ from h)
  | .cls _, _, _, h, _ => by cases (show none = some _ from h)
  | .exc _ _, _, _, h, _ => by cases (show none = some _ from h)
  | .ins _ _, _, _, h, _ => by cases (show none = some _ from h)
  | .cell _, _, _, h, _ => by cases (show none = some _ from h)
theorem toEs_dp {K : PySem.W.Frag} {Mu : Addr → Prop} {m : List Addr} {H : Hp} : ∀ (ds : List D) {vs : List V} {ps : List PyData}, toEs ds = some ps → RpA K Mu m H ds vs → DpAll K H vs ps
  | [], vs, ps, h, r => by cases (show some [] = some ps from h); cases (show vs = [] from r); exact .nil
  | x :: xs, vs, ps, h, r => by
    obtain ⟨v, t, rfl, r1, r2⟩ := r
    unfold toEs at h
    split at h
    · rename_i p q h1 h2
      cases h
      exact .cons (toE_dp x h1 r1) (toEs_dp xs h2 r2)
    · cases h
end
def dEq (x y : D) : Option Bool := match toE x, toE y with
  | some p, some q => if (SeqAt.shaped p && SeqAt.shaped q) = true then some (PyData.eqv p q) else none
  | _, _ => none
theorem dEq_inv {x y : D} {b : Bool} (h : dEq x y = some b) : ∃ p q, toE x = some p ∧ toE y = some q ∧ SeqAt.shaped p = true ∧ SeqAt.shaped q = true ∧ b = PyData.eqv p q := by
  unfold dEq at h
  split at h
  · rename_i p q h1 h2
    split at h
    · rename_i c
      obtain ⟨c1, c2⟩ := Bool.and_eq_true_iff.mp c
      exact ⟨p, q, h1, h2, c1, c2, (Option.some.inj h).symm⟩
    · cases h
  · cases h
def gEqD : D → D → Option D := fun x y => (dEq x y).map D.bl
def gNeD : D → D → Option D := fun x y => (dEq x y).map fun b => D.bl (!b)
theorem o_eqD (hu : X.A.units + 64 < cLine) : OpR X (compareOp .Eq) (rD2 X.K gEqD) := opImp (op_eqD hu) fun x y H Q ⟨Mu, m, a, b, z, t, ra, rb, e, P⟩ => by
  obtain ⟨c, hc, rfl⟩ := Option.map_eq_some_iff.mp e
  obtain ⟨p, q, h1, h2, h3, h4, rfl⟩ := dEq_inv hc
  exact ⟨p, q, toE_dp a h1 ra, toE_dp b h2 rb, h3, h4, P _ _ (.refl _) rfl⟩
theorem o_neD (hu : X.A.units + 64 < cLine) : OpR X (compareOp .NotEq) (rD2 X.K gNeD) := opImp (op_neD hu) fun x y H Q ⟨Mu, m, a, b, z, t, ra, rb, e, P⟩ => by
  obtain ⟨c, hc, rfl⟩ := Option.map_eq_some_iff.mp e
  obtain ⟨p, q, h1, h2, h3, h4, rfl⟩ := dEq_inv hc
  exact ⟨p, q, toE_dp a h1 ra, toE_dp b h2 rb, h3, h4, P _ _ (.refl _) rfl⟩
def gAdd := orG gAddI (orG gAddS gAddL)
def gMul := orG gMulI (orG gMulL gMulS)
def gEq := orG gEqS gEqD
def gNe := orG gNeS gNeD
theorem o_add : OpR X (binaryOp .Add) (rD2 X.K gAdd) := opOr o_addI (opOr o_addS o_addL)
theorem o_mul : OpR X (binaryOp .Mult) (rD2 X.K gMul) := opOr o_mulI (opOr o_mulL o_mulS)
theorem o_eq (hu : X.A.units + 64 < cLine) : OpR X (compareOp .Eq) (rD2 X.K gEq) := opOr o_eqS (o_eqD hu)
theorem o_ne (hu : X.A.units + 64 < cLine) : OpR X (compareOp .NotEq) (rD2 X.K gNe) := opOr o_neS (o_neD hu)
end
end TL
namespace TL
open PySem PySem.Spec PyProof.Rows L2

section
variable {X : Cx} {K : PySem.W.Frag} {Mu : Addr → Prop} {m : List Addr} {H : Hp}
theorem Rp.argL {ns : List Int} {v : V} (r : Rp K Mu m H (.arg ns) v) : ∃ a, v = .ref a ∧ SqL K H a (ns.map V.int) := by
  obtain ⟨a, rfl, r⟩ := r
  rcases r with ⟨_, o, r⟩ | r
  · exact ⟨a, rfl, .inl (.inr ⟨o, r⟩)⟩
  · exact ⟨a, rfl, r H⟩
/-- a list's items -/
def itemsL : D → Option (List D)
  | .lst xs => some xs
  | .arg ns => some (ns.map D.int)
  | _ => none
theorem itemsL_sq {d : D} {v : V} {ds : List D} (h : itemsL d = some ds) (r : Rp K Mu m H d v) : ∃ a vs, v = .ref a ∧ SqL K H a vs ∧ RpA K Mu m H ds vs := by
  unfold itemsL at h
  split at h
  · cases h
    obtain ⟨a, vs, e, _, ha, r⟩ := r
    exact ⟨a, vs, e, .of ha, r⟩
  · cases h
    obtain ⟨a, e, s⟩ := r.argL
    exact ⟨a, _, e, s, .ints⟩
  · cases h
theorem itemsT_sq {d : D} {v : V} {ds : List D} (h : tupOf d = some ds) (r : Rp K Mu m H d v) : ∃ a vs, v = .ref a ∧ SqT K H a vs ∧ RpA K Mu m H ds vs := by
  have e := tupOf_inv h
  subst e
  obtain ⟨a, vs, e, _, ha, r⟩ := r
  exact ⟨a, vs, e, .of ha, r⟩
def szOf : D → Option Nat
  | .str x => if x.length ≤ SZ then some x.length else none
  | .lst xs => some xs.length
  | .arg ns => some ns.length
  | .tup xs => some xs.length
  | _ => none
theorem szOf_len {d : D} {v : V} {n : Nat} (h : szOf d = some n) (r : Rp K Mu m H d v) : LenV K v H n := by
  unfold szOf at h
  split at h
  · split at h
    · cases h
      cases r
      exact ⟨sz_line (by assumption), rfl⟩
    · cases h
  · cases h
    obtain ⟨a, vs, rfl, _, ha, r⟩ := r
    exact .inl ⟨vs, .of ha, r.length⟩
  · cases h
    obtain ⟨a, rfl, s⟩ := r.argL
    exact .inl ⟨_, s, by rw [List.length_map]⟩
  · cases h
    obtain ⟨a, vs, rfl, _, ha, r⟩ := r
    exact .inr ⟨vs, .of ha, r.length⟩
  · cases h
theorem RpA.one {d : D} {vs : List V} (r : RpA K Mu m H [d] vs) : ∃ v, vs = [v] ∧ Rp K Mu m H d v := by
  obtain ⟨v, t, rfl, r1, r2⟩ := r
  rw [show t = [] from r2]
  exact ⟨v, rfl, r1⟩
theorem RpA.two {d e : D} {vs : List V} (r : RpA K Mu m H [d, e] vs) : ∃ v u, vs = [v, u] ∧ Rp K Mu m H d v ∧ Rp K Mu m H e u := by
  obtain ⟨v, t, rfl, r1, r2⟩ := r
  obtain ⟨u, rfl, r3⟩ := RpA.one r2
  exact ⟨v, u, rfl, r1, r3⟩
end
/-- one argument -/
def on1 (g : D → Option D) : List D → Option D
  | [x] => g x
  | _ => none
def on2 (g : D → D → Option D) : List D → Option D
  | [x, y] => g x y
  | _ => none
theorem on1_inv {g : D → Option D} {xs : List D} {z : D} (h : on1 g xs = some z) : ∃ x, xs = [x] ∧ g x = some z := by
  unfold on1 at h
  split at h
  · exact ⟨_, rfl, h⟩
  · cases h
theorem on2_inv {g : D → D → Option D} {xs : List D} {z : D} (h : on2 g xs = some z) : ∃ x y, xs = [x, y] ∧ g x y = some z := by
  unfold on2 at h
  split at h
  · exact ⟨_, _, rfl, h⟩
  · cases h
section
variable {X : Cx}
theorem cr1 {f : Value} {r : List V → Hp → VK → Prop} {g : D → Option D} (c : CallR X f r) (i : ∀ Mu m H d v z Q, TrM Mu H → Rp X.K Mu m H d v → g d = some z → (∀ u H', ExtF H H' → Rp X.K Mu m H' z u → Q u H') → r [v] H Q) : CallR X f (rDN X.K (on1 g)) :=
  crImp c fun xs H Q ⟨Mu, m, a, z, t, ra, e, P⟩ => by
    obtain ⟨x, rfl, hx⟩ := on1_inv e
    obtain ⟨v, rfl, rv⟩ := ra.one
    exact i Mu m H x v z Q t rv hx P
def gLen : D → Option D := fun d => (szOf d).map fun (n : Nat) => D.int (n : Int)
theorem c_len : CallR X (.builtin "len") (rDN X.K (on1 gLen)) := cr1 call_len fun Mu m H d v z Q t r e P => by
  obtain ⟨n, hn, rfl⟩ := Option.map_eq_some_iff.mp e
  exact ⟨v, n, rfl, szOf_len hn r, P (V.int n) _ (.refl _) rfl⟩
def gAbs : D → Option D
  | .int i => some (.int (if i < 0 then -i else i))
  | _ => none
theorem c_abs : CallR X (.builtin "abs") (rDN X.K (on1 gAbs)) := cr1 call_abs fun Mu m H d v z Q t r e P => by
  unfold gAbs at e
  split at e
  · cases e
    cases r
    exact ⟨_, rfl, P _ _ (.refl _) rfl⟩
  · cases e
def intsOf : List D → Option (List Int)
  | [] => some []
  | .int i :: r => (intsOf r).map fun is => i :: is
  | _ => none
theorem intsOf_inv : ∀ {ds : List D} {ns : List Int}, intsOf ds = some ns → ds = ns.map D.int
  | [], ns, h => by cases h; rfl
  | d :: r, ns, h => by
    cases d with
    | int i =>
      obtain ⟨is, h1, rfl⟩ := Option.map_eq_some_iff.mp (show (intsOf r).map (fun is => i :: is) = some ns from h)
      rw [intsOf_inv h1]
      rfl
    | _ => cases h
theorem intsOf_map : ∀ ns : List Int, intsOf (ns.map D.int) = some ns
  | [] => rfl
  | n :: r => by
    show (intsOf (r.map D.int)).map (fun is => n :: is) = some (n :: r)
    rw [intsOf_map r]
    rfl
def gSum : D → Option D := fun d => (itemsL d).bind fun ds => (intsOf ds).map fun ns => .int ns.sum
theorem c_sum (hc : X.calm = true) : CallR X (.builtin "sum") (rDN X.K (on1 gSum)) := cr1 (cr_sum hc) fun Mu m H d v z Q t r e P => by
  obtain ⟨ds, h1, h2⟩ := Option.bind_eq_some_iff.mp e
  obtain ⟨ns, h3, rfl⟩ := Option.map_eq_some_iff.mp h2
  obtain ⟨a, vs, rfl, s, ra⟩ := itemsL_sq h1 r
  rw [intsOf_inv h3] at ra
  rw [ra.ints_inv] at s
  exact ⟨a, ns, rfl, s, P _ _ (.refl _) rfl⟩
def gInt : D → Option D
  | .int i => some (.int i)
  | .bl k => some (.int (if k then 1 else 0))
  | _ => none
theorem c_int : CallR X (.type "int") (rDN X.K (on1 gInt)) := cr1 call_int1 fun Mu m H d v z Q t r e P => by
  unfold gInt at e
  split at e
  · cases e
    cases r
    exact .inl ⟨_, rfl, P _ _ (.refl _) rfl⟩
  · cases e
    cases r
    exact .inr ⟨_, rfl, P _ _ (.refl _) rfl⟩
  · cases e
def gTuple : D → Option D := fun d => match itemsL d with
  | some ds => some (.tup ds)
  | none => match tupOf d with
    | some ds => some (.tup ds)
    | none => none
theorem c_tuple : CallR X (.type "tuple") (rDN X.K (on1 gTuple)) := cr1 call_tuple_of fun Mu m H d v z Q t r e P => by
  unfold gTuple at e
  split at e
  · rename_i ds h
    cases e
    obtain ⟨a, vs, rfl, s, ra⟩ := itemsL_sq h r
    exact ⟨a, vs, rfl, .inl ⟨s, fun l hl => P _ _ (.new hl) (.newT ra t hl)⟩⟩
  · split at e
    · rename_i ds h
      cases e
      obtain ⟨a, vs, e, s, ra⟩ := itemsT_sq h r
      have e3 := tupOf_inv h
      subst e e3
      exact ⟨a, vs, rfl, .inr ⟨s, P _ _ (.refl _) r⟩⟩
    · cases e
def gList : D → Option D := fun d => match itemsL d with
  | some ds => some (.lst ds)
  | none => match tupOf d with
    | some ds => some (.lst ds)
    | none => none
theorem c_list : CallR X (.type "list") (rDN X.K (on1 gList)) := cr1 call_list_of fun Mu m H d v z Q t r e P => by
  unfold gList at e
  split at e
  · rename_i ds h
    cases e
    obtain ⟨a, vs, rfl, s, ra⟩ := itemsL_sq h r
    exact ⟨a, vs, rfl, .inl s, fun l hl => P _ _ (.new hl) (.newL ra t hl)⟩
  · split at e
    · rename_i ds h
      cases e
      obtain ⟨a, vs, rfl, s, ra⟩ := itemsT_sq h r
      exact ⟨a, vs, rfl, .inr s, fun l hl => P _ _ (.new hl) (.newL ra t hl)⟩
    · cases e

/-! ### index, slices -/
theorem RpA.at_ {Mu : Addr → Prop} {m : List Addr} {H : Hp} {K : PySem.W.Frag} {ds : List D} {vs : List V} {i : Int} {d : D} (r : RpA K Mu m H ds vs) (h : atI ds i = some d) : ∃ v, atI vs i = some v ∧ Rp K Mu m H d v := by
  unfold atI at h ⊢
  obtain ⟨j, h1, h2⟩ := Option.bind_eq_some_iff.mp h
  obtain ⟨v, h3, h4⟩ := r.get h2
  exact ⟨v, by rw [← r.length, h1]; exact h3, h4⟩
def gIx : D → D → Option D := fun x i => match i with
  | .int i => (match itemsL x with
    | some ds => atI ds i
    | none => match tupOf x with
      | some ds => atI ds i
      | none => none)
  | _ => none
theorem i_ix : IxR X (rD2 X.K gIx) := fun value slice pins s σ H x y v u Q I rx ry q hs => by
  obtain ⟨Mu, m, a, b, z, t, ra, rb, e, P⟩ := q
  unfold gIx at e
  split at e
  · rename_i i
    cases rb
    split at e
    · rename_i ds h
      obtain ⟨p, vs, rfl, sq, rs⟩ := itemsL_sq h ra
      obtain ⟨v2, h1, h2⟩ := rs.at_ e
      exact ix_list value slice pins s σ H _ _ v u Q I rx ry ⟨p, vs, i, v2, rfl, rfl, sq, h1, P _ _ (.refl _) h2⟩ hs
    · split at e
      · rename_i ds h
        obtain ⟨p, vs, rfl, sq, rs⟩ := itemsT_sq h ra
        obtain ⟨v2, h1, h2⟩ := rs.at_ e
        exact ix_tup value slice pins s σ H _ _ v u Q I rx ry ⟨p, vs, i, v2, rfl, rfl, sq, h1, P _ _ (.refl _) h2⟩ hs
      · cases e
  · cases e
/-! slices: parts -/
def fPart (fa : EF) : Rho → Eta → Res (Option Int) := fun ρ η => bindO (fa ρ η) fun x η1 => match x with
  | .int i => some (.ok (some i), η1)
  | _ => none
def fNoPart : Rho → Eta → Res (Option Int) := fun _ η => some (.ok none, η)
def RelP (_ : PySem.W.Frag) (_ : Addr → Prop) (_ : List Addr) (_ : Hp) (b c : Option Int) : Prop := b = c
abbrev tP (K : PySem.W.Frag) (W : WX) (f : Rho → Eta → Res (Option Int)) : TO := tG RelP K W f
variable {W : WX} {e : Expr} {fa : EF} {lo hi : Option Expr} {pos p2 : Pos}
theorem _root_.L2.PO.imp {e : Option Expr} {t t' : TO} (h : PO X e t) (i : ∀ σ H Q, t' σ H Q → t σ H Q) : PO X e t' := ⟨fun pins s σ H Q I q => h.run pins s σ H Q I (i σ H Q q)⟩
theorem to_none : PO X none (tP X.K W fNoPart) := po_none.imp fun σ H Q h => by
  obtain ⟨C, oas, m, ρ, η, r, S, e, P⟩ := h
  cases e
  exact P.ok .refl S rfl
theorem to_some (h : PE X e (tE X.K W fa)) : PO X (some e) (tP X.K W (fPart fa)) := (po_some h).imp fun σ H Q h => by
  obtain ⟨C, oas, m, ρ, η, r, S, e, P⟩ := h
  refine bind_G S e P fun m1 vx H1 x η1 n1 S1 rx e1 P1 => ?_
  split at e1
  · cases e1
    cases rx
    exact ⟨_, rfl, P1.ok .refl S1 rfl⟩
  · cases e1
def cutD (xs : List D) (lo hi : Option Int) : List D := (xs.drop (HT.sIx xs.length 0 lo)).take (HT.sIx xs.length xs.length hi - HT.sIx xs.length 0 lo)
def gSl (x : D) (lo hi : Option Int) : Option D := match itemsL x with
  | some ds => some (.lst (cutD ds lo hi))
  | none => match tupOf x with
    | some ds => some (.tup (cutD ds lo hi))
    | none => none
def fSl (fa : EF) (fl fh : Rho → Eta → Res (Option Int)) : EF := fun ρ η => bindO (fa ρ η) fun x η1 => bindO (fl ρ η1) fun l η2 => bindO (fh ρ η2) fun h η3 => okO (gSl x l h) η3
theorem RpA.cut {Mu : Addr → Prop} {m : List Addr} {H : Hp} {K : PySem.W.Frag} {ds : List D} {vs : List V} (r : RpA K Mu m H ds vs) (lo hi : Option Int) : RpA K Mu m H (cutD ds lo hi) (cutV vs lo hi) := by
  unfold cutD cutV
  rw [r.length]
  exact (r.drop _).take _
theorem td_sl {fl fh : Rho → Eta → Res (Option Int)} (ha : PE X e (tE X.K W fa)) (hl : PO X lo (tP X.K W fl)) (hh : PO X hi (tP X.K W fh)) : PE X (.Subscript e (.Slice lo hi none p2) pos) (tE X.K W (fSl fa fl fh)) :=
  (pe_slice (sl_list.or sl_tupA) ha hl hh).imp fun σ H Q h => by
    obtain ⟨C, oas, m, ρ, η, r, S, e, P⟩ := h
    refine bind_G S e P fun m1 vx H1 x η1 n1 S1 rx e1 P1 => ?_
    refine bind_G S1 e1 P1 fun m2 vl H2 l η2 n2 S2 rl e2 P2 => ?_
    refine bind_G S2 e2 P2 fun m3 vh H3 hh η3 n3 S3 rh e3 P3 => ?_
    obtain ⟨z, hg, rfl⟩ := okO_inv e3
    cases rl
    cases rh
    have rx := (rx.keep n2.keep).keep n3.keep
    unfold gSl at hg
    split at hg
    · rename_i ds hi
      cases hg
      obtain ⟨a, vs, rfl, s, ra⟩ := itemsL_sq hi rx
      exact .inl ⟨a, vs, rfl, s, fun p hp => P3.ok (.ext (.new hp)) (S3.ext (.new hp)) (.newL (ra.cut _ _) S3.trk hp)⟩
    · split at hg
      · rename_i ds hi
        cases hg
        have e5 := tupOf_inv hi
        subst e5
        obtain ⟨a, vs, rfl, n, ha, ra⟩ := rx
        refine .inr ⟨a, vs, rfl, .of ha, fun w => ?_, fun _ p hp => P3.ok (.ext (.new hp)) (S3.ext (.new hp)) (.newT (ra.cut _ _) S3.trk hp)⟩
        refine P3.ok .refl S3 ⟨a, vs, rfl, n, ha, ?_⟩
        have q := ra.cut vl vh
        unfold cutV at q
        rw [w.1, w.2, List.drop_zero, Nat.sub_zero, List.take_length] at q
        exact q
      · cases hg

/-! ### sep.join -/
def strsOf : List D → Option (List Str)
  | [] => some []
  | .str i :: r => (strsOf r).map fun is => i :: is
  | _ => none
theorem strsOf_rp {Mu : Addr → Prop} {m : List Addr} {H : Hp} {K : PySem.W.Frag} : ∀ {ds : List D} {ns : List Str} {vs : List V}, strsOf ds = some ns → RpA K Mu m H ds vs → vs = ns.map V.str
  | [], ns, vs, h, r => by cases h; exact r
  | d :: t, ns, vs, h, r => by
    cases d with
    | str i =>
      obtain ⟨is, h1, rfl⟩ := Option.map_eq_some_iff.mp (show (strsOf t).map (fun is => i :: is) = some ns from h)
      obtain ⟨v, u, rfl, r1, r2⟩ := r
      rw [show v = V.str i from r1, strsOf_rp h1 r2]
      rfl
    | _ => cases h
def gJoin (a : Str) (x : D) : Option D := match itemsL x with
  | some ds => (match strsOf ds with
    | some ys => if (ys.map (·.length)).sum + ys.length * a.length ≤ SZ then some (.str (Txt.join a ys)) else none
    | none => none)
  | none => none
def fJoin (fo fa : EF) : EF := fun ρ η => bindO (fo ρ η) fun x η1 => match x with
  | .str a => bindO (fa ρ η1) fun y η2 => okO (gJoin a y) η2
  | _ => none
theorem td_join {o : Expr} {fo : EF} {apos : Pos} (ho : PE X o (tE X.K W fo)) (he : PE X e (tE X.K W fa)) (hs : starEach [e] X.env = [(false, eval e X.env)] := by rfl) (hbase : attributeBase o "join" X.env (eval o X.env) = eval o X.env := by rfl) (hline : (apos.endLine == pos.line) = true := by rfl) :
    PE X (.Call (.Attribute o "join" apos) [e] [] pos) (tE X.K W (fJoin fo fa)) :=
  (pe_join ho he hs hbase hline).imp fun σ H Q h => by
    obtain ⟨C, oas, m, ρ, η, r, S, e, P⟩ := h
    refine bind_G S e P fun m1 vx H1 x η1 n1 S1 rx e1 P1 => ?_
    split at e1
    · rename_i a
      cases rx
      refine ⟨⟨a, rfl⟩, bind_G S1 e1 P1 fun m2 vy H2 y η2 n2 S2 ry e2 P2 => ?_⟩
      obtain ⟨z, hg, rfl⟩ := okO_inv e2
      unfold gJoin at hg
      split at hg
      · rename_i ds hd
        split at hg
        · rename_i ys hy
          split at hg
          · rename_i hz
            cases hg
            obtain ⟨p, vs, rfl, sq, rs⟩ := itemsL_sq hd ry
            rw [strsOf_rp hy rs] at sq
            refine ⟨a, p, ys, rfl, rfl, .inl sq, ?_, P2.ok .refl S2 rfl⟩
            have hz2 : (ys.map (·.length)).sum + ys.length * a.length ≤ 1000000 := hz
            omega
          · cases hg
        · cases hg
      · cases hg
    · cases e1
end
end TL
namespace TL
open PySem PySem.Spec PyProof.Rows L2

theorem kxsKey : PySem.W.KxsFacts "KeyError" "KeyError.__init__" := ⟨by show builtinType _ = _; rw [builtinType_eq_fast] <;> kernel_rfl, by first | kernel_rfl | rfl⟩

/-- what is known of a built-in base: its __init__, whose __new__ it has, its classes -/
structure ExB (B newId i : String) (tail : List Value) : Prop where
  FN : ∃ (BN iN : String) (bmN : List Value), ExcBaseFacts BN newId iN bmN ∧ tail.contains (.type BN) = true
  nA : tail.contains (.type "AttributeError") = false
  nN : tail.contains (.type "NameError") = false
  KF : PySem.W.KxsFacts B i
  pass : ∀ self, refuseLoop self "__setattr__" tail = pure ()
  obj : tail.contains (.type "object") = true
  ne : tail.isEmpty = false
  hasB : tail.contains (.type B) = true
  along : ∀ K : PySem.W.Frag, PySem.W.alongIn K "__init__" tail = some (some (.builtin i))
  kind : builtinKind i = some .slot
  row : Manifest.signature? i = some ⟨.positional, "*", B, .self, [⟨"args", .varPos, false⟩]⟩
  star : (B != "*") = true
  entry : entryFor table i = some Builtin.«BaseException.__init__»
  plain : plainId i = true
theorem exVE : ExB "ValueError" "ValueError.__new__" "ValueError.__init__" [.type "ValueError", .type "Exception", .type "BaseException", .type "object"] := ⟨⟨_, _, _, F.excBase_ValueError, by decide +kernel⟩, by decide +kernel, by decide +kernel, PySem.W.kxs_ValueError, fun s => by kernel_rfl, by decide +kernel, by decide +kernel, by decide +kernel, fun K => by kernel_rfl, F.excBase_ValueError.initKind, F.excBase_ValueError.initRow, F.excBase_ValueError.noStar, F.excBase_ValueError.initEntry, F.excBase_ValueError.init.plain⟩
theorem exKE : ExB "KeyError" "LookupError.__new__" "KeyError.__init__" [.type "KeyError", .type "LookupError", .type "Exception", .type "BaseException", .type "object"] := ⟨⟨_, _, _, F.excBase_LookupError, by decide +kernel⟩, by decide +kernel, by decide +kernel, kxsKey, fun s => by kernel_rfl, by decide +kernel, by decide +kernel, by decide +kernel, fun K => by kernel_rfl, by kernel_rfl, by kernel_rfl, by decide +kernel, PyProof.Rows.excClass_KeyError.initEntry, by decide +kernel⟩
theorem exIE : ExB "IndexError" "IndexError.__new__" "IndexError.__init__" [.type "IndexError", .type "LookupError", .type "Exception", .type "BaseException", .type "object"] := ⟨⟨_, _, _, F.excBase_IndexError, by decide +kernel⟩, by decide +kernel, by decide +kernel, PySem.W.kxs_IndexError, fun s => by kernel_rfl, by decide +kernel, by decide +kernel, by decide +kernel, fun K => by kernel_rfl, F.excBase_IndexError.initKind, F.excBase_IndexError.initRow, F.excBase_IndexError.noStar, F.excBase_IndexError.initEntry, F.excBase_IndexError.init.plain⟩
theorem exLE : ExB "LookupError" "LookupError.__new__" "LookupError.__init__" [.type "LookupError", .type "Exception", .type "BaseException", .type "object"] := ⟨⟨_, _, _, F.excBase_LookupError, by decide +kernel⟩, by decide +kernel, by decide +kernel, PySem.W.kxs_LookupError, fun s => by kernel_rfl, by decide +kernel, by decide +kernel, by decide +kernel, fun K => by kernel_rfl, F.excBase_LookupError.initKind, F.excBase_LookupError.initRow, F.excBase_LookupError.noStar, F.excBase_LookupError.initEntry, F.excBase_LookupError.init.plain⟩
theorem exOE : ExB "OverflowError" "OverflowError.__new__" "OverflowError.__init__" [.type "OverflowError", .type "ArithmeticError", .type "Exception", .type "BaseException", .type "object"] := ⟨⟨_, _, _, F.excBase_OverflowError, by decide +kernel⟩, by decide +kernel, by decide +kernel, PySem.W.kxs_OverflowError, fun s => by kernel_rfl, by decide +kernel, by decide +kernel, by decide +kernel, fun K => by kernel_rfl, F.excBase_OverflowError.initKind, F.excBase_OverflowError.initRow, F.excBase_OverflowError.noStar, F.excBase_OverflowError.initEntry, F.excBase_OverflowError.init.plain⟩
theorem exRE : ExB "RuntimeError" "RuntimeError.__new__" "RuntimeError.__init__" [.type "RuntimeError", .type "Exception", .type "BaseException", .type "object"] := ⟨⟨_, _, _, F.excBase_RuntimeError, by decide +kernel⟩, by decide +kernel, by decide +kernel, PySem.W.kxs_RuntimeError, fun s => by kernel_rfl, by decide +kernel, by decide +kernel, by decide +kernel, fun K => by kernel_rfl, F.excBase_RuntimeError.initKind, F.excBase_RuntimeError.initRow, F.excBase_RuntimeError.noStar, F.excBase_RuntimeError.initEntry, F.excBase_RuntimeError.init.plain⟩
end TL
namespace TL
open PySem PySem.Spec PyProof.Rows L2
open PySem.HandSPX (excO)

section
variable {M : Model} {A : Around} {E : Value → Shared → Prop} {h : Heap} {g : Array GenState} {d : Drawn} {t : Nat} {os : OsState}
variable {nm q : Str} {C N : Addr} {bs tail : List Value} {hd : Bool} {sn : List Str} {sub : List Value} {ab : Bool} {col : Option Bool} {dd : Option Addr} {k0 k1 k2 k3 k5 : Option Value} {B newId i : String}
theorem newCheck (X : ExB B newId i tail) {rest : List Value} {kw : List (Str × Value)} {Q : Unit → Shared → Prop} (hC : h.get? C = some (excClassObj nm q C N bs tail hd sn sub ab col dd k0 k1 k2 k3 k5 newId))
    (hq : Q () ⟨h, g, d, t, os⟩) : wpAny M A (checkBuiltinCall newId ⟨.ref C :: rest, kw⟩) Q E ⟨h, g, d, t, os⟩ := by
  obtain ⟨BN, iN, bmN, FN, hN⟩ := X.FN
  have c1 : (Value.ref C :: tail).contains (.type BN) = true := by rw [List.contains_cons, hN, Bool.or_true]
  have c2 := FN.noStar
  simp only [checkBuiltinCall, FN.newKind, FN.newSplit, FN.newRow]
  repeat (first
    | refine wpAny_loadPart_at hC ?_
    | (refine wpAny_isSubtype_exc hC ?_; rw [c1])
    | refine wpAny_staticBase_exc hC ?_
    | refine wpAny_madeBy_exc hC ?_
    | simp only [bne_self_eq_false, Bool.false_eq_true, if_false]
    | wp_step)
  exact hq
end
section
variable {prog : Program} {w : World} {A : Around} {E : Value → Shared → Prop} {R : Result → Shared → Prop} {h : Heap} {g : Array GenState} {d : Drawn} {t : Nat} {os : OsState}
variable {nm q : Str} {C N : Addr} {bs tail : List Value} {hd : Bool} {sn : List Str} {sub : List Value} {ab : Bool} {col : Option Bool} {dd : Option Addr} {k0 k1 k2 k3 k5 : Option Value} {B newId i : String}
theorem newRun (X : ExB B newId i tail) {rest : List Value} {kw : List (Str × Value)} (hC : h.get? C = some (excClassObj nm q C N bs tail hd sn sub ab col dd k0 k1 k2 k3 k5 newId))
    (hq : R (.ok (.ret (.ref (h.objs.size + 1)))) ⟨(h.push (PySem.W.kdv_tup rest)).push (excO C h.objs.size), g, d, t, os⟩) (hz : rest.length ≤ sizeLine) :
    codeAny (model prog w) A (.builtin newId ⟨.ref C :: rest, kw⟩) R ⟨h, g, d, t, os⟩ := by
  obtain ⟨BN, iN, bmN, FN, hN⟩ := X.FN
  have hends := FN.ends
  have c1 : (Value.ref C :: tail).contains (.type BN) = true := by rw [List.contains_cons, hN, Bool.or_true]
  have c2 : (Value.ref C :: tail).contains (.type "AttributeError") = false := by rw [List.contains_cons, X.nA] <;> rfl
  have c3 : (Value.ref C :: tail).contains (.type "NameError") = false := by rw [List.contains_cons, X.nN] <;> rfl
  refine codeAny_builtinAt FN.entry ?_
  unfold Builtin.«BaseException.__new__»
  refine _root_.PySem.wpAt_bind ?_
  show _root_.PySem.wpAt _ _ _ (stack >>= _) _ _ _
  refine _root_.PySem.wpAt_bind (_root_.PySem.wpAt_stack fun p below => _root_.PySem.wpAt_of_wpAny ?_)
  wp_walk
  refine _root_.PySem.wpAt_of_wpAny ?_
  rw [FN.owner]
  repeat (first
    | with_reducible refine wpAny_madeHere_exc FN.canon hC ?_
    | with_reducible refine wpAny_loadPart_at hC ?_
    | (with_reducible refine wpAny_isSubtype_exc hC ?_; first | rw [c1] | rw [c2] | rw [c3])
    | wp_step)
  show R _ _
  rw [Heap.size_push]
  exact hq
theorem typeCallRun (X : ExB B newId i tail) {rest : List Value} {kw : List (Str × Value)} {fI : Addr} {Q : Fin → Shared → Prop} (hC : h.get? C = some (excClassObj nm q C N bs tail hd sn sub ab col dd k0 k1 k2 k3 k5 newId))
    (hi : PySem.W.Looks (model prog w) h (typeLookup (.ref C) "__init__") (some (.ref fI))) (hb : ∀ self, PySem.W.Looks (model prog w) h (bindSpecial (.ref fI) self) (.ref fI, [self])) (hz : rest.length ≤ sizeLine)
    (hq : codeAny (model prog w) A (.call (.ref fI) ⟨.ref (h.objs.size + 1) :: rest, kw⟩)
      (fun r s' => match r with | .ok (.ret v) => v = .none ∧ Q (.done (.ret (.ref (h.objs.size + 1)))) s' | .ok _ => False | .error e => E e s')
      ⟨(h.push (PySem.W.kdv_tup rest)).push (excO C h.objs.size), g, d, t, os⟩) :
    wpAny (model prog w) A (Builtin.«type.__call__» ⟨.ref C :: rest, kw⟩) Q E ⟨h, g, d, t, os⟩ := by
  obtain ⟨BN, iN, bmN, FN, hN⟩ := X.FN
  repeat (first
    | with_reducible refine wpAny_loadPart_at hC ?_
    | with_reducible refine wpAny_madeBy_exc hC ?_
    | wp_step)
  refine codeAny_call_builtin_code (Code.quiet_builtin _ FN.quiet) (newCheck X hC ?_)
  refine newRun X hC ?_ hz
  show wpAny _ _ _ _ _ _
  have k : ∀ b o, h.get? b = some o → ((h.push (PySem.W.kdv_tup rest)).push (excO C h.objs.size)).get? b = some o := fun b o e => Heap.get?_push_of_some _ (Heap.get?_push_of_some _ e)
  have hC1 := k _ _ hC
  have hget : ((h.push (PySem.W.kdv_tup rest)).push (excO C h.objs.size)).get? (h.objs.size + 1) = some (excO C h.objs.size) := by heap_get
  have cC : (Value.ref C :: tail).contains (.ref C) = true := by simp
  have i1 := hi.keeps k
  have b1 := (hb (.ref (h.objs.size + 1))).keeps k
  unfold isInstance
  repeat (first
    | with_reducible refine wpAny_loadPart_at hget ?_
    | (with_reducible refine wpAny_isSubtype_exc hC1 ?_; rw [cC])
    | wp_step)
  show wpAny _ _ (typeLookup (.ref C) _) _ _ _
  refine i1.at ?_
  refine wpAny_holding (wpAny_bind (b1.at ?_))
  refine wpAny_bind (wpAny_call (codeAny_mono hq fun r s' z => ?_))
  rcases r with e | (v | _ | _ | _) <;> first | exact z | exact z.elim | skip
  obtain ⟨rfl, z⟩ := z
  first
    | exact wpAny_pure (wpAny_pure z)
    | (wp_walk; exact z)
theorem clsCallRun (X : ExB B newId i tail) {rest : List Value} {kw : List (Str × Value)} {fI : Addr} (hC : h.get? C = some (excClassObj nm q C N bs tail hd sn sub ab col dd k0 k1 k2 k3 k5 newId))
    (hi : PySem.W.Looks (model prog w) h (typeLookup (.ref C) "__init__") (some (.ref fI))) (hb : ∀ self, PySem.W.Looks (model prog w) h (bindSpecial (.ref fI) self) (.ref fI, [self])) (hz : rest.length ≤ sizeLine)
    (hq : codeAny (model prog w) (A.under (.builtin "type.__call__" ⟨.ref C :: rest, kw⟩)) (.call (.ref fI) ⟨.ref (h.objs.size + 1) :: rest, kw⟩) (PySem.W.InitBack (h.objs.size + 1) R)
      ⟨(h.push (PySem.W.kdv_tup rest)).push (excO C h.objs.size), g, d, t, os⟩) :
    codeAny (model prog w) A (.call (.ref C) ⟨rest, kw⟩) R ⟨h, g, d, t, os⟩ := by
  have f1 := tc_lookup
  have f2 := tc_bind (.ref C)
  have hTy : (⟨h, g, d, t, os⟩ : Shared).TypeIs (.ref C) "type" := ⟨_, hC, rfl⟩
  refine codeAny_of_tree ?_
  show wpAny _ _ (callAny (.ref C) _) _ _ _
  repeat (any_goals (first | assumption | with_reducible refine wpAny_loadPart_at hC ?_ | wp_step))
  refine ⟨rfl, ?_⟩
  refine codeAny_call_builtin_at (Code.quiet_builtin _ (by decide +kernel)) entry_typeCall ?_
  have f3 := tc_sub
  have go : wpAny (model prog w) (A.under (.builtin "type.__call__" ⟨.ref C :: rest, kw⟩)) (Builtin.«type.__call__» ⟨.ref C :: rest, kw⟩) (fun fin s' => match fin with
    | .done f => R (.ok f) s'
    | .again c' => c'.quiet = true ∧ codeAny (model prog w) A c' R s') (fun e s' => R (.error e) s') ⟨h, g, d, t, os⟩ := by
    refine typeCallRun X hC hi hb hz (codeAny_mono hq fun r s' z => ?_)
    rcases r with e | (v | _ | _ | _) <;> exact z
  simp only [checkBuiltinCall, tc_kind, tc_split]
  repeat (any_goals (first | assumption | with_reducible refine wpAny_loadPart_at hC ?_ | with_reducible refine wpAny_onRaise ?_ | with_reducible refine wpAny_map ?_ | wp_step))
end
end TL
namespace TL
open PySem PySem.Spec L2
open PySem.HandSPX (excO)
open PySem.W (ksEnv ksFn)

structure ExcK (prog : Program) (K : PySem.W.Frag) (newId : String) (tail : List Value) (C fI : Addr) (name qual : Str) (params : Arguments) (body : List Stmt) (scope : Scope) : Prop where
  cls : ∃ nm q N bs sn sub ab col dd k0 k1 k2 k3 k5, K.lookup C = some (excClassObj nm q C N bs tail true sn sub ab col dd k0 k1 k2 k3 k5 newId)
  fn : ∃ oc od kV doc pm an cda ct cc osl, K.lookup fI = some ⟨oc, od, .func (ksFn name qual params body scope .none kV doc pm an (.ref cda) ct cc), osl⟩ ∧ PySem.W.codeIn K (.ref cda) qual = true ∧
    (∃ ccl cdd vs ccs file tf, K.lookup cda = some ⟨ccl, cdd, .fields vs, ccs⟩ ∧ vs[2]? = some (.str file tf) ∧ ((prog.main.file : Str) == file) = true) ∧ ∃ cl cld csl, K.lookup cc = some ⟨cl, cld, .cell (some (.ref C)), csl⟩
  init : PySem.W.findIn K (.ref C) "__init__" = some (some (.ref fI))
  tI : PySem.W.typeIn K (.ref fI) = some (.type "function")
  sa : PySem.W.findIn K (.ref C) "__setattr__" = some (some (.builtin "object.__setattr__"))
  any : PySem.W.nsIn K cStatics "thirdparty.any" = some none
  top : (prog.main.scope.names.lookup ("super" : Str)).isSome = false
  kC : PySem.W.keepIn K (.ref C) = true
  tyC : PySem.W.typeIn K (.ref C) = some (.type "type")

/-- the ground: the heap ahead of the making -/
structure IG (K : PySem.W.Frag) (h0 : Heap) : Prop where
  kin : K.In h0
  glob : ∃ mg, h0.Ns mainGlobals mg ∧ mg "super" = none
  blt : ∃ mb, h0.Ns builtinsNs mb ∧ mb "super" = some (.type "super")
  lim : h0.NoLimit
/-- within the __init__ -/
structure IS (h0 h : Heap) (C e L : Addr) (m : Str → Option Value) (dv : Option Addr) : Prop where
  keep : ∀ b o, h0.get? b = some o → h.get? b = some o
  ns : h.Ns L m
  at_ : ∃ t1, h.get? e = some { cls := .ref C, dict := dv, data := .fields #[.ref t1, .none, .none, .none, .bool false, .none] }
  e0 : h0.get? e = none
  l0 : h0.get? L = none
  ne : L ≠ e
  dict : ∀ d, dv = some d → h0.get? d = none ∧ d ≠ L ∧ d ≠ e
theorem IS.push {h0 h : Heap} {C e L : Addr} {m : Str → Option Value} {dv : Option Addr} (S : IS h0 h C e L m dv) {h' : Heap} (k : ∀ b o, h.get? b = some o → h'.get? b = some o) : IS h0 h' C e L m dv := by
  obtain ⟨o, es, ep, ho, r⟩ := S.ns
  obtain ⟨t1, ht⟩ := S.at_
  exact ⟨fun b o q => k b o (S.keep b o q), ⟨o, es, ep, k _ _ ho, r⟩, ⟨t1, k _ _ ht⟩, S.e0, S.l0, S.ne, S.dict⟩

section
variable {prog : Program} {w : World} {A : Around} {E : Value → Shared → Prop} {R : Result → Shared → Prop} {h h0 : Heap} {g : Array GenState} {d : Drawn} {t : Nat} {os : OsState}
variable {nm q : Str} {C N : Addr} {bs tail : List Value} {hd : Bool} {sn : List Str} {sub : List Value} {ab : Bool} {col : Option Bool} {dd : Option Addr} {k0 k1 k2 k3 k5 : Option Value} {B newId i : String}
theorem mwCall (X : ExB B newId i tail) {u e t0 : Addr} {rest : List Value} {Q : Value → Shared → Prop} (hC : h.get? C = some (excClassObj nm q C N bs tail hd sn sub ab col dd k0 k1 k2 k3 k5 newId)) (he : h.get? e = some (excO C t0)) (hu : h.get? u = some (PySem.W.kxs_mw i e))
    (hz : rest.length ≤ sizeLine) (hq : ∀ h' t1, (∀ b o, b ≠ e → h.get? b = some o → h'.get? b = some o) → h'.get? e = some (excO C t1) → Q .none ⟨h', g, d, t, os⟩) :
    wpAny (model prog w) A (call (.ref u) rest) Q E ⟨h, g, d, t, os⟩ := by
  have chk : ∀ {Q : Unit → Shared → Prop} {A : Around} {E : Value → Shared → Prop}, Q () ⟨h, g, d, t, os⟩ → wpAny (model prog w) A (checkBoundCall i ⟨.ref e :: rest, []⟩) Q E ⟨h, g, d, t, os⟩ := by
    intro Q A E hq
    have c1 := X.star
    simp only [checkBoundCall, X.kind, X.row]
    repeat (first
      | (with_reducible refine wpAny_loadPart_at he ?_)
      | with_reducible refine wpAny_loadPart_at hC ?_
      | wp_step)
    refine wpAny_onRaise ?_
    rw [show ∀ (a b : String) (n : Nat), Bind.check ⟨.positional, "*", B, .self, [⟨"args", .varPos, false⟩]⟩ a b n (List.map (fun x => x.fst) ({ pos := Value.ref e :: rest } : Args).kw) = pure () from
      fun a b n => check_star_args _ _ _ _ _ _]
    exact wpAny_pure hq
  refine wpAny_call (codeAny_of_tree ?_)
  show wpAny _ A.in1 (callAny (.ref u) ⟨rest, []⟩) _ _ _
  simp only [callAny]
  refine wpAny_bind (wpAny_load hu ?_)
  simp only [PySem.W.kxs_mw, show (Value.type "method-wrapper" == Value.type "method" || Value.type "method-wrapper" == Value.type "builtin_function_or_method" || Value.type "method-wrapper" == Value.type "method-wrapper") = true by decide, if_true]
  refine PySem.W.KFB.if_so (by decide) ?_
  refine wpAny_bind (chk ?_)
  refine wpAny_bind (wpAny_pure (wpAny_pure ?_))
  refine ⟨plainId_quiet X.plain _, codeAny_builtin X.entry ?_⟩
  exact PySem.W.exc_init_tree (cls := .ref C) (t0 := t0) (dv := none) (c2 := .none) (c3 := .none) (b4 := .bool false) he hz fun h' k e' _ => hq h' _ k e'

variable {K : PySem.W.Frag} {fI e L : Addr} {name qual : Str} {params : Arguments} {body : List Stmt} {scope : Scope} {m : Str → Option Value}
/-- super().__init__(names) -/
theorem supInit (X : ExB B newId i tail) (T : ExcK prog K newId tail C fI name qual params body scope) {cda cc : Addr} (G : IG K h0) (S : IS h0 h C e L m none) {ar : Arg} {rest : List Stmt} {c : Code} {args : List Expr} {ws : List Value} {p0 p1 p2 p3 p4 : Pos} {Q : Flow → Shared → Prop}
    {oc od dV kV doc pm an ct osl} (hf : K.lookup fI = some ⟨oc, od, .func (ksFn name qual params body scope dV kV doc pm an (.ref cda) ct cc), osl⟩) (hcode : ∃ ccl cdd vs ccs file tf, K.lookup cda = some ⟨ccl, cdd, .fields vs, ccs⟩ ∧ vs[2]? = some (.str file tf) ∧ ((prog.main.file : Str) == file) = true)
    (hcell : ∃ cl cld csl, K.lookup cc = some ⟨cl, cld, .cell (some (.ref C)), csl⟩) (hp : (params.posonlyargs ++ params.args).head? = some ar) (hv : m ar.arg = some (.ref e)) (hks : scope.names.lookup ("super" : Str) = some .globalImplicit) (hkc : scope.names.lookup ("__class__" : Str) = some .free)
    (hka : scope.names.lookup ar.arg = some .local) (hk : scope.kind = .function) (hz : ws.length ≤ sizeLine)
    (ha : ∀ (s : Shared) (Q : List Value → Shared → Prop), s.heap.Ns L m → Q ws s → wpAny (model prog w) A (spliced (backTo p3 (starEach args (ksEnv qual scope L fI (.ref cda) cc)))) Q E s)
    (h1 : ∃ e1 r1, args = e1 :: r1 ∧ starEach args (ksEnv qual scope L fI (.ref cda) cc) = (false, eval e1 (ksEnv qual scope L fI (.ref cda) cc)) :: starEach r1 (ksEnv qual scope L fI (.ref cda) cc) ∧ (backTo p3 (starEach r1 (ksEnv qual scope L fI (.ref cda) cc))).any (·.1) = false)
    (hev : ∃ pl, eval (.Call (.Attribute (.Call (.Name "super" p0) [] [] p1) "__init__" p2) args [] p3) (ksEnv qual scope L fI (.ref cda) cc) = (do
      let ov ← attributeBase (.Call (.Name "super" p0) [] [] p1) "__init__" (ksEnv qual scope L fI (.ref cda) cc) (eval (.Call (.Name "super" p0) [] [] p1) (ksEnv qual scope L fI (.ref cda) cc))
      standAt p2.atName
      let (f, first) ← holding [ov] (getMethod ov "__init__" pl)
      callWith p3 f first (backTo p3 (starEach args (ksEnv qual scope L fI (.ref cda) cc))) []))
    (hin : interactive (ksEnv qual scope L fI (.ref cda) cc) = false) (hsw : swapsWith (.Call (.Attribute (.Call (.Name "super" p0) [] [] p1) "__init__" p2) args [] p3) none p4.line (ksEnv qual scope L fI (.ref cda) cc) = pure false)
    (hq : ∀ h' tk, IS h0 h' C e L m none → _root_.PySem.wpAt (model prog w) A (.func body (ksEnv qual scope L fI (.ref cda) cc)) (execs rest (ksEnv qual scope L fI (.ref cda) cc)) Q E ⟨h', g, d, tk, os⟩) :
    _root_.PySem.wpAt (model prog w) A (.func body (ksEnv qual scope L fI (.ref cda) cc)) (execs (.Expr (.Call (.Attribute (.Call (.Name "super" p0) [] [] p1) "__init__" p2) args [] p3) p4 :: rest) (ksEnv qual scope L fI (.ref cda) cc)) Q E ⟨h, g, d, t, os⟩ := by
  obtain ⟨nm, q, N, bs, sn, sub, ab, col, dd, k0, k1, k2, k3, k5, hCK⟩ := T.cls
  obtain ⟨ccl, cdd, vs, ccs, file, tf, hcd, hvs, hfile⟩ := hcode
  obtain ⟨cl, cld, csl, hcl⟩ := hcell
  obtain ⟨e1, r1, rfl, hst, hpl⟩ := h1
  obtain ⟨pl, hev⟩ := hev
  obtain ⟨mg, hG, hms⟩ := G.glob
  obtain ⟨mb, hB, hmb⟩ := G.blt
  have KX : K.In h := fun b o z => S.keep b o (G.kin b o z)
  have hCh := KX _ _ hCK
  obtain ⟨t1, het⟩ := S.at_
  refine ks_wpAt_execs_cons (ks_wpAt_Expr_any (ks_wpAt_MethodCall (pl := pl) ?_ hev) hin hsw)
  refine ks_wpAt_super_base (env := ksEnv qual scope L fI (.ref cda) cc) hks hkc (by decide +kernel) rfl (KX _ _ hf) rfl hp rfl (KX _ _ hcd) rfl hvs hfile T.top ?_
  refine PySem.W.ks_loadName_global hk hks (Calls.loadGlobal_builtin (env := ksEnv qual scope L fI (.ref cda) cc) (hG.at fun o z => S.keep _ o z) hms (hB.at fun o z => S.keep _ o z) hmb ⟨rfl, ?_⟩)
  refine wpAny_loadName_free hk hkc rfl ⟨_, KX _ _ hcl, rfl⟩ ?_
  refine wpAny_loadName_local hk hka S.ns hv ?_
  refine ks_wpAny_isType_cls hCh rfl ⟨rfl, ?_⟩
  refine ks_wpAny_call_super hCh rfl het rfl (fun c z => by cases z) ?_ fun ha1 hso k1 => ?_
  · exact PySem.W.looks_mroIn KX (by unfold PySem.W.mroIn PySem.W.clsIn; rw [hCK] <;> simp)
  have S1 := S.push k1
  have KX1 : K.In ha1 := fun b o z => k1 b o (KX b o z)
  have hCe : e ≠ C := fun z => by
    have y := G.kin _ _ hCK
    rw [← z, S.e0] at y
    cases y
  have he1 := k1 _ _ het
  have isB : PySem.W.Looks (model prog w) ha1 (isInstance (.ref e) (.type B)) true := by
    have I : PySem.W.InstAt ha1 e _ C none := ⟨he1, rfl, rfl, trivial⟩
    refine I.type.andThen (PySem.W.looks_mroIn KX1 ?_)
    unfold PySem.W.mroIn PySem.W.clsIn
    rw [hCK]
    show (if List.isEmpty (Value.ref C :: tail) = true then none else some ((Value.ref C :: tail).contains (.type B))) = some true
    rw [if_neg (by simp), List.contains_cons, X.hasB, Bool.or_true]
  refine PySem.W.kxs_getMethod X.KF hso (PySem.W.looks_opaque KX1 T.any) (l₀ := .ref C :: tail) (l := tail) ?_ (by simp [List.dropWhile_cons]) KX1 (X.along K) isB hCe (by decide +kernel) ?_
  · have cI : PySem.W.clsIn K C = some { name := nm, bases := bs, mro := .ref C :: tail, ns := N, qualname := q, hasDict := true, slotNames := sn, subclasses := sub, abstract := ab, collection := col, hasDel := false } := by unfold PySem.W.clsIn; rw [hCK] <;> rfl
    exact fun A Q E s k q => wpAny_bind ((PySem.W.looks_clsIn KX1 cI) A _ E s k (wpAny_pure q))
  have S2 := S1.push (h' := ha1.push (PySem.W.kxs_mw i e)) fun b o z => Heap.get?_push_of_some _ z
  refine PySem.W.kxs_callWith (i := i) (x := e) (by rw [hst]; show (false || (backTo p3 (starEach r1 (ksEnv qual scope L fI (.ref cda) cc))).any (·.1)) = false; rw [hpl] <;> rfl) ?_
  have hsp := ha ⟨ha1.push (PySem.W.kxs_mw i e), g, d, t + 1, os⟩
  rw [hst] at hsp ⊢
  refine Calls.evalArgs_plain (hsp _ S2.ns ⟨Heap.get?_push_at rfl rfl, ?_⟩)
  obtain ⟨t2, he2⟩ := S2.at_
  refine mwCall X (S2.keep _ _ (G.kin _ _ hCK)) he2 (Heap.get?_push_at rfl rfl) hz fun h' t3 k3 e3 => ?_
  refine hq h' (t + 1) ⟨fun b o z => k3 b o (fun y => by rw [y, S.e0] at z; cases z) (S2.keep b o z), ?_, ⟨t3, e3⟩, S.e0, S.l0, S.ne, S.dict⟩
  obtain ⟨o, es, ep, ho, r⟩ := S2.ns
  exact ⟨o, es, ep, k3 _ _ S.ne ho, r⟩

/-! ### self.f = v -/
theorem osaRun {cd : ClassData} {ox : Obj} {od : Option Obj} {f : Str} {tk : Tok} {v : Value} (hpass : ∀ self, refuseLoop self "__setattr__" tail = pure ()) (hobj : tail.contains (.type "object") = true) (KX : K.In h) (I : PySem.W.InstAt h e ox C od) (hcd : PySem.W.clsIn K C = some cd) (hm : cd.mro = .ref C :: tail)
    (ha : PySem.W.findIn K (.ref C) f = some none)
    (hq : wpAny (model prog w) A.in1 (Builtin.ObjectAttr.storeInOwnDict (.ref e) (.ref C) (.str f tk) f v false)
      (fun fin s' => match fin with | .done f => R (.ok f) s' | .again c' => c'.quiet = true ∧ codeAny (model prog w) A c' R s') (fun e s' => R (.error e) s') ⟨h, g, d, t, os⟩) :
    codeAny (model prog w) A (.call (.builtin "object.__setattr__") ⟨[.ref e, .str f tk, v], []⟩) R ⟨h, g, d, t, os⟩ := by
  have SF := F.store_object
  have sub : PySem.W.Looks (model prog w) h (isInstance (.ref e) (.type "object")) true := I.type.andThen (PySem.W.looks_mroIn KX (by
    unfold PySem.W.mroIn
    rw [hcd, Option.bind_some, hm, if_neg (by simp), List.contains_cons, hobj, Bool.or_true]))
  refine codeAny_call_builtin SF.slot.plain SF.entry (@PySem.W.check_slot (model prog w) _ _ ⟨h, g, d, t, os⟩ "object.__setattr__" "object" "__setattr__" (.ref e) [.str f tk, v] [] _ SF.kind SF.split sub (SF.args (.ref e) (.str f tk) v) ?_)
  have hmr : PySem.W.Looks (model prog w) h (mroOf (.ref C)) cd.mro := (PySem.W.looks_clsIn KX hcd).andThen .now
  have L3 : PySem.W.Looks (model prog w) h (Builtin.ObjectAttr.storeTaker? none) none := .now
  rw [PySem.W.osa_eq, refuse_eq]
  refine wpAny_bind (wpAny_bind (I.type.at (wpAny_bind (hmr.at ?_))))
  rw [hm, refuseLoop_ref, hpass]
  refine wpAny_pure (wpAny_bind (I.type.at (wpAny_bind ((PySem.W.looks_findIn KX ha).at (wpAny_bind (L3.at ?_))))))
  exact hq
/-- the first field -/
theorem stNew (X : ExB B newId i tail) (T : ExcK prog K newId tail C fI name qual params body scope) (G : IG K h0) (S : IS h0 h C e L m none) {f : Str} {v : Value} {Q : Unit → Shared → Prop} (hno : PySem.W.findIn K (.ref C) f = some none)
    (hq : ∀ h' tk dx, IS h0 h' C e L m (some dx) → h'.Ns1 dx (fun y => if y = f then some v else none) → Q () ⟨h', g, d, tk, os⟩) : wpAny (model prog w) A (setAttr (.ref e) f v) Q E ⟨h, g, d, t, os⟩ := by
  obtain ⟨nm, q, N, bs, sn, sub, ab, col, dd, k0, k1, k2, k3, k5, hCK⟩ := T.cls
  have KX : K.In h := fun b o z => S.keep b o (G.kin b o z)
  obtain ⟨t1, he⟩ := S.at_
  have I : PySem.W.InstAt h e { cls := .ref C, data := .fields #[.ref t1, .none, .none, .none, .bool false, .none] } C none := ⟨he, rfl, rfl, trivial⟩
  have cI : PySem.W.clsIn K C = some { name := nm, bases := bs, mro := .ref C :: tail, ns := N, qualname := q, hasDict := true, slotNames := sn, subclasses := sub, abstract := ab, collection := col, hasDel := false } := by unfold PySem.W.clsIn; rw [hCK] <;> rfl
  refine PySem.W.set_plain KX I T.sa ?_
  refine osaRun X.pass X.obj KX I cI rfl hno ?_
  have hcls : PySem.W.Looks (model prog w) h (classData C) _ := PySem.W.looks_clsIn KX cI
  have hxs : e ≠ h.objs.size := Nat.ne_of_lt (Heap.lt_size he)
  unfold Builtin.ObjectAttr.storeInOwnDict Builtin.ObjectAttr.ownDictForStores
  repeat (first | with_reducible refine PySem.HandSPX.store_in_new ?_ ?_ | with_reducible refine wpAny_loadPart_at he ?_ | with_reducible refine hcls.at ?_ | wp_step)
  · exact ⟨_, #[], _, (Heap.get?_update_ne _ _ _ _ hxs.symm).trans (Heap.get?_push_at rfl rfl), rfl, fun e he => absurd he (by simp), fun _ => rfl⟩
  · intro h' tk' hn' hs
    have hx1 : (h.push { cls := .type "dict", data := .dict #[] }).get? e = some { cls := .ref C, data := .fields #[.ref t1, .none, .none, .none, .bool false, .none] } := Heap.get?_push_of_some _ he
    have k : ∀ b o, b ≠ e → h.get? b = some o → h'.get? b = some o := fun b o hb ho => (hs.2 b (Nat.ne_of_lt (Heap.lt_size ho))).trans ((Heap.get?_update_ne _ _ _ _ hb).trans (Heap.get?_push_of_some _ ho))
    have hx : h'.get? e = some { cls := .ref C, dict := some h.objs.size, data := .fields #[.ref t1, .none, .none, .none, .bool false, .none] } := (hs.2 e hxs).trans (Heap.get?_update_self _ hx1 rfl)
    have fresh : ∀ {b o}, h.get? b = some o → b ≠ h.objs.size := fun ho => Nat.ne_of_lt (Heap.lt_size ho)
    obtain ⟨oL, es, ep, hL, rL⟩ := S.ns
    refine hq h' tk' h.objs.size ⟨fun b o z => k b o (fun y => by rw [y, S.e0] at z; cases z) (S.keep b o z), ⟨oL, es, ep, k _ _ S.ne hL, rL⟩, ⟨t1, hx⟩, S.e0, S.l0, S.ne, fun dx z => ?_⟩ hn'
    cases z
    refine ⟨?_, (fresh hL).symm, hxs.symm⟩
    cases z : h0.get? h.objs.size with
    | none => rfl
    | some o => exact absurd (Heap.lt_size (S.keep _ _ z)) (Nat.lt_irrefl _)
/-- a further field -/
theorem stOld {dx : Addr} {m0 : Str → Option Value} {nl : List Str} (X : ExB B newId i tail) (T : ExcK prog K newId tail C fI name qual params body scope) (G : IG K h0) (S : IS h0 h C e L m (some dx)) (hns : h.Ns1 dx m0) (hw : Within m0 nl) (hz : nl.length ≤ 1000) {f : Str} {v : Value} {Q : Unit → Shared → Prop} (hno : PySem.W.findIn K (.ref C) f = some none)
    (hq : ∀ h' tk, IS h0 h' C e L m (some dx) → h'.Ns1 dx (fun y => if y = f then some v else m0 y) → Q () ⟨h', g, d, tk, os⟩) : wpAny (model prog w) A (setAttr (.ref e) f v) Q E ⟨h, g, d, t, os⟩ := by
  obtain ⟨nm, q, N, bs, sn, sub, ab, col, dd, k0, k1, k2, k3, k5, hCK⟩ := T.cls
  have KX : K.In h := fun b o z => S.keep b o (G.kin b o z)
  obtain ⟨t1, he⟩ := S.at_
  obtain ⟨d0, dL, de⟩ := S.dict dx rfl
  obtain ⟨oD, esD, epD, hoD, hdD, _⟩ := hns.count hw
  have I : PySem.W.InstAt h e { cls := .ref C, dict := some dx, data := .fields #[.ref t1, .none, .none, .none, .bool false, .none] } C (some oD) := ⟨he, rfl, rfl, hoD⟩
  have cI : PySem.W.clsIn K C = some { name := nm, bases := bs, mro := .ref C :: tail, ns := N, qualname := q, hasDict := true, slotNames := sn, subclasses := sub, abstract := ab, collection := col, hasDel := false } := by unfold PySem.W.clsIn; rw [hCK] <;> rfl
  refine PySem.W.set_plain KX I T.sa ?_
  refine osaRun X.pass X.obj KX I cI rfl hno ?_
  have hcls : PySem.W.Looks (model prog w) h (classData C) _ := PySem.W.looks_clsIn KX cI
  unfold Builtin.ObjectAttr.storeInOwnDict Builtin.ObjectAttr.ownDictForStores
  repeat (first | with_reducible refine PySem.ESX.store_in_old hns hw hz ?_ | with_reducible refine wpAny_loadPart_at he ?_ | with_reducible refine hcls.at ?_ | wp_step)
  intro h' tk' hn' hs
  have k : ∀ b o, b ≠ dx → h.get? b = some o → h'.get? b = some o := fun b o hb ho => (hs.2 b hb).trans ho
  obtain ⟨oL, es, ep, hL, rL⟩ := S.ns
  exact hq h' tk' ⟨fun b o z => k b o (fun y => by rw [y, d0] at z; cases z) (S.keep b o z), ⟨oL, es, ep, k _ _ dL.symm hL, rL⟩, ⟨t1, k _ _ de.symm he⟩, S.e0, S.l0, S.ne, S.dict⟩ hn'
end
end TL
namespace TL
open PySem PySem.Spec L2
open PySem.HandSPX (excO)
open PySem.W (ksEnv ksFn)

def supSt (args : List Expr) (p0 p1 p2 p3 p4 : Pos) : Stmt := .Expr (.Call (.Attribute (.Call (.Name "super" p0) [] [] p1) "__init__" p2) args [] p3) p4
def setSt (sf f v : Str) (p0 p1 p2 p3 : Pos) : Stmt := .Assign [.Attribute (.Name sf p0) f p1] (.Name v p2) p3
section
variable {prog : Program} {w : World} {A : Around} {E : Value → Shared → Prop} {R : Result → Shared → Prop} {h h0 : Heap} {g : Array GenState} {d : Drawn} {t : Nat} {os : OsState}
variable {tail : List Value} {B newId i : String} {K : PySem.W.Frag} {C fI e : Addr} {name qual : Str} {params : Arguments} {scope : Scope} {sf v f v1 v2 f1 f2 : Str} {u u1 u2 : Value}
/-- how super().__init__(..) evaluates: seen by rfl -/
def SupEv (qual : Str) (scope : Scope) (fI : Addr) (args : List Expr) (p0 p1 p2 p3 : Pos) : Prop := ∀ L cda cc : Addr, ∃ pl, eval (.Call (.Attribute (.Call (.Name "super" p0) [] [] p1) "__init__" p2) args [] p3) (ksEnv qual scope L fI (.ref cda) cc) = (do
  let ov ← attributeBase (.Call (.Name "super" p0) [] [] p1) "__init__" (ksEnv qual scope L fI (.ref cda) cc) (eval (.Call (.Name "super" p0) [] [] p1) (ksEnv qual scope L fI (.ref cda) cc))
  standAt p2.atName
  let (f, first) ← holding [ov] (getMethod ov "__init__" pl)
  callWith p3 f first (backTo p3 (starEach args (ksEnv qual scope L fI (.ref cda) cc))) [])
/-- what is seen of the scope -/
structure ISc (scope : Scope) (sf : Str) (vs : List Str) : Prop where
  sup : scope.names.lookup ("super" : Str) = some .globalImplicit
  cls : scope.names.lookup ("__class__" : Str) = some .free
  loc : ∀ x ∈ sf :: vs, scope.names.lookup x = some .local ∧ (x == ("__debug__" : Str)) = false
  kind : scope.kind = .function
  co : scope.isCoroutine = false
  gen : scope.isGenerator = false
  nocell : ∀ x ∈ scope.names, x.2 ≠ .cell
theorem nameAt {L cc cda : Addr} {m : Str → Option Value} {x : Str} {p : Pos} {z : Value} {s : Shared} {Q : Value → Shared → Prop} (hl : scope.names.lookup x = some .local) (hd : (x == ("__debug__" : Str)) = false) (hk : scope.kind = .function) (hn : s.heap.Ns L m) (hv : m x = some z) (h : Q z s) :
    wpAny (model prog w) A (eval (.Name x p) (ksEnv qual scope L fI (.ref cda) cc)) Q E s := wpAny_Name (wpAny_loadName_local hk hl hn hv h) hd
theorem initRun1 {p0 p1 p2 p3 p4 q0 r0 r1 r2 r3 : Pos} (X : ExB B newId i tail) (T : ExcK prog K newId tail C fI name qual params [supSt [.Name v q0] p0 p1 p2 p3 p4, setSt sf f v r0 r1 r2 r3] scope) (G : IG K h0) (sc : ISc scope sf [v]) (hne : sf ≠ v) {ar : Arg} (hp : (params.posonlyargs ++ params.args).head? = some ar) (hself : ar.arg = sf)
    (hno : PySem.W.findIn K (.ref C) f = some none) (keep : ∀ b o, h0.get? b = some o → h.get? b = some o) (le : h0.objs.size ≤ h.objs.size) {t0 : Addr} (he : h.get? e = some (excO C t0)) (e0 : h0.get? e = none) (hroom : A.depth < recursionLimit) (hev : SupEv qual scope fI [.Name v q0] p0 p1 p2 p3) {args : Args}
    (hb : ∀ fd : FuncData, fd.params = params → fd.defaults = .none → BindsTo ⟨h, g, d, t, os⟩ fd args [(sf, .ref e), (v, u)])
    (hq : ∀ h' tk dx, (∀ b o, h0.get? b = some o → h'.get? b = some o) → h0.get? dx = none → dx ≠ e → (∃ t1, h'.get? e = some { cls := .ref C, dict := some dx, data := .fields #[.ref t1, .none, .none, .none, .bool false, .none] }) → h'.Ns1 dx (fun y => if y = f then some u else none) → R (.ok (.ret .none)) ⟨h', g, d, tk, os⟩) :
    codeAny (model prog w) A (.call (.ref fI) args) R ⟨h, g, d, t, os⟩ := by
  obtain ⟨oc, od, kV, doc, pm, an, cda, ct, cc, osl, hf, hcd, hcode, hcell⟩ := T.fn
  have KX : K.In h := fun b o z => keep b o (G.kin b o z)
  refine ks_codeAny_call_defAt hroom (KX _ _ hf) rfl (G.lim.keeps keep) (PySem.W.codeRec_of KX hcd) rfl (hb _ rfl rfl) sc.nocell (fun x hx => ?_) (fun h1 hns hk1 => ?_) sc.co sc.gen sc.kind
  · simp only [List.mem_cons, List.not_mem_nil, or_false] at hx
    rcases hx with rfl | rfl
    · exact (sc.loc sf (by simp)).1
    · exact (sc.loc v (by simp)).1
  have hv1 : (fun x => [(sf, Value.ref e), (v, u)].reverse.lookup x) sf = some (.ref e) := by
    have z : (sf == v) = false := by simpa using hne
    simp [List.lookup, z]
  have hv2 : (fun x => [(sf, Value.ref e), (v, u)].reverse.lookup x) v = some u := by simp [List.lookup]
  have L0 : h0.get? h.objs.size = none := by
    cases z : h0.get? h.objs.size with
    | none => rfl
    | some o => exact absurd (Nat.lt_of_lt_of_le (Heap.lt_size z) le) (Nat.lt_irrefl _)
  have S0 : IS h0 h1 C e h.objs.size (fun x => [(sf, Value.ref e), (v, u)].reverse.lookup x) none :=
    ⟨fun b o z => hk1 b o (keep b o z), hns, ⟨t0, hk1 _ _ he⟩, e0, L0, Ne.symm (Nat.ne_of_lt (Heap.lt_size he)), fun dx z => by cases z⟩
  have l1 := sc.loc sf (by simp)
  have l2 := sc.loc v (by simp)
  refine supInit X T G S0 (c := .func [] (ksEnv qual scope h.objs.size fI (.ref cda) cc)) (ws := [u]) hf hcode hcell hp (by rw [hself]; exact hv1) sc.sup sc.cls (by rw [hself]; exact l1.1) sc.kind (by show 1 ≤ sizeLine; rw [sizeLine_eq]; decide) (fun s Q hn q => ?_) ⟨_, _, rfl, rfl, rfl⟩ (hev _ _ _) (by unfold interactive; rw [show (ksEnv qual scope h.objs.size fI (.ref cda) cc).scope.kind = .function from sc.kind] <;> rfl) rfl fun h2 tk S2 => ?_
  · exact Calls.spliced_cons (nameAt l2.1 l2.2 sc.kind hn hv2 (Calls.spliced_nil q))
  refine ks_wpAt_execs_cons (ks_wpAt_Assign_Attr (_root_.PySem.wpAt_of_wpAny (nameAt l2.1 l2.2 sc.kind S2.ns hv2 (nameAt l1.1 l1.2 sc.kind S2.ns hv1 (stNew X T G S2 hno fun h3 tk3 dx S3 hn3 => ?_)))) rfl)
  show _root_.PySem.wpAt _ _ _ (execs [] _) _ _ _
  have fin := hq h3 tk3 dx S3.keep (S3.dict dx rfl).1 (S3.dict dx rfl).2.2 S3.at_ hn3
  first
    | exact _root_.PySem.wpAt_of_wpAny (wpAny_pure fin)
    | exact _root_.PySem.wpAt_of_wpAny (wpAny_execs_nil fin)
theorem initRun2 {p0 p1 p2 p3 p4 q0 q1 r0 r1 r2 r3 o0 o1 o2 o3 : Pos} (X : ExB B newId i tail) (T : ExcK prog K newId tail C fI name qual params [supSt [.Name v1 q0, .Name v2 q1] p0 p1 p2 p3 p4, setSt sf f1 v1 r0 r1 r2 r3, setSt sf f2 v2 o0 o1 o2 o3] scope) (G : IG K h0) (sc : ISc scope sf [v1, v2]) (n1 : sf ≠ v1) (n2 : sf ≠ v2) (n3 : v1 ≠ v2)
    {ar : Arg} (hp : (params.posonlyargs ++ params.args).head? = some ar) (hself : ar.arg = sf) (hno1 : PySem.W.findIn K (.ref C) f1 = some none) (hno2 : PySem.W.findIn K (.ref C) f2 = some none) (keep : ∀ b o, h0.get? b = some o → h.get? b = some o) (le : h0.objs.size ≤ h.objs.size) {t0 : Addr} (he : h.get? e = some (excO C t0)) (e0 : h0.get? e = none)
    (hroom : A.depth < recursionLimit) (hev : SupEv qual scope fI [.Name v1 q0, .Name v2 q1] p0 p1 p2 p3) {args : Args} (hb : ∀ fd : FuncData, fd.params = params → fd.defaults = .none → BindsTo ⟨h, g, d, t, os⟩ fd args [(sf, .ref e), (v1, u1), (v2, u2)])
    (hq : ∀ h' tk dx, (∀ b o, h0.get? b = some o → h'.get? b = some o) → h0.get? dx = none → dx ≠ e → (∃ t1, h'.get? e = some { cls := .ref C, dict := some dx, data := .fields #[.ref t1, .none, .none, .none, .bool false, .none] }) → h'.Ns1 dx (fun y => if y = f2 then some u2 else if y = f1 then some u1 else none) → R (.ok (.ret .none)) ⟨h', g, d, tk, os⟩) :
    codeAny (model prog w) A (.call (.ref fI) args) R ⟨h, g, d, t, os⟩ := by
  obtain ⟨oc, od, kV, doc, pm, an, cda, ct, cc, osl, hf, hcd, hcode, hcell⟩ := T.fn
  have KX : K.In h := fun b o z => keep b o (G.kin b o z)
  have l0 := sc.loc sf (by simp)
  have l1 := sc.loc v1 (by simp)
  have l2 := sc.loc v2 (by simp)
  refine ks_codeAny_call_defAt hroom (KX _ _ hf) rfl (G.lim.keeps keep) (PySem.W.codeRec_of KX hcd) rfl (hb _ rfl rfl) sc.nocell (fun x hx => ?_) (fun h1 hns hk1 => ?_) sc.co sc.gen sc.kind
  · simp only [List.mem_cons, List.not_mem_nil, or_false] at hx
    rcases hx with rfl | rfl | rfl
    · exact l0.1
    · exact l1.1
    · exact l2.1
  have z1 : (sf == v1) = false := by simpa using n1
  have z2 : (sf == v2) = false := by simpa using n2
  have z3 : (v1 == v2) = false := by simpa using n3
  have hv0 : (fun x => [(sf, Value.ref e), (v1, u1), (v2, u2)].reverse.lookup x) sf = some (.ref e) := by simp [List.lookup, z1, z2]
  have hv1 : (fun x => [(sf, Value.ref e), (v1, u1), (v2, u2)].reverse.lookup x) v1 = some u1 := by simp [List.lookup, z3]
  have hv2 : (fun x => [(sf, Value.ref e), (v1, u1), (v2, u2)].reverse.lookup x) v2 = some u2 := by simp [List.lookup]
  have L0 : h0.get? h.objs.size = none := by
    cases z : h0.get? h.objs.size with
    | none => rfl
    | some o => exact absurd (Nat.lt_of_lt_of_le (Heap.lt_size z) le) (Nat.lt_irrefl _)
  have S0 : IS h0 h1 C e h.objs.size (fun x => [(sf, Value.ref e), (v1, u1), (v2, u2)].reverse.lookup x) none :=
    ⟨fun b o z => hk1 b o (keep b o z), hns, ⟨t0, hk1 _ _ he⟩, e0, L0, Ne.symm (Nat.ne_of_lt (Heap.lt_size he)), fun dx z => by cases z⟩
  refine supInit X T G S0 (c := .func [] (ksEnv qual scope h.objs.size fI (.ref cda) cc)) (ws := [u1, u2]) hf hcode hcell hp (by rw [hself]; exact hv0) sc.sup sc.cls (by rw [hself]; exact l0.1) sc.kind (by show 2 ≤ sizeLine; rw [sizeLine_eq]; decide) (fun s Q hn q => ?_) ⟨_, _, rfl, rfl, rfl⟩ (hev _ _ _)
    (by unfold interactive; rw [show (ksEnv qual scope h.objs.size fI (.ref cda) cc).scope.kind = .function from sc.kind] <;> rfl) rfl fun h2 tk S2 => ?_
  · exact Calls.spliced_cons (nameAt l1.1 l1.2 sc.kind hn hv1 (Calls.spliced_cons (nameAt l2.1 l2.2 sc.kind hn hv2 (Calls.spliced_nil q))))
  refine ks_wpAt_execs_cons (ks_wpAt_Assign_Attr (_root_.PySem.wpAt_of_wpAny (nameAt l1.1 l1.2 sc.kind S2.ns hv1 (nameAt l0.1 l0.2 sc.kind S2.ns hv0 (stNew X T G S2 hno1 fun h3 tk3 dx S3 hn3 => ?_)))) rfl)
  show _root_.PySem.wpAt _ _ _ (execs [_] _) _ _ _
  refine ks_wpAt_execs_cons (ks_wpAt_Assign_Attr (_root_.PySem.wpAt_of_wpAny (nameAt l2.1 l2.2 sc.kind S3.ns hv2 (nameAt l0.1 l0.2 sc.kind S3.ns hv0 (stOld X T G S3 hn3 (nl := [f1]) (fun y hy => ?_) (by show 1 ≤ 1000; decide) hno2 fun h4 tk4 S4 hn4 => ?_)))) rfl)
  · by_cases z : y = f1
    · rw [z]
      exact List.mem_singleton_self _
    · exact absurd (if_neg z) hy
  show _root_.PySem.wpAt _ _ _ (execs [] _) _ _ _
  exact _root_.PySem.wpAt_of_wpAny (wpAny_pure (hq h4 tk4 dx S4.keep (S4.dict dx rfl).1 (S4.dict dx rfl).2.2 S4.at_ hn4))
end
end TL
namespace TL
open PySem PySem.Spec PyProof.Rows L2
open PySem.HandSPX (excO)

theorem IG.of {X : Cx} {pins : List (Addr × Obj)} {σ : L2.St} {H : Hp} {s : Shared} (I : Inv X pins σ H s) (hs : X.mg "super" = none) : IG X.K s.heap := by
  obtain ⟨mb, h1, h2⟩ := I.mod.blt
  exact ⟨I.kIn, ⟨X.mg, I.mod.glob.keeps I.bk, hs⟩, ⟨mb, h1.keeps I.bk, (h2 _ (by decide)).trans (by decide +kernel)⟩, I.nolimit⟩
theorem exF_ok {P : Program} {w : World} {H : Hp} {h : Heap} {C e : Addr} {d : Option Addr} {t1 : Addr} (he : h.get? e = some { cls := .ref C, dict := d, data := .fields #[.ref t1, .none, .none, .none, .bool false, .none] }) : ObjOk P w H h e (ExF C d e) :=
  ⟨⟨_, _, he, ⟨rfl, rfl⟩, rfl, rfl, rfl, (show 4 < 6 by decide)⟩, ⟨_, he⟩, fun h1 h2 ⟨o, v, q, r⟩ k => ⟨o, v, k o q, r⟩⟩
section
variable {X : Cx} {pins : List (Addr × Obj)} {σ : L2.St} {H : Hp} {s : Shared}
/-- two new objects are laid and tracked: a dict of an exception, the exception -/
theorem _root_.L2.Inv.laidX {h' : Heap} {e dx C : Addr} {fs : List (Str × V)} {mA : Str → Option Value} {t' : Nat} {t1 : Addr} (I : Inv X pins σ H s) (k : ∀ b u, s.heap.get? b = some u → h'.get? b = some u) (he : s.heap.get? e = none) (hd : s.heap.get? dx = none) (ne : dx ≠ e)
    (oe : h'.get? e = some { cls := .ref C, dict := some dx, data := .fields #[.ref t1, .none, .none, .none, .bool false, .none] }) (od : h'.Ns1 dx mA) (rel : ∀ f, RelO (fs.lookup f) (mA f)) : Inv X pins σ (upd (upd H dx (.xd fs)) e (ExF C (some dx) e)) { s with heap := h', toks := t' } := by
  have he0 := I.hok.gone he
  have hd0 := I.hok.gone hd
  have ne1 : ∀ {b o}, s.heap.get? b = some o → b ≠ e := fun {b o} z y => by rw [y, he] at z; cases z
  have ne2 : ∀ {b o}, s.heap.get? b = some o → b ≠ dx := fun {b o} z y => by rw [y, hd] at z; cases z
  have he1 : upd H dx (.xd fs) e = none := by rw [upd_ne ne.symm]; exact he0
  have tr : ∀ {b o}, H b = some o → upd (upd H dx (.xd fs)) e (ExF C (some dx) e) b = some o := fun {b o} z => by
    rw [upd_ne (ne_of_none z he0), upd_ne (ne_of_none z hd0)]
    exact z
  refine I.un (t' := t') ⟨fun b u q _ _ _ => k b u q, fun b u q _ _ _ => ⟨u.slots, k b u q⟩, fun b u q n _ => ?_, fun b u q _ => ⟨u, k b u q⟩, fun b xs q => tr q, fun b u xs q => tr q, fun b ps q => ⟨#[], by rw [tr q]; simp⟩⟩ fun b o q => ?_
  · rw [upd_ne (ne1 q), upd_ne (ne2 q)]
    exact n
  · by_cases hb : b = e
    · subst hb
      rw [upd_same] at q
      cases q
      exact exF_ok oe
    · rw [upd_ne hb] at q
      by_cases hbd : b = dx
      · subst hbd
        rw [upd_same] at q
        cases q
        exact ⟨mA, od, rel⟩
      · rw [upd_ne hbd] at q
        exact (I.hok b o q).stay (fun c u _ z => k c u z) (fun c z => tr z) fun c xs z => tr z
/-- one new exception, no dict -/
theorem _root_.L2.Inv.laidE {h' : Heap} {e C : Addr} {t' : Nat} {t1 : Addr} (I : Inv X pins σ H s) (k : ∀ b u, s.heap.get? b = some u → h'.get? b = some u) (he : s.heap.get? e = none) (oe : h'.get? e = some { cls := .ref C, data := .fields #[.ref t1, .none, .none, .none, .bool false, .none] }) :
    Inv X pins σ (upd H e (ExF C none e)) { s with heap := h', toks := t' } := I.laidN k he (I.hok.gone he) (exF_ok oe)
variable {tail : List Value} {B newId i : String} {C fI : Addr} {name qual : Str} {params : Arguments} {scope : Scope} {body : List Stmt}
theorem mkCall (X1 : ExB B newId i tail) (T : ExcK X.prog X.K newId tail C fI name qual params body scope) (I : Inv X pins σ H s) {us : List Value} {kw : List (Str × Value)} {fs : List (Str × V)} {mA : Str → Option Value} {Q : VK} (hz : us.length ≤ sizeLine) (hroom : ∀ us kw, (X.A.under (.builtin "type.__call__" ⟨.ref C :: us, kw⟩)).depth < recursionLimit)
    (rel : ∀ f, RelO (fs.lookup f) (mA f))
    (hrun : ∀ (A' : Around) (h : Heap) (e t0 : Addr) (R : Result → Shared → Prop), A'.depth < recursionLimit → (∀ b o, s.heap.get? b = some o → h.get? b = some o) → s.heap.objs.size ≤ h.objs.size → h.get? e = some (excO C t0) → s.heap.get? e = none →
      (∀ h' tk dx, (∀ b o, s.heap.get? b = some o → h'.get? b = some o) → s.heap.get? dx = none → dx ≠ e → (∃ t1, h'.get? e = some { cls := .ref C, dict := some dx, data := .fields #[.ref t1, .none, .none, .none, .bool false, .none] }) → h'.Ns1 dx mA → R (.ok (.ret .none)) { s with heap := h', toks := tk }) →
      codeAny (model X.prog X.w) A' (.call (.ref fI) ⟨.ref e :: us, kw⟩) R { s with heap := h })
    (hq : ∀ e dx, H e = none → H dx = none → dx ≠ e → Q (.ref e) (upd (upd H dx (.xd fs)) e (ExF C (some dx) e))) : wpAny (model X.prog X.w) X.A (call (.ref C) us kw) (EP X pins σ Q) X.xe s := by
  obtain ⟨nm, q, N, bs, sn, sub, ab, col, dd, k0, k1, k2, k3, k5, hCK⟩ := T.cls
  obtain ⟨hp, g, dr, tk, os⟩ := s
  have e0 : hp.get? (hp.objs.size + 1) = none := by
    cases z : hp.get? (hp.objs.size + 1) with
    | none => rfl
    | some o => exact absurd (Heap.lt_size z) (Nat.not_lt.mpr (Nat.le_succ _))
  refine wpAny_call (clsCallRun X1 (I.kIn _ _ hCK) (PySem.W.looks_findIn I.kIn T.init) (fun self => PySem.W.bind_fn I.kIn self T.tI) hz ?_)
  refine hrun _ _ (hp.objs.size + 1) hp.objs.size _ (hroom _ _) (fun b o e => Heap.get?_push_of_some _ (Heap.get?_push_of_some _ e)) (Nat.le_trans (Nat.le_succ _) (Nat.le_trans (Nat.le_succ _) (Nat.le_of_eq (by rw [Heap.size_push, Heap.size_push])))) (by heap_get) e0 fun h' tk' dx k d0 dne he hn => ?_
  obtain ⟨t1, he⟩ := he
  exact ⟨rfl, .ref (hp.objs.size + 1), _, I.laidX k e0 d0 dne he hn rel, rfl, hq _ _ (I.hok.gone e0) (I.hok.gone d0) dne⟩
def mk0 (C : Str) : List D → Eta → Res D := fun ds η => match ds with
  | [] => some (.ok (.exc C []), η)
  | _ => none
def mk1 (C : Str) (f : Str) : List D → Eta → Res D := fun ds η => match ds with
  | [d] => some (.ok (.exc C [(f, d)]), η)
  | _ => none
def mk2 (C : Str) (f1 f2 : Str) : List D → Eta → Res D := fun ds η => match ds with
  | [d1, d2] => some (.ok (.exc C [(f1, d1), (f2, d2)]), η)
  | _ => none
def mk2r (C : Str) (f1 f2 : Str) : List D → Eta → Res D := fun ds η => match ds with
  | [d2, d1] => some (.ok (.exc C [(f1, d1), (f2, d2)]), η)
  | _ => none
theorem mk1_inv {x f : Str} {ds : List D} {η : Eta} {r : Out D × Eta} (h : mk1 x f ds η = some r) : ∃ d, ds = [d] ∧ r = (.ok (.exc x [(f, d)]), η) := by
  unfold mk1 at h
  split at h
  · exact ⟨_, rfl, (Option.some.inj h).symm⟩
  · cases h
theorem mk2_inv {x f1 f2 : Str} {ds : List D} {η : Eta} {r : Out D × Eta} (h : mk2 x f1 f2 ds η = some r) : ∃ d1 d2, ds = [d1, d2] ∧ r = (.ok (.exc x [(f1, d1), (f2, d2)]), η) := by
  unfold mk2 at h
  split at h
  · exact ⟨_, _, rfl, (Option.some.inj h).symm⟩
  · cases h
theorem mk2r_inv {x f1 f2 : Str} {ds : List D} {η : Eta} {r : Out D × Eta} (h : mk2r x f1 f2 ds η = some r) : ∃ d2 d1, ds = [d2, d1] ∧ r = (.ok (.exc x [(f1, d1), (f2, d2)]), η) := by
  unfold mk2r at h
  split at h
  · exact ⟨_, _, rfl, (Option.some.inj h).symm⟩
  · cases h
theorem rel1 {f : Str} {v : V} {u : Value} (r : RelV v u) (y : Str) : RelO ([(f, v)].lookup y) (if y = f then some u else none) := relO_put (fs := []) (mA := fun _ => none) r (fun _ => True.intro) y
theorem rel2 {f1 f2 : Str} {v1 v2 : V} {u1 u2 : Value} (n : f1 ≠ f2) (r1 : RelV v1 u1) (r2 : RelV v2 u2) (y : Str) : RelO ([(f1, v1), (f2, v2)].lookup y) (if y = f2 then some u2 else if y = f1 then some u1 else none) := by
  rw [lookup_put, lookup_put]
  by_cases h1 : y = f1
  · subst h1
    rw [if_pos rfl, if_neg n, if_pos rfl]
    exact r1
  · rw [if_neg h1]
    by_cases h2 : y = f2
    · rw [if_pos h2, if_pos h2]
      exact r2
    · rw [if_neg h2, if_neg h2, if_neg h1]
      exact True.intro
/-- the new exception as a tree -/
theorem Sim.exc {K : PySem.W.Frag} {Cg : Gr} {oas : List (Option Addr)} {m : List Addr} {ρ : Rho} {η : Eta} {σ : L2.St} {H : Hp} {x : Str} {e dx : Addr} {fs : List (Str × D)} {ws : List (Str × V)} (S : Sim K Cg oas m ρ η σ H) (hx : xcB K x (fs.map (·.1)) = true) (h1 : H e = none) (h2 : H dx = none) (ne : dx ≠ e) (r : RpF K (MuOf Cg oas m) m H fs ws) :
    ExtF H (upd (upd H dx (.xd ws)) e (ExF (He.ga K x) (some dx) e)) ∧ Rp K (MuOf Cg oas m) m (upd (upd H dx (.xd ws)) e (ExF (He.ga K x) (some dx) e)) (.exc x fs) (.ref e) := by
  have e1 : upd H dx (.xd ws) e = none := by rw [upd_ne ne.symm]; exact h1
  have xx : ExtF H (upd (upd H dx (.xd ws)) e (ExF (He.ga K x) (some dx) e)) := (ExtF.new h2).trans (.new e1)
  exact ⟨xx, hx, e, rfl, S.trk.new h1, .inr ⟨dx, ws, S.trk.new h2, upd_same, by rw [upd_ne ne]; exact upd_same, r.keep (.ext xx)⟩⟩
variable {cn : Str} {W : WX} {k : Nat} {sf v f v1 v2 f1 f2 : Str} {p0 p1 p2 p3 p4 q0 q1 r0 r1 r2 r3 o0 o1 o2 o3 : Pos}
structure Bd1 (params : Arguments) (sf v : Str) (kws : List Str) : Prop where
  ar : ∃ ar, (params.posonlyargs ++ params.args).head? = some ar ∧ ar.arg = sf
  bd : ∀ (fd : FuncData) (e : Addr) (u : Value), fd.params = params → fd.defaults = .none → match kws with
    | [] => bindArgs fd ⟨[.ref e, u], []⟩ = pure [(sf, .ref e), (v, u)]
    | [k] => bindArgs fd ⟨[.ref e], [(k, u)]⟩ = pure [(sf, .ref e), (v, u)]
    | _ => False
/-- C(x), C(v = x) -/
theorem cs1 (X1 : ExB B newId i tail) (hx : xcB X.K cn [f] = true) (T : ExcK X.prog X.K newId tail (He.ga X.K cn) fI name qual params [supSt [.Name v q0] p0 p1 p2 p3 p4, setSt sf f v r0 r1 r2 r3] scope) (sc : ISc scope sf [v]) (hne : sf ≠ v) (hno : PySem.W.findIn X.K (.ref (He.ga X.K cn)) f = some none) (hev : SupEv qual scope fI [.Name v q0] p0 p1 p2 p3)
    (hs : X.mg "super" = none) (hr : RoomG (k + 1) X.A) {kws : List Str} (hb : Bd1 params sf v kws) : CallS X (.ref (He.ga X.K cn)) kws (rM X.K W (mk1 cn f)) := by
  intro pins s σ H xs zs us ws Q I rx rz hk h
  obtain ⟨Cg, oas, m, ρ, η, ds, r, S, R, e, P⟩ := h
  obtain ⟨d, rfl, rfl⟩ := mk1_inv e
  obtain ⟨ar, ha1, ha2⟩ := hb.ar
  have fin : ∀ (y : V) (u : Value), RelV y u → Rp X.K (MuOf Cg oas m) m H d y → ∀ (us : List Value) (kw : List (Str × Value)), us.length ≤ 1 → (∀ (fd : FuncData) (e : Addr), fd.params = params → fd.defaults = .none → bindArgs fd ⟨.ref e :: us, kw⟩ = pure [(sf, .ref e), (v, u)]) →
      wpAny (model X.prog X.w) X.A (call (.ref (He.ga X.K cn)) us kw) (EP X pins σ Q) X.xe s := by
    intro y u ry rd us kw hl hbd
    refine mkCall X1 T I (fs := [(f, y)]) (mA := fun z => if z = f then some u else none) (Nat.le_trans hl (by rw [sizeLine_eq]; decide)) (fun us kw => (hr.r.make (He.ga X.K cn) us kw).depth) (rel1 ry) (fun A' h e t0 R hd k le he e0 hq => ?_) fun e dx n1 n2 ne => ?_
    · exact initRun1 X1 T (.of I hs) sc hne ha1 ha2 hno k le he e0 hd hev (fun fd hp hd => .of_eq (hbd fd e hp hd)) fun h' tk dx k2 d0 dne he' hn => hq h' tk dx k2 d0 dne he' hn
    · obtain ⟨x, rp⟩ := S.exc (x := cn) (fs := [(f, d)]) hx n1 n2 ne (show RpF X.K (MuOf Cg oas m) m H [(f, d)] [(f, y)] from ⟨y, [], rfl, rd, rfl⟩)
      exact P.ok (.ext x) (S.ext x) rp
  obtain ⟨y, hy, rd⟩ := R.one
  have hb2 := hb.bd
  cases kws with
  | nil =>
    have hw : ws = [] := List.eq_nil_of_length_eq_zero hk
    subst hw
    cases rz
    rw [List.append_nil] at hy
    subst hy
    obtain ⟨u, rfl, ru⟩ := vals1 rx
    exact fin y u ru rd [u] [] (Nat.le_refl _) fun fd e hp hd => hb2 fd e u hp hd
  | cons k0 t =>
    cases t with
    | nil =>
      cases ws with
      | nil => cases hk
      | cons w0 w1 =>
        have hw : w1 = [] := List.eq_nil_of_length_eq_zero (Nat.succ.inj hk)
        subst hw
        cases rz with
        | @cons z0 _ zt _ rw0 rw1 =>
          cases rw1
          have hx : xs = [] := by
            cases xs with
            | nil => rfl
            | cons a b =>
              have z := congrArg List.length hy
              simp at z
          subst hx
          cases rx
          cases hy
          exact fin _ w0 rw0 rd [] [(k0, w0)] (Nat.zero_le _) fun fd e hp hd => hb2 fd e w0 hp hd
    | cons k1 t2 => exact (hb2 { name := "", qualname := "", params := params, body := .stmts [], scope := scope, globals := 0, closure := [], defaults := .none, kwdefaults := .none, doc := .none, pyModule := .none, annotations := none, code := .none, closureTuple := .none, builtins := 0 } 0 .none rfl rfl).elim
structure Bd2 (params : Arguments) (sf v1 v2 : Str) : Prop where
  ar : ∃ ar, (params.posonlyargs ++ params.args).head? = some ar ∧ ar.arg = sf
  bp : ∀ (fd : FuncData) (e : Addr) (u1 u2 : Value), fd.params = params → fd.defaults = .none → bindArgs fd ⟨[.ref e, u1, u2], []⟩ = pure [(sf, .ref e), (v1, u1), (v2, u2)]
  br : ∀ (fd : FuncData) (e : Addr) (u1 u2 : Value), fd.params = params → fd.defaults = .none → bindArgs fd ⟨[.ref e], [(v2, u2), (v1, u1)]⟩ = pure [(sf, .ref e), (v1, u1), (v2, u2)]
theorem fin2 (X1 : ExB B newId i tail) (hx : xcB X.K cn [f1, f2] = true) (T : ExcK X.prog X.K newId tail (He.ga X.K cn) fI name qual params [supSt [.Name v1 q0, .Name v2 q1] p0 p1 p2 p3 p4, setSt sf f1 v1 r0 r1 r2 r3, setSt sf f2 v2 o0 o1 o2 o3] scope) (sc : ISc scope sf [v1, v2]) (n1 : sf ≠ v1) (n2 : sf ≠ v2) (n3 : v1 ≠ v2) (nf : f1 ≠ f2)
    (hno1 : PySem.W.findIn X.K (.ref (He.ga X.K cn)) f1 = some none) (hno2 : PySem.W.findIn X.K (.ref (He.ga X.K cn)) f2 = some none) (hev : SupEv qual scope fI [.Name v1 q0, .Name v2 q1] p0 p1 p2 p3) (hs : X.mg "super" = none) (hr : RoomG (k + 1) X.A) (ha : ∃ ar, (params.posonlyargs ++ params.args).head? = some ar ∧ ar.arg = sf)
    {Cg : Gr} {oas : List (Option Addr)} {m : List Addr} {ρ : Rho} {η : Eta} {Q : VK} {d1 d2 : D} (I : Inv X pins σ H s) (S : Sim X.K Cg oas m ρ η σ H) (P : PostG Rp X.K W Cg oas m ρ σ H Q (.ok (.exc cn [(f1, d1), (f2, d2)]), η)) {y1 y2 : V} {u1 u2 : Value} (ry1 : RelV y1 u1) (ry2 : RelV y2 u2)
    (rd1 : Rp X.K (MuOf Cg oas m) m H d1 y1) (rd2 : Rp X.K (MuOf Cg oas m) m H d2 y2) {us : List Value} {kw : List (Str × Value)} (hl : us.length ≤ 2) (hbd : ∀ (fd : FuncData) (e : Addr), fd.params = params → fd.defaults = .none → bindArgs fd ⟨.ref e :: us, kw⟩ = pure [(sf, .ref e), (v1, u1), (v2, u2)]) :
    wpAny (model X.prog X.w) X.A (call (.ref (He.ga X.K cn)) us kw) (EP X pins σ Q) X.xe s := by
  obtain ⟨ar, ha1, ha2⟩ := ha
  refine mkCall X1 T I (fs := [(f1, y1), (f2, y2)]) (mA := fun z => if z = f2 then some u2 else if z = f1 then some u1 else none) (Nat.le_trans hl (by rw [sizeLine_eq]; decide)) (fun us kw => (hr.r.make (He.ga X.K cn) us kw).depth) (rel2 nf ry1 ry2) (fun A' h e t0 R hd k le he e0 hq => ?_) fun e dx z1 z2 ne => ?_
  · exact initRun2 X1 T (.of I hs) sc n1 n2 n3 ha1 ha2 hno1 hno2 k le he e0 hd hev (fun fd hp hd => .of_eq (hbd fd e hp hd)) fun h' tk dx k2 d0 dne he' hn => hq h' tk dx k2 d0 dne he' hn
  · obtain ⟨x, rp⟩ := S.exc (x := cn) (fs := [(f1, d1), (f2, d2)]) hx z1 z2 ne (show RpF X.K (MuOf Cg oas m) m H [(f1, d1), (f2, d2)] [(f1, y1), (f2, y2)] from ⟨y1, _, rfl, rd1, y2, [], rfl, rd2, rfl⟩)
    exact P.ok (.ext x) (S.ext x) rp
/-- C(x, y) -/
theorem cs2 (X1 : ExB B newId i tail) (hx : xcB X.K cn [f1, f2] = true) (T : ExcK X.prog X.K newId tail (He.ga X.K cn) fI name qual params [supSt [.Name v1 q0, .Name v2 q1] p0 p1 p2 p3 p4, setSt sf f1 v1 r0 r1 r2 r3, setSt sf f2 v2 o0 o1 o2 o3] scope) (sc : ISc scope sf [v1, v2]) (n1 : sf ≠ v1) (n2 : sf ≠ v2) (n3 : v1 ≠ v2) (nf : f1 ≠ f2)
    (hno1 : PySem.W.findIn X.K (.ref (He.ga X.K cn)) f1 = some none) (hno2 : PySem.W.findIn X.K (.ref (He.ga X.K cn)) f2 = some none) (hev : SupEv qual scope fI [.Name v1 q0, .Name v2 q1] p0 p1 p2 p3) (hs : X.mg "super" = none) (hr : RoomG (k + 1) X.A) (hb : Bd2 params sf v1 v2) : CallS X (.ref (He.ga X.K cn)) [] (rM X.K W (mk2 cn f1 f2)) := by
  intro pins s σ H xs zs us ws Q I rx rz hk h
  obtain ⟨Cg, oas, m, ρ, η, ds, r, S, R, e, P⟩ := h
  obtain ⟨d1, d2, rfl, rfl⟩ := mk2_inv e
  obtain ⟨y1, y2, hy, rd1, rd2⟩ := R.two
  have hw : ws = [] := List.eq_nil_of_length_eq_zero hk
  subst hw
  cases rz
  rw [List.append_nil] at hy
  subst hy
  obtain ⟨u1, u2, rfl, ru1, ru2⟩ := vals2 rx
  exact fin2 X1 hx T sc n1 n2 n3 nf hno1 hno2 hev hs hr hb.ar I S P ru1 ru2 rd1 rd2 (us := [u1, u2]) (kw := []) (Nat.le_refl _) fun fd e hp hd => hb.bp fd e u1 u2 hp hd
/-- C(v2 = y, v1 = x) -/
theorem cs2r (X1 : ExB B newId i tail) (hx : xcB X.K cn [f1, f2] = true) (T : ExcK X.prog X.K newId tail (He.ga X.K cn) fI name qual params [supSt [.Name v1 q0, .Name v2 q1] p0 p1 p2 p3 p4, setSt sf f1 v1 r0 r1 r2 r3, setSt sf f2 v2 o0 o1 o2 o3] scope) (sc : ISc scope sf [v1, v2]) (n1 : sf ≠ v1) (n2 : sf ≠ v2) (n3 : v1 ≠ v2) (nf : f1 ≠ f2)
    (hno1 : PySem.W.findIn X.K (.ref (He.ga X.K cn)) f1 = some none) (hno2 : PySem.W.findIn X.K (.ref (He.ga X.K cn)) f2 = some none) (hev : SupEv qual scope fI [.Name v1 q0, .Name v2 q1] p0 p1 p2 p3) (hs : X.mg "super" = none) (hr : RoomG (k + 1) X.A) (hb : Bd2 params sf v1 v2) : CallS X (.ref (He.ga X.K cn)) [v2, v1] (rM X.K W (mk2r cn f1 f2)) := by
  intro pins s σ H xs zs us ws Q I rx rz hk h
  obtain ⟨Cg, oas, m, ρ, η, ds, r, S, R, e, P⟩ := h
  obtain ⟨d2, d1, rfl, rfl⟩ := mk2r_inv e
  obtain ⟨y2, y1, hy, rd2, rd1⟩ := R.two
  have hz := rz.length
  have hx : xs = [] := by
    have z := congrArg List.length hy
    rw [List.length_append, hz, hk] at z
    exact List.eq_nil_of_length_eq_zero (by simpa using z)
  subst hx
  cases rx
  rw [List.nil_append] at hy
  subst hy
  obtain ⟨u2, u1, rfl, ru2, ru1⟩ := vals2 rz
  exact fin2 X1 hx T sc n1 n2 n3 nf hno1 hno2 hev hs hr hb.ar I S P ru1 ru2 rd1 rd2 (us := []) (kw := [(v2, u2), (v1, u1)]) (Nat.zero_le _) fun fd e hp hd => hb.br fd e u1 u2 hp hd
/-- C(), no __init__ of its own -/
theorem cs0 {bmB : List Value} (F : ExcBaseFacts B newId i bmB) (hx : xcB X.K cn [] = true) (q : PySem.W.excIn X.K (He.ga X.K cn) bmB newId = true) : CallS X (.ref (He.ga X.K cn)) [] (rM X.K W (mk0 cn)) := by
  intro pins s σ H xs zs us ws Q I rx rz hk h
  obtain ⟨Cg, oas, m, ρ, η, ds, r, S, R, e, P⟩ := h
  unfold mk0 at e
  split at e
  · cases e
    have hxs : xs ++ zs = [] := R
    obtain ⟨rfl, rfl⟩ := List.append_eq_nil_iff.mp hxs
    cases rx
    have hw : ws = [] := List.eq_nil_of_length_eq_zero hk
    subst hw
    obtain ⟨bm, N, nm, qn, bs, hdct, sn, sub, ab, col, dd, k0, k1, k2, k3, k5, mN, hC, hN, hni, T⟩ := exc_obj I.kIn q
    show wpAny _ _ (call (.ref (He.ga X.K cn)) []) _ _ _
    refine wpAny_call_exc_subT F T hC hN hni (fun h' a hm => ?_) (Nat.zero_le _)
    obtain ⟨t, ht, _, _⟩ := hm.there
    have hn : H a = none := I.hok.gone hm.new
    refine ⟨.ref a, _, I.laidE hm.keeps hm.new ht, rfl, P.ok (.ext (.new hn)) (S.ext (.new hn)) ?_⟩
    exact ⟨hx, a, rfl, S.trk.new hn, .inl ⟨rfl, upd_same⟩⟩
  · cases e
end
end TL
namespace TL
open PySem PySem.Spec PyProof.Rows L2

def gAt (f : Str) : D → Option D
  | .exc _ fs => fs.lookup f
  | _ => none
/-- the exception classes and their built-in bases -/
abbrev ClsT : Type := List (Str × List String)
def kitB (n : String) : Bool := PySem.W.kitMeta n
def gIsi (cs : ClsT) : D → D → Option D
  | .exc x _, .cls y => (match cs.lookup x, cs.lookup y with
    | some _, some _ => some (.bl (decide (x = y)))
    | _, _ => none)
  | .exc x _, .ty n => (match cs.lookup x with
    | some t => if kitB n = true then some (.bl (t.contains n)) else none
    | none => none)
  | _, _ => none
/-- what the written part says of these classes -/
def isiB1 (K : PySem.W.Frag) (p : Str × List String) : Bool := exqB K (He.ga K p.1) && (decide (PySem.W.typeIn K (.ref (He.ga K p.1)) = some (.type "type")) && (match PySem.W.clsIn K (He.ga K p.1) with
  | some cd => decide (cd.mro = .ref (He.ga K p.1) :: p.2.map Value.type)
  | none => false))
def isiB (K : PySem.W.Frag) (cs : ClsT) : Bool := cs.all (isiB1 K) && decide ((cs.map fun p => He.ga K p.1).Nodup)
theorem mem_lookup {α β : Type} [BEq α] [LawfulBEq α] {x : α} {y : β} : ∀ {l : List (α × β)}, l.lookup x = some y → (x, y) ∈ l
  | [], h => by cases h
  | (a, b) :: r, h => by
    rw [List.lookup_cons] at h
    split at h
    · rename_i e
      cases h
      rw [eq_of_beq e]
      exact List.mem_cons_self
    · exact List.mem_cons_of_mem _ (mem_lookup h)
theorem nodup_inj {α β : Type} {f : α → β} : ∀ {l : List α} {a b : α}, (l.map f).Nodup → a ∈ l → b ∈ l → f a = f b → a = b
  | [], _, _, _, h, _, _ => by cases h
  | c :: r, a, b, n, ha, hb, e => by
    rw [List.map_cons, List.nodup_cons] at n
    rcases List.mem_cons.mp ha with h1 | h1
    · rcases List.mem_cons.mp hb with h2 | h2
      · rw [h1, h2]
      · exact absurd (show f c ∈ r.map f from by rw [← h1, e]; exact List.mem_map_of_mem h2) n.1
    · rcases List.mem_cons.mp hb with h2 | h2
      · exact absurd (show f c ∈ r.map f from by rw [← h2, ← e]; exact List.mem_map_of_mem h1) n.1
      · exact nodup_inj n.2 h1 h2 e
theorem isi_own {K : PySem.W.Frag} {cs : ClsT} (h : isiB K cs = true) {x y : Str} {t u : List String} (hx : cs.lookup x = some t) (hy : cs.lookup y = some u) : PySem.W.kitOne K (.ref (He.ga K x)) (.ref (He.ga K y)) = some (decide (x = y)) := by
  obtain ⟨h1, h2⟩ := Bool.and_eq_true_iff.mp h
  have h2 := of_decide_eq_true h2
  have mx := mem_lookup hx
  have my := mem_lookup hy
  unfold PySem.W.kitOne
  by_cases e : x = y
  · subst e
    simp
  · have ne : He.ga K x ≠ He.ga K y := fun z => e (congrArg Prod.fst (nodup_inj (f := fun p : Str × List String => He.ga K p.1) h2 mx my z))
    obtain ⟨a1, a2⟩ := Bool.and_eq_true_iff.mp (List.all_eq_true.mp h1 _ mx)
    obtain ⟨a2, a3⟩ := Bool.and_eq_true_iff.mp a2
    obtain ⟨b1, b2⟩ := Bool.and_eq_true_iff.mp (List.all_eq_true.mp h1 _ my)
    obtain ⟨b2, b3⟩ := Bool.and_eq_true_iff.mp b2
    have ty := of_decide_eq_true b2
    have cy := (exqB_ok b1).cl
    rw [if_neg (by simpa using ne), decide_eq_false e]
    show (if ((PySem.W.clsIn K (He.ga K y)).isSome && PySem.W.typeIn K (.ref (He.ga K y)) == some (.type "type")) = true then PySem.W.subIn K (.ref (He.ga K x)) (.ref (He.ga K y)) else none) = some false
    rw [cy, ty]
    show PySem.W.mroIn K (He.ga K x) (.ref (He.ga K y)) = some false
    unfold PySem.W.mroIn
    split at a3
    · rename_i cd hcd
      have a3 := of_decide_eq_true a3
      rw [hcd, Option.bind_some, a3, if_neg (by simp)]
      simp [ne, Ne.symm ne]
    · cases a3
theorem isi_ty {K : PySem.W.Frag} {cs : ClsT} (h : isiB K cs = true) {x : Str} {t : List String} {n : String} (hx : cs.lookup x = some t) (hn : kitB n = true) : PySem.W.kitOne K (.ref (He.ga K x)) (.type n) = some (t.contains n) := by
  obtain ⟨h1, _⟩ := Bool.and_eq_true_iff.mp h
  obtain ⟨a1, a2⟩ := Bool.and_eq_true_iff.mp (List.all_eq_true.mp h1 _ (mem_lookup hx))
  obtain ⟨a2, a3⟩ := Bool.and_eq_true_iff.mp a2
  unfold PySem.W.kitOne
  rw [if_neg (by simp)]
  show (if PySem.W.kitMeta n = true then PySem.W.subIn K (.ref (He.ga K x)) (.type n) else none) = some (t.contains n)
  rw [if_pos (show PySem.W.kitMeta n = true from hn)]
  show PySem.W.mroIn K (He.ga K x) (.type n) = some (t.contains n)
  unfold PySem.W.mroIn
  split at a3
  · rename_i cd hcd
    have a3 := of_decide_eq_true a3
    rw [hcd, Option.bind_some, a3, if_neg (by simp)]
    rw [List.contains_cons]
    have e : (Value.type n == Value.ref (He.ga K x)) = false := by simp
    rw [e, Bool.false_or]
    congr 1
    rw [Bool.eq_iff_iff]
    simp
  · cases a3
section
variable {X : Cx} {pins : List (Addr × Obj)} {σ : L2.St} {H : Hp} {s : Shared} {Mu : Addr → Prop} {m : List Addr}
/-- where an exception's tree stands -/
theorem exc_at (I : Inv X pins σ H s) {C : Str} {fs : List (Str × D)} {v : V} (r : Rp X.K Mu m H (.exc C fs) v) : xcB X.K C (fs.map (·.1)) = true ∧ ∃ a oe od, v = .ref a ∧ PySem.W.InstAt s.heap a oe (He.ga X.K C) od ∧
    ((fs = [] ∧ od = none) ∨ ∃ dd ws o, od = some o ∧ H dd = some (.xd ws) ∧ RpF X.K Mu m H fs ws ∧ ∃ mA : Str → Option Value, (∀ n, PySem.W.lookIn n o = some (mA n)) ∧ ∀ f, RelO (ws.lookup f) (mA f)) := by
  obtain ⟨hx, a, rfl, n, r⟩ := r
  refine ⟨hx, ?_⟩
  clear hx
  rcases r with ⟨rfl, ha⟩ | ⟨dd, ws, nd, ha, hd, rf⟩
  · obtain ⟨⟨oe, vs, ho, hz, hv, _⟩, _, _⟩ := I.hok a _ ha
    exact ⟨a, oe, none, rfl, ⟨ho, hz.1, by unfold PySem.W.notCls; rw [hv] <;> rfl, by rw [hz.2]; trivial⟩, .inl ⟨rfl, rfl⟩⟩
  · obtain ⟨⟨oe, vs, ho, hz, hv, _⟩, _, _⟩ := I.hok a _ ha
    have hx : ObjOk X.prog X.w H s.heap dd (.xd ws) := I.hok dd _ hd
    obtain ⟨mA, hns, hr⟩ := hx
    obtain ⟨od, ho2, hl⟩ := lookIn_ns hns
    exact ⟨a, oe, some od, rfl, ⟨ho, hz.1, by unfold PySem.W.notCls; rw [hv] <;> rfl, by rw [hz.2]; exact ho2⟩, .inr ⟨dd, ws, od, rfl, hd, rf, mA, hl, hr⟩⟩
theorem RpF.look {K : PySem.W.Frag} : ∀ {fs : List (Str × D)} {ws : List (Str × V)} {f : Str} {d : D}, RpF K Mu m H fs ws → fs.lookup f = some d → ∃ v, ws.lookup f = some v ∧ Rp K Mu m H d v
  | [], _, _, _, _, e => by cases e
  | (k, x) :: t, ws, f, d, r, e => by
    obtain ⟨v, u, rfl, r1, r2⟩ := r
    rw [List.lookup_cons] at e
    split at e
    · rename_i h
      cases e
      exact ⟨v, by rw [List.lookup_cons, h], r1⟩
    · rename_i h
      obtain ⟨z, h1, h2⟩ := RpF.look r2 e
      exact ⟨z, by rw [List.lookup_cons, h]; exact h1, h2⟩
variable {W : WX} {e : Expr} {fa : EF} {pos : Pos} {f : Str}
/-- e.f of an exception -/
theorem td_at (he : PE X e (tE X.K W fa)) (hb : attributeBase e f X.env (eval e X.env) = eval e X.env := by rfl) : PE X (.Attribute e f pos) (tE X.K W (f1 (gAt f) fa)) := by
  refine ⟨fun pins s σ H Q I h => ?_⟩
  have q : tE X.K W fa σ H fun x H1 => ∃ Cg oas m ρ η d z, Sim X.K Cg oas m ρ η σ H1 ∧ Rp X.K (MuOf Cg oas m) m H1 d x ∧ gAt f d = some z ∧ ∀ v, Rp X.K (MuOf Cg oas m) m H1 z v → Q v H1 := by
    obtain ⟨C, oas, m, ρ, η, r, S, e, P⟩ := h
    refine bind_G S e P fun m1 vx H1 x η1 n1 S1 rx e1 P1 => ?_
    obtain ⟨z, hg, rfl⟩ := okO_inv e1
    exact ⟨C, oas, m1, ρ, η1, x, z, S1, rx, hg, fun v rv => P1.ok .refl S1 rv⟩
  refine attr_of hb (thn (he.run pins s σ H _ I q) fun u s1 ⟨x, H1, I1, rx, Cg, oas, m, ρ, η, d, z, S, rd, hg, fin⟩ => ?_)
  unfold gAt at hg
  split at hg
  · rename_i C fs
    obtain ⟨hB, a, oe, od, rfl, J, h⟩ := exc_at I1 rd
    obtain ⟨b1, b2⟩ := Bool.and_eq_true_iff.mp hB
    have T := exqB_ok b1
    have b3 := List.all_eq_true.mp b2 f (List.mem_map_of_mem (mem_lookup hg))
    have hno := of_decide_eq_true (Bool.and_eq_true_iff.mp b3).2
    cases rx
    rcases h with ⟨rfl, _⟩ | ⟨dd, ws, o, rfl, hd, rf, mA, hl, hr⟩
    · cases hg
    · obtain ⟨v, h1, h2⟩ := rf.look hg
      obtain ⟨u, hu, ru⟩ := RelO.some_of (v := v) (o := mA f) (by rw [← h1]; exact hr f)
      exact HandSPX.exc_get I1.kIn J T.ga T.gg T.sb (PySem.W.findObj_own T.hd hno rfl (by rw [hl, hu])) (handed_of ru) ⟨v, H1, I1.tok _, ru, fin v h2⟩
  · cases hg
/-- isinstance(e, c) of an exception -/
theorem c_isi {cs : ClsT} (hcs : isiB X.K cs = true) : CallR X (.builtin "isinstance") (rDN X.K (on2 (gIsi cs))) := by
  intro pins s σ H xs us Q I rx q
  obtain ⟨Mu, m, ds, z, t, ra, hg, P⟩ := q
  obtain ⟨d1, d2, rfl, hg0⟩ := on2_inv hg
  obtain ⟨v1, v2, rfl, r1, r2⟩ := ra.two
  obtain ⟨u1, u2, rfl, x1, x2⟩ := vals2 rx
  have go : ∀ (C : Str) (fs : List (Str × D)) (b : Bool), d1 = .exc C fs → z = .bl b → PySem.W.kitOne X.K (.ref (He.ga X.K C)) u2 = some b → wpAny (model X.prog X.w) X.A (call (.builtin "isinstance") [u1, u2]) (EP X pins σ Q) X.xe s := by
    intro C fs b e1 e2 hb
    subst e1 e2
    obtain ⟨hB, a, oe, od, rfl, J, _⟩ := exc_at I r1
    have T := exqB_ok (Bool.and_eq_true_iff.mp hB).1
    cases x1
    exact PySem.W.kia_one (PySem.W.kitx_exc T.cl T.ga T.gg T.sb T.ha T.hn T.ht T.hm) I.kIn J hb (fun z => nomatch z) fun tk => ⟨.bl b, H, I.tok tk, rfl, P _ _ (.refl _) rfl⟩
  unfold gIsi at hg0
  split at hg0
  · split at hg0
    · rename_i h1 h2
      cases hg0
      cases r2
      cases x2
      exact go _ _ _ rfl rfl (isi_own hcs h1 h2)
    · cases hg0
  · split at hg0
    · rename_i h1
      split at hg0
      · rename_i hn
        cases hg0
        cases r2
        cases x2
        exact go _ _ _ rfl rfl (isi_ty hcs h1 hn)
      · cases hg0
    · cases hg0
  · cases hg0
end
end TL
namespace TL
open PySem PySem.Spec PyProof.Rows L2

def keyP : Key → PyData
  | .inl i => .int i
  | .inr x => .str x
mutual
def toP : D → Option PyData
  | .non => some .none
  | .bl b => some (.bool b)
  | .int i => some (.int i)
  | .str x => some (.str x)
  | .lst xs => (toPs xs).map PyData.list
  | .tup xs => (toPs xs).map PyData.tuple
  | .dK kvs => (toPk kvs).map PyData.dict
  | _ => none
def toPs : List D → Option (List PyData)
  | [] => some []
  | x :: xs => match toP x, toPs xs with
    | some p, some q => some (p :: q)
    | _, _ => none
def toPk : List (Key × D) → Option (List (PyData × PyData))
  | [] => some []
  | (k, x) :: xs => match toP x, toPk xs with
    | some p, some q => some ((keyP k, p) :: q)
    | _, _ => none
end
section
variable {X : Cx} {pins : List (Addr × Obj)} {σ : L2.St} {H : Hp} {s : Shared} {Mu : Addr → Prop} {m : List Addr}
theorem no_sys (I : Inv X pins σ H s) (hS : (X.K.lookup sysModules).isSome = true) {a : Addr} {o : HO} (h : H a = some o) : a ≠ sysModules := fun z => by
  obtain ⟨ob, e⟩ := Option.isSome_iff_exists.mp hS
  have y := (I.bs _ _ (I.mod.kin _ _ e)).2
  rw [← z, h] at y
  cases y
theorem key_reads {h : Heap} {k : Key} {v : Value} (e : keyIs k v = true) : Reads h v (keyP k) [] := by
  rcases keyIs_shape e with ⟨i, t, rfl, rfl⟩ | ⟨x, t, rfl, rfl⟩
  · exact .int i t
  · exact .str x t
mutual
theorem toP_reads (I : Inv X pins σ H s) (hS : (X.K.lookup sysModules).isSome = true) : ∀ (d : D) {v : V} {u : Value} {p : PyData}, toP d = some p → Rp X.K Mu m H d v → RelV v u → ∃ as, Reads s.heap u p as ∧ sysModules ∉ as
  | .non, v, u, p, h, r, ru => by cases (show some PyData.none = some p from h); cases r; cases ru; exact ⟨_, .none, by simp⟩
  | .bl b, v, u, p, h, r, ru => by cases (show some (PyData.bool b) = some p from h); cases r; cases ru; exact ⟨_, .bool b, by simp⟩
  | .int b, v, u, p, h, r, ru => by cases (show some (PyData.int b) = some p from h); cases r; obtain ⟨t, rfl⟩ := ru; exact ⟨_, .int b t, by simp⟩
  | .str b, v, u, p, h, r, ru => by cases (show some (PyData.str b) = some p from h); cases r; obtain ⟨t, rfl⟩ := ru; exact ⟨_, .str b t, by simp⟩
  | .lst xs, v, u, p, h, r, ru => by
    obtain ⟨ps, h1, rfl⟩ := Option.map_eq_some_iff.mp (show (toPs xs).map PyData.list = some p from h)
    obtain ⟨a, vs, rfl, _, ha, r⟩ := r
    cases ru
    obtain ⟨its, rv, ⟨o, n, ho, hc, _, hd⟩, _⟩ := I.list (.of ha)
    obtain ⟨as, q, hq⟩ := toPs_reads I hS xs h1 r rv
    exact ⟨_, .list ho hc hd q, fun z => by
      rcases List.mem_cons.mp z with z | z
      · exact no_sys I hS ha z.symm
      · exact hq z⟩
  | .tup xs, v, u, p, h, r, ru => by
    obtain ⟨ps, h1, rfl⟩ := Option.map_eq_some_iff.mp (show (toPs xs).map PyData.tuple = some p from h)
    obtain ⟨a, vs, rfl, _, ha, r⟩ := r
    cases ru
    obtain ⟨its, rv, ⟨o, ho, hc, n, hd⟩, _⟩ := I.tuple (.of ha)
    obtain ⟨as, q, hq⟩ := toPs_reads I hS xs h1 r rv
    exact ⟨_, .tuple ho hc hd q, hq⟩
  | .dK kvs, v, u, p, h, r, ru => by
    obtain ⟨ps, h1, rfl⟩ := Option.map_eq_some_iff.mp (show (toPk kvs).map PyData.dict = some p from h)
    obtain ⟨a, ws, rfl, _, ha, r⟩ := r
    cases ru
    obtain ⟨z, hne, vs, rel, o, es, ep, ho, hx, hd, _, hp, _⟩ := dk_of I.hok ha
    obtain ⟨as, bs, q1, q2, n1, n2⟩ := toPk_reads I hS kvs h1 r rel hp
    refine ⟨_, .dict ho hx.1 hd q1 q2, fun z => ?_⟩
    rcases List.mem_append.mp z with z | z
    · rcases List.mem_cons.mp z with z | z
      · exact no_sys I hS ha z.symm
      · exact n1 z
    · exact n2 z
  | .arg _, _, _, _, h, _, _ => by cases (show none = some _ from h)
  | .dT _, _, _, _, h, _, _ => by cases (show none = some _ from h)
  | .ref _, _, _, _, h, _, _ => by cases (show none = some _ from h)
  | .ty _, _, _, _, h, _, _ => by cases (show none = some _ from h)
  | .cls _, _, _, _, h, _, _ => by cases (show none = some _ from h)
  | .exc _ _, _, _, _, h, _, _ => by cases (show none = some _ from h)
  | .ins _ _, _, _, _, h, _, _ => by cases (show none = some _ from h)
  | .cell _, _, _, _, h, _, _ => by cases (show none = some _ from h)
theorem toPs_reads (I : Inv X pins σ H s) (hS : (X.K.lookup sysModules).isSome = true) : ∀ (ds : List D) {vs : List V} {us : List Value} {ps : List PyData}, toPs ds = some ps → RpA X.K Mu m H ds vs → Vals vs us → ∃ as, ReadsAll s.heap us ps as ∧ sysModules ∉ as
  | [], vs, us, ps, h, r, ru => by cases (show some [] = some ps from h); cases (show vs = [] from r); cases ru; exact ⟨_, .nil, by simp⟩
  | x :: xs, vs, us, ps, h, r, ru => by
    obtain ⟨v, t, rfl, r1, r2⟩ := r
    unfold toPs at h
    split at h
    · rename_i p q h1 h2
      cases h
      cases ru with
      | cons u1 u2 =>
        obtain ⟨as, q1, n1⟩ := toP_reads I hS x h1 r1 u1
        obtain ⟨bs, q2, n2⟩ := toPs_reads I hS xs h2 r2 u2
        exact ⟨_, .cons q1 q2, fun z => (List.mem_append.mp z).elim n1 n2⟩
    · cases h
theorem toPk_reads (I : Inv X pins σ H s) (hS : (X.K.lookup sysModules).isSome = true) : ∀ (ds : List (Key × D)) {ws : List (Key × V)} {vs : List (Key × Value)} {es : List DictEntry} {ps : List (PyData × PyData)}, toPk ds = some ps → RpK X.K Mu m H ds ws → KV ws vs → Pairs (mixKind X.prog X.w) es vs →
    ∃ as bs, ReadsAll s.heap (es.map (·.key)) (ps.map (·.1)) as ∧ ReadsAll s.heap (es.map (·.val)) (ps.map (·.2)) bs ∧ sysModules ∉ as ∧ sysModules ∉ bs
  | [], ws, vs, es, ps, h, r, rk, rp => by
    cases (show some [] = some ps from h)
    cases (show ws = [] from r)
    cases rk
    cases rp
    exact ⟨_, _, .nil, .nil, by simp, by simp⟩
  | (k, x) :: xs, ws, vs, es, ps, h, r, rk, rp => by
    obtain ⟨v, t, rfl, r1, r2⟩ := r
    unfold toPk at h
    split at h
    · rename_i p q h1 h2
      cases h
      cases rk with
      | cons k1 k2 =>
        cases rp with
        | cons p1 p2 p3 =>
          obtain ⟨e1, e2⟩ := k1
          obtain ⟨as, q1, n1⟩ := toP_reads I hS x h1 r1 e2
          obtain ⟨bs, cs, q2, q3, n2, n3⟩ := toPk_reads I hS xs h2 r2 k2 p3
          rw [← p2] at q1
          have kr := key_reads (h := s.heap) (k := k) (by rw [show k = _ from e1]; exact p1)
          exact ⟨[] ++ bs, as ++ cs, .cons kr q2, .cons q1 q3, by simpa using n2, fun z => (List.mem_append.mp z).elim n1 n3⟩
    · cases h
end
def reprB (p : PyData) : Bool := p.showable && (decide (p.depth ≤ 50) && decide (p.shown.length ≤ SZ))
def isBox : D → Bool
  | .lst _ => true
  | .tup _ => true
  | .dK _ => true
  | _ => false
def gRepr : D → Option D := fun d => if isBox d = true then (match toP d with
  | some p => if reprB p = true then some (.str p.shown) else none
  | none => none) else none
theorem box_ref {K : PySem.W.Frag} {d : D} {v : V} (h : isBox d = true) (r : Rp K Mu m H d v) : ∃ a, v = .ref a := by
  cases d with
  | lst _ => obtain ⟨a, _, e, _⟩ := r; exact ⟨a, e⟩
  | tup _ => obtain ⟨a, _, e, _⟩ := r; exact ⟨a, e⟩
  | dK _ => obtain ⟨a, _, e, _⟩ := r; exact ⟨a, e⟩
  | _ => cases h
theorem c_repr (hS : (X.K.lookup sysModules).isSome = true) (hg : X.A.guards = some []) (hu : X.A.units + 64 < cLine) : CallR X (.builtin "repr") (rDN X.K (on1 gRepr)) := by
  intro pins s σ H xs us Q I rx q
  obtain ⟨Mu, m, ds, z, t, ra, hgz, P⟩ := q
  obtain ⟨d, rfl, hz⟩ := on1_inv hgz
  obtain ⟨v, rfl, rv⟩ := ra.one
  obtain ⟨u, rfl, ru⟩ := vals1 rx
  unfold gRepr at hz
  split at hz
  · rename_i hb
    split at hz
    · rename_i p hp
      split at hz
      · rename_i hr
        cases hz
        obtain ⟨a, rfl⟩ := box_ref hb rv
        cases ru
        obtain ⟨as, q1, n1⟩ := toP_reads I hS d hp rv rfl
        obtain ⟨b1, hr⟩ := Bool.and_eq_true_iff.mp hr
        obtain ⟨b2, b3⟩ := Bool.and_eq_true_iff.mp hr
        have b2 := of_decide_eq_true b2
        have b3 := of_decide_eq_true b3
        refine repr_of_reads' q1 b1 (fun _ => n1) hg (by omega) (fun _ _ e => e) (fun h' w tk k => ?_) (sz_line b3)
        exact ⟨.str p.shown, H, I.kept (t' := tk) k, ⟨w, rfl⟩, P _ _ (.refl _) rfl⟩
      · cases hz
    · cases hz
  · cases hz
end

/-! ### {}, {k: v, ..} -/
section
variable {X : Cx} {W : WX} {pos : Pos}
theorem td_d0 : PE X (.Dict [] [] pos) (tE X.K W (fC (.dK []))) := pe_dnewK.imp fun σ H Q h => by
  obtain ⟨C, oas, m, ρ, η, r, S, e, P⟩ := h
  cases e
  exact fun p hp => P.ok (.ext (.new hp)) (S.ext (.new hp)) ⟨p, [], rfl, S.trk.new hp, upd_same, rfl⟩
def gD1 (k : Key) : D → Option D := fun d => some (.dK [(k, d)])
/-- {'k': e} -/
theorem td_d1 {k : Str} {j : Nat} {p1 : Pos} {e : Expr} {fa : EF} (he : PE X e (tE X.K W fa)) : PE X (.Dict [some (.Constant (.str k) j p1)] [e] pos) (tE X.K W (f1 (gD1 (.inr k)) fa)) :=
  (pe_disp (pps_cons pe_str he pps_nil) rfl rfl (by simp) (show 1 ≤ 15 by decide)).imp fun σ H Q h => by
    obtain ⟨C, oas, m, ρ, η, r, S, e, P⟩ := h
    intro p hp
    have S0 := S.and hp (.dK [])
    obtain ⟨f0, f1, f2⟩ := S.fresh0 hp
    have e : bindO (fa ρ η) (fun x η1 => okO (gD1 (.inr k) x) η1) = some r := e
    show tE X.K W fa σ (upd H p (.dK [])) fun y H2 => H2 p = some (.dK []) ∧ ∃ kvs : List (Key × V), [(V.str k, y)] = kvs.map (fun kv => (kV kv.1, kv.2)) ∧ kvs.length ≤ 15 ∧ Q (.ref p) (upd H2 p (.dK (mergeK [] kvs)))
    cases q : fa ρ η with
    | none => rw [q] at e; cases e
    | some z =>
      obtain ⟨o, η1⟩ := z
      rw [q] at e
      cases o with
      | ok x =>
        have e2 : (Out.ok (D.dK [(.inr k, x)]), η1) = r := Option.some.inj e
        subst e2
        refine ⟨C.and p, oas, m, ρ, η, _, S0, q, fun m' v H' n S' R => ?_⟩
        have hnm : p ∉ m' := fun z => by
          rcases n.mem z with z | z
          · exact f1 z
          · rw [upd_same] at z; cases z
        have hp' : H' p = some (.dK []) := n.at_ p _ f1 upd_same
        refine ⟨hp', [(.inr k, v)], rfl, (show 1 ≤ 15 by decide), ?_⟩
        have SS := S'.poke (p := p) (.inr rfl) hnm f2 f0 (.dK (mergeK [] [(.inr k, v)]))
        have n2 : Nxt m m' H H' := (Nxt.ext (.new hp)).trans n
        refine P.ok (n2.poke hp) SS.less ⟨p, _, rfl, fun z => ?_, upd_same, ?_⟩
        · rcases z with z | z | z
          · exact S.trk p (.inl z) hp
          · exact hnm z
          · exact f2 z
        · refine ⟨v, [], rfl, R.keep ⟨fun a h => .inl (mu_sub h), fun a u nn hh => ?_, fun _ _ h => h⟩, rfl⟩
          rw [upd_ne fun z => nn (by rw [z]; exact .inl (.inr rfl))]
          exact hh
      | ex E fs =>
        have e2 : (Out.ex E fs, η1) = r := Option.some.inj e
        subst e2
        refine ⟨C.and p, oas, m, ρ, η, _, S0, q, fun m' d H' n S' xr => P m' d H' ((Nxt.ext (.new hp)).trans n) S'.less ?_⟩
        rcases xr with xr | ⟨a, ws, e1, nn, ha, xr⟩
        · exact .inl xr
        · exact .inr ⟨a, ws, e1, fun z => nn (mu_sub z), ha, xr.keep keep_less⟩
end
end TL
namespace TL
open PySem PySem.Spec PyProof.Rows L2
section
variable {X : Cx} {W : WX} {i j : Nat} {x y : Str} {p' py pos spos : Pos} {ifs : List Expr} {elt iter : Expr} {ft : BF} {fe fs : EF} {scope : Scope}
/-- y = [.. for x in ..], a statement -/
theorem ts_setLc (B : BlkG X scope i x p' ifs elt ft fe) (hj : X.N[j]? = some y) (hyl : X.env.scope.names.lookup y = some .local) (hsw : swapsWith (.ListComp elt [⟨.Name x p', iter, ifs, 0⟩] scope pos) (some (.Name y py)) spos.line X.env = pure true) (he : PE X iter (tE X.K W fs)) (hs : ∀ x, foldedSetIterable iter X.env x = pure x := by intro _; rfl) :
    PS X (.Assign [.Name y py] (.ListComp elt [⟨.Name x p', iter, ifs, 0⟩] scope pos) spos) (tS X.K W (sSet j (fComp lstOf i fs ft fe))) :=
  (ps_setLc (i := j) B.calm B.nd hj hyl hsw (pi_list he) B.ok B.tg B.te B.el hs).imp fun E σ H h0 => by
    have h := imp_set h0
    unfold tAsg at h ⊢
    revert h
    generalize (fun x H1 => gName j x σ H1 E.nx) = Q
    intro h
    obtain ⟨C, oas, m, ρ, η, r, S, e, P⟩ := h
    refine bind_G S e P fun m1 v H1 d η1 n1 S1 r1 e1 P1 => ?_
    cases q1 : lstOf d with
    | none => rw [q1] at e1; cases e1
    | some ds =>
      cases q2 : noOwn ρ[i]? with
      | false => rw [q1, q2] at e1; cases e1
      | true =>
        rw [q1, q2] at e1
        obtain ⟨full, ηe, e2, e3⟩ := bindN_inv e1
        rw [lstOf_inv q1] at r1
        obtain ⟨l, vs, rfl, nm, hl, R⟩ := r1
        refine ⟨l, rfl, ⟨vs, .of hl⟩, fun L hL => ?_⟩
        obtain ⟨h0, n1, n2⟩ := S1.fresh0 hL
        obtain ⟨z, hz, _⟩ := okO_inv e3
        have A := comp_start (ao := some (l, .lst vs)) S1 hL q2 (fun a o q => by cases q; exact ⟨hl, nm⟩) R e2
        refine lc_list (K := X.K) (a := l) (xs := vs) (CompAt X.K C oas ρ σ i ft fe (some (l, .lst vs)) L ds vs full ηe m1 H1) A ?_ ?_ ?_
        · rintro n H _ ⟨m, η, acc, accD, rest, _, ha, _⟩
          exact .of (ha _ _ rfl).1
        · exact fun n x H hx A => comp_turn h0 n2 hL (mkL_inv hz).1 (fun _ _ _ h => h) hx A
        · exact fun H A => comp_done S1 hL q2 e3 P1 (Nat.le_refl _) A
/-- y = [.. for x in ..], a statement -/
theorem ts_setLcR {e : Expr} {p2 q3 : Pos} (B : BlkG X scope i x p' ifs elt ft fe) (hj : X.N[j]? = some y) (hyl : X.env.scope.names.lookup y = some .local) (hsw : swapsWith (.ListComp elt [⟨.Name x p', .Call (.Name "range" p2) [e] [] q3, ifs, 0⟩] scope pos) (some (.Name y py)) spos.line X.env = pure true) (hg : Gl X "range") (hm : X.mg "range" = none) (he : PE X e (tE X.K W fs)) (hes : starEach [e] X.env = (false, eval e X.env) :: starEach [] X.env := by rfl) :
    PS X (.Assign [.Name y py] (.ListComp elt [⟨.Name x p', .Call (.Name "range" p2) [e] [] q3, ifs, 0⟩] scope pos) spos) (tS X.K W (sSet j (fComp rng1 i fs ft fe))) :=
  (ps_setLc (i := j) B.calm B.nd hj hyl hsw (pi_range1 hg hm (pa_cons he pa_nil hes) hes) B.ok B.tg B.te B.el (by intro _; rfl)).imp fun E σ H h0 => by
    have h := imp_set h0
    unfold tAsg at h ⊢
    revert h
    generalize (fun x H1 => gName j x σ H1 E.nx) = Q
    intro h
    obtain ⟨C, oas, m, ρ, η, r, S, e, P⟩ := h
    refine bind_G S e P fun m1 v H1 d η1 n1 S1 r1 e1 P1 => ?_
    cases q1 : rng1 d with
    | none => rw [q1] at e1; cases e1
    | some ds =>
      cases q2 : noOwn ρ[i]? with
      | false => rw [q1, q2] at e1; cases e1
      | true =>
        rw [q1, q2] at e1
        obtain ⟨full, ηe, e2, e3⟩ := bindN_inv e1
        obtain ⟨j, rfl, hj, rfl⟩ := rng1_inv q1
        have e0 : v = V.int j := r1
        subst e0
        refine ⟨j, rfl, by omega, by omega, fun L hL => ?_⟩
        obtain ⟨h0, n1, n2⟩ := S1.fresh0 hL
        obtain ⟨z, hz, _⟩ := okO_inv e3
        have hlen : ((intsFrom 0 j.toNat).map V.int).length = j.toNat := by simp [intsFrom]
        have A := comp_start (ao := none) (vs := (intsFrom 0 j.toNat).map V.int) S1 hL q2 (fun a o q => by cases q) RpA.ints e2
        refine lc_range (CompAt X.K C oas ρ σ i ft fe none L (upTo 0 j.toNat) ((intsFrom 0 j.toNat).map V.int) full ηe m1 H1) A ?_ ?_
        · exact fun n H hn A => comp_turn h0 n2 hL (mkL_inv hz).1 (fun _ _ _ h => h) (upTo_get hn) A
        · exact fun H A => comp_done S1 hL q2 e3 P1 (Nat.le_of_eq hlen) A
end
end TL
namespace TL
open PySem PySem.Spec PyProof.Rows L2

section
variable {P : Program} {w : World} {K : PySem.W.Frag} {mg mb : Str → Option Value} {k : Nat} {fa a : Addr} {fd : FuncData} {x : Str} {M : List D → Eta → Res D} {s1 : Shared} {vs : List Value} {ns : List Int} {η' : Eta}
/-- the end, over an abstract heap that tracks the script at most -/
theorem end_at {H : Hp} {os : Obj} (hos : s1.heap.get? a = some os) (hnd : ∀ es ep, os.data ≠ .dict es ep) (KX : K.In s1.heap) (hns : s1.heap.Ns mainGlobals mg) (hb : s1.heap.Ns builtinsNs mb) (hbb : ∀ x : Str, x ≠ "__name__" → mb x = bootBuiltins x) (hlim : s1.heap.NoLimit) (hg : s1.gens = #[])
    (hA : ∀ b, H b ≠ none → b = a ∧ K.lookup a = none ∧ ∃ xs, H a = some (.frz os xs)) (hok : HOk P w H s1.heap) (hr : RoomG k callerA) (F : ∀ base : Heap, K.In base → base.Ns mainGlobals mg → FnG P w K mg base k fa fd [x] M) (hbind : ∀ (s : Shared) (u : Value), BindsTo s fd ⟨[u], []⟩ [(x, u)])
    (hR : Rp K (fun _ => False) [] H (.arg ns) (.ref a)) (hM : M [.arg ns] [] = some (.ok (.bl true), η')) :
    codeAny (model P w) callerA (.call (.ref fa) ⟨[.ref a], []⟩) (fun r s' => r = .ok (.ret (.bool true)) ∧ OldK s1.heap s'.heap ∧ s'.os = s1.os ∧ AllBare s'.gens) s1 := by
  have free : ∀ {b : Addr} {o : Obj}, s1.heap.get? b = some o → (b = a → o ≠ os ∨ K.lookup a ≠ none) → H b = none := fun {b o} e hne => by
    cases q : H b with
    | none => rfl
    | some u =>
      obtain ⟨e1, e2, _⟩ := hA b (by rw [q]; simp)
      rw [e1, hos] at e
      rcases hne e1 with z | z
      · exact absurd (Option.some.inj e).symm z
      · exact absurd e2 z
  have nsK : ∀ {b : Addr} {m : Str → Option Value}, s1.heap.Ns b m → (hidT s1.heap H).Ns b m := fun {b m} ⟨o, es, ep, e, dd, r⟩ =>
    ⟨o, es, ep, hidT_get e (free e fun _ => .inl fun z => hnd es ep (z ▸ dd)), dd, r⟩
  have hKb : K.In (hidT s1.heap H) := fun b o e => hidT_get (KX b o e) (free (KX b o e) fun z => .inr (by rw [← z, e]; simp))
  have hM2 : Mod K mg (hidT s1.heap H) := ⟨hKb, nsK hns, ⟨mb, nsK hb, hbb⟩, by
    obtain ⟨mc, h1, h2⟩ := hlim
    exact ⟨mc, nsK h1, h2⟩⟩
  have e0 : Env0 P w K mg (hidT s1.heap H) callerA [] s1 H := ⟨rfl, hM2, fun b o e => of_hidT e, Nat.le_of_eq (hidT_size _ _), trivial, fun b hb => absurd hb List.not_mem_nil, hok, .of_eq hg⟩
  have Rr : RpA K (fun _ => False) [] H [.arg ns] [.ref a] := ⟨_, _, rfl, hR, rfl⟩
  have Cc : CellsR K (fun _ => False) [] H [] := ⟨rfl, fun i o b h => by simp at h, List.nodup_nil⟩
  refine codeAny_mono ((F _ hKb (nsK hns)).run callerA [] s1 H ⟨[.ref a], []⟩ [.ref a] [.ref a] (fun _ => False) [] [] [.arg ns] _ hr e0 rfl (hbind s1 (.ref a)) (.cons rfl .nil) (fun _ z => z.elim) (fun _ z => absurd z List.not_mem_nil) Cc Rr hM) fun r s' h => ?_
  obtain ⟨u, rfl, v, H', h1, h2, un, hok', rv, m', af, rd⟩ := h
  obtain rfl : v = .bl true := rd
  obtain rfl : u = Value.bool true := rv
  refine ⟨rfl, OldK.of_keep fun b o e => ?_, h1, h2⟩
  cases q : H b with
  | none => exact un.keep b o e q List.not_mem_nil List.not_mem_nil
  | some u =>
    obtain ⟨rfl, _, xs, z⟩ := hA b (by rw [q]; simp)
    obtain ⟨y, _⟩ := hok' b _ (un.frzs b os xs z)
    rw [hos] at e
    rw [y, e]
theorem law_callG (KX : K.In s1.heap) (hns : s1.heap.Ns mainGlobals mg) (hb : s1.heap.Ns builtinsNs mb) (hbb : ∀ x : Str, x ≠ "__name__" → mb x = bootBuiltins x) (hlim : s1.heap.NoLimit) (hg : s1.gens = #[]) (ha : s1.heap.get? a = some { cls := .type "list", data := .seq vs.toArray }) (hi : IntsAre vs ns) (hl : ns.length ≤ sizeLine)
    (hr : RoomG k callerA) (F : ∀ base : Heap, K.In base → base.Ns mainGlobals mg → FnG P w K mg base k fa fd [x] M) (hbind : ∀ (s : Shared) (u : Value), BindsTo s fd ⟨[u], []⟩ [(x, u)]) (hM : M [.arg ns] [] = some (.ok (.bl true), η')) :
    codeAny (model P w) callerA (.call (.ref fa) ⟨[.ref a], []⟩) (fun r s' => r = .ok (.ret (.bool true)) ∧ OldK s1.heap s'.heap ∧ s'.os = s1.os ∧ AllBare s'.gens) s1 := by
  have rv := vals_ints hi
  have hl2 : vs.length ≤ sizeLine := by rw [← Vals.length rv, List.length_map]; exact hl
  have nd : ∀ es ep, ({ cls := .type "list", data := .seq vs.toArray } : Obj).data ≠ .dict es ep := fun es ep z => by cases z
  cases hk : K.lookup a with
  | some o =>
    have e : o = { cls := .type "list", data := .seq vs.toArray } := Option.some.inj ((KX a o hk).symm.trans ha)
    subst e
    have sq : ∀ H' : Hp, SqL K H' a (ns.map V.int) := fun H' => .inr ⟨_, vs.toArray, _, hk, rfl, rfl, rfl, by simpa using hl2, by simpa using rv⟩
    exact end_at (H := fun _ => none) ha nd KX hns hb hbb hlim hg (fun b z => absurd rfl z) (fun b o z => by cases z) hr F hbind ⟨a, rfl, .inr sq⟩ hM
  | none =>
    let H : Hp := upd (fun _ => none) a (.frz { cls := .type "list", data := .seq vs.toArray } (.lst (ns.map V.int)))
    have hH : H a = some (.frz { cls := .type "list", data := .seq vs.toArray } (.lst (ns.map V.int))) := upd_same
    have hN : ∀ b, b ≠ a → H b = none := fun b z => upd_ne z
    refine end_at (H := H) ha nd KX hns hb hbb hlim hg (fun b z => ?_) (fun b o z => ?_) hr F hbind ⟨a, rfl, .inl ⟨fun z => z.elim, _, hH⟩⟩ hM
    · by_cases e : b = a
      · exact ⟨e, hk, _, hH⟩
      · exact absurd (hN b e) z
    · by_cases e : b = a
      · subst e
        rw [hH] at z
        cases z
        exact ⟨ha, by rw [List.length_map]; exact hl, vs, _, rv, ha⟩
      · rw [hN b e] at z
        cases z
end
/-- the law: from the written part, the contract of the law's def, what it answers -/
theorem walk_G {l : PySem.W.OpenLaw} {n k : Nat} {q : Program} {loose : List Str} {XP : (Str → Option Value) → Heap → Prop} {YP : World → Heap → Prop} {dr : DefRec} {x : Str} (hn : l.most = some n) (hn2 : n ≤ sizeLine) (hdf : dr.params.defaults = []) (hr : RoomG k callerA)
    (F : ∀ (w : World) (mg : Str → Option Value) (fa : Addr) (h : Heap), YP w h → h.Ns mainGlobals mg → mg dr.name = some (.ref fa) → ∃ (K : PySem.W.Frag) (fd : FuncData) (M : List D → Eta → Res D), K.In h ∧ (∀ (s : Shared) (u : Value), BindsTo s fd ⟨[u], []⟩ [(x, u)]) ∧
      (∀ ns : List Int, ns.length ≤ n → ∃ η', M [.arg ns] [] = some (.ok (.bl true), η')) ∧ ∀ base : Heap, K.In base → base.Ns mainGlobals mg → FnG l.prog w K mg base k fa fd [x] M) :
    PySem.W.WalkO q loose XP YP l.row.toRowW dr [] (fun f vs => PySem.call f vs) := by
  refine Att.attach_call hn hdf fun w s0 s1 mg mb fa o pm cd doc a vs ns G Y ho hd hcd hmg hobj hints hlen hg => ?_
  obtain ⟨K, fd, M, KX, hb, hM, hF⟩ := F w mg fa _ Y G.T.g hmg
  obtain ⟨η', e⟩ := hM ns hlen
  exact law_callG KX G.T.g G.T.b G.T.builtins G.T.nolimit hg hobj hints (Nat.le_trans hlen hn2) hr hF hb e
end TL
namespace TL
open PySem PySem.Spec PyProof.Rows L2

/-- an __init__ that says super().__init__: the class's name, its text, its base -/
structure IniD where
  cls : Str
  qual : Str
  params : Arguments
  body : List Stmt
  scope : Scope
  tail : List Value
  newId : String
  fields : List Str
abbrev IniW : Type := Option (Str × Str × Arguments × FuncBody × Scope × Addr × Addr)
def iniW (K : PySem.W.Frag) (x : Str) : IniW := match K.lookup (He.ma K (He.ga K x) "__init__") with
  | some ⟨_, _, .func fd, _⟩ => some (fd.name, fd.qualname, fd.params, fd.body, fd.scope, fd.globals, fd.builtins)
  | _ => none
def IniD.val (d : IniD) : IniW := some ("__init__", d.qual, d.params, .stmts d.body, d.scope, mainGlobals, builtinsNs)
/-- the class object -/
def clsB (K : PySem.W.Frag) (C : Addr) (tail : List Value) (newId : String) : Bool := match K.lookup C with
  | some ⟨.type t, _, .cls cd, sl⟩ => decide (t = "type") && (decide (cd.mro = .ref C :: tail) && (cd.hasDict && (!cd.hasDel && (match sl.toList with
    | [_, _, _, _, some (.builtin n), _] => decide (n = newId)
    | _ => false))))
  | _ => false
theorem clsB_ok {K : PySem.W.Frag} {C : Addr} {tail : List Value} {newId : String} (h : clsB K C tail newId = true) : ∃ nm q N bs sn sub ab col dd k0 k1 k2 k3 k5, K.lookup C = some (excClassObj nm q C N bs tail true sn sub ab col dd k0 k1 k2 k3 k5 newId) := by
  unfold clsB at h
  split at h
  · rename_i t dd cd sl e
    obtain ⟨h1, h⟩ := Bool.and_eq_true_iff.mp h
    obtain ⟨h2, h⟩ := Bool.and_eq_true_iff.mp h
    obtain ⟨h3, h⟩ := Bool.and_eq_true_iff.mp h
    obtain ⟨h4, h5⟩ := Bool.and_eq_true_iff.mp h
    obtain ⟨nm, bs, mro, ns, qn, hd, sn, sub, ab, col, del⟩ := cd
    have h1 := of_decide_eq_true h1
    have h2 := of_decide_eq_true h2
    simp only at h2 h3 h4
    subst h1 h2 h3
    have h4 : del = false := by simpa using h4
    subst h4
    split at h5
    · rename_i k0 k1 k2 k3 n k5 hs
      have h5 := of_decide_eq_true h5
      subst h5
      obtain ⟨sl⟩ := sl
      simp only at hs
      subst hs
      exact ⟨_, _, _, _, _, _, _, _, _, _, _, _, _, _, e⟩
    · cases h5
  · cases h
theorem xcB_no {K : PySem.W.Frag} {x f : Str} {fs : List Str} (h : xcB K x fs = true) (hf : f ∈ fs) : PySem.W.findIn K (.ref (He.ga K x)) f = some none := of_decide_eq_true (Bool.and_eq_true_iff.mp (List.all_eq_true.mp (Bool.and_eq_true_iff.mp h).2 f hf)).2
/-- the function object: its closure's cell, its code's file -/
def cloB (file : Str) (K : PySem.W.Frag) (C f : Addr) (qual : Str) : Bool := match K.lookup f with
  | some ⟨_, _, .func fd, _⟩ => (match fd.code, fd.closure, fd.defaults with
    | .ref cda, [(nm, cc)], .none => decide (nm = "__class__") && (PySem.W.codeIn K (.ref cda) qual && ((match K.lookup cda with
      | some ⟨_, _, .fields vs, _⟩ => (match (vs[2]? : Option Value) with
        | some (.str fl _) => file == fl
        | _ => false)
      | _ => false) && (match K.lookup cc with
      | some ⟨_, _, .cell (some (.ref D)), _⟩ => decide (D = C)
      | _ => false)))
    | _, _, _ => false)
  | _ => false
def IniD.ok (prog : Program) (K : PySem.W.Frag) (d : IniD) : Bool :=
  let C := He.ga K d.cls
  let f := He.ma K C "__init__"
  clsB K C d.tail d.newId && (cloB prog.main.file K C f d.qual && (decide (PySem.W.findIn K (.ref C) "__init__" = some (some (.ref f))) && (decide (PySem.W.typeIn K (.ref f) = some (.type "function")) && (decide (PySem.W.findIn K (.ref C) "__setattr__" = some (some (.builtin "object.__setattr__"))) &&
    (decide (PySem.W.nsIn K cStatics "thirdparty.any" = some none) && (!(prog.main.scope.names.lookup ("super" : Str)).isSome && (PySem.W.keepIn K (.ref C) && (decide (PySem.W.typeIn K (.ref C) = some (.type "type")) && (xcB K d.cls d.fields && decide (PySem.W.nsIn K mainGlobals d.cls = some (some (.ref C))))))))))))
theorem IniD.excK {prog : Program} {K : PySem.W.Frag} {d : IniD} (e : iniW K d.cls = d.val) (c : d.ok prog K = true) :
    ExcK prog K d.newId d.tail (He.ga K d.cls) (He.ma K (He.ga K d.cls) "__init__") "__init__" d.qual d.params d.body d.scope ∧ xcB K d.cls d.fields = true ∧ PySem.W.nsIn K mainGlobals d.cls = some (some (.ref (He.ga K d.cls))) := by
  obtain ⟨c1, c⟩ := Bool.and_eq_true_iff.mp c
  obtain ⟨c2, c⟩ := Bool.and_eq_true_iff.mp c
  obtain ⟨c3, c⟩ := Bool.and_eq_true_iff.mp c
  obtain ⟨c4, c⟩ := Bool.and_eq_true_iff.mp c
  obtain ⟨c5, c⟩ := Bool.and_eq_true_iff.mp c
  obtain ⟨c6, c⟩ := Bool.and_eq_true_iff.mp c
  obtain ⟨c7, c⟩ := Bool.and_eq_true_iff.mp c
  obtain ⟨c8, c⟩ := Bool.and_eq_true_iff.mp c
  obtain ⟨c9, c⟩ := Bool.and_eq_true_iff.mp c
  obtain ⟨c10, c11⟩ := Bool.and_eq_true_iff.mp c
  refine ⟨⟨clsB_ok c1, ?_, of_decide_eq_true c3, of_decide_eq_true c4, of_decide_eq_true c5, of_decide_eq_true c6, by simpa using c7, c8, of_decide_eq_true c9⟩, c10, of_decide_eq_true c11⟩
  unfold cloB at c2
  unfold iniW at e
  split at c2
  · rename_i oc od fd osl q
    rw [q] at e
    split at c2
    · rename_i cda nm cc q1 q2 q3
      obtain ⟨b1, b⟩ := Bool.and_eq_true_iff.mp c2
      obtain ⟨b2, b⟩ := Bool.and_eq_true_iff.mp b
      obtain ⟨b3, b4⟩ := Bool.and_eq_true_iff.mp b
      have b1 := of_decide_eq_true b1
      subst b1
      obtain ⟨n1, n2, n3, n4, n5, n6, n7, n8, n9, n10, n11, n12, n13, n14, n15⟩ := fd
      have e2 : (some (n1, n2, n3, n4, n5, n6, n15) : IniW) = some (("__init__" : Str), d.qual, d.params, FuncBody.stmts d.body, d.scope, mainGlobals, builtinsNs) := e
      simp only [Option.some.injEq, Prod.mk.injEq] at e2
      obtain ⟨h1, h2, h3, h4, h5, h6, h7⟩ := e2
      simp only at q1 q2 q3
      subst h1 h2 h3 h4 h5 h6 h7 q1 q2 q3
      refine ⟨oc, od, n9, n10, n11, n12, cda, n14, cc, osl, q, b2, ?_, ?_⟩
      · split at b3
        · rename_i c' d' vs s' qa
          split at b3
          · rename_i fl tf qb
            exact ⟨_, _, vs, _, fl, tf, qa, qb, b3⟩
          · cases b3
        · cases b3
      · split at b4
        · rename_i c' d' D s' qa
          have b4 := of_decide_eq_true b4
          subst b4
          exact ⟨_, _, _, qa⟩
        · cases b4
    · cases c2
  · cases c2

/-! ### the Hook -/
abbrev AlX : Type := Bool × List He.FnW × List IniW
def asX (g : Addr → Option Obj) (n : Nat) : List Addr := sysModules :: cStatics :: He.asD g n
def obsX (prog : Program) (chk : PySem.W.Frag → Bool) (fn : List He.DefD) (ini : List IniD) (K : PySem.W.Frag) : AlX :=
  (chk K && ((K.lookup sysModules).isSome && ((fn.all fun d => d.ok K) && ini.all fun d => d.ok prog K)), fn.map (fun d => He.fnW K d.at_), ini.map fun d => iniW K d.cls)
def valX (fn : List He.DefD) (ini : List IniD) : AlX := (true, fn.map He.DefD.val, ini.map IniD.val)
def SaysX (prog : Program) (chk : PySem.W.Frag → Bool) (fn : List He.DefD) (ini : List IniD) (K : PySem.W.Frag) : Prop := obsX prog chk fn ini K = valX fn ini
def obsXG (prog : Program) (n : Nat) (chk : PySem.W.Frag → Bool) (fn : List He.DefD) (ini : List IniD) (g : Addr → Option Obj) : AlX := obsX prog chk fn ini (He.frG g (asX g n))
def hookX (prog : Program) (n : Nat) (chk : PySem.W.Frag → Bool) (fn : List He.DefD) (ini : List IniD) : PySem.W.Hook where
  α := AlX
  obs := fun s => obsXG prog n chk fn ini s.heap.get?
  val := fun _ => valX fn ini
  says := fun _ h => ∃ K : PySem.W.Frag, K.In h ∧ SaysX prog chk fn ini K
  of := fun _ _ e => ⟨_, He.frG_in, e⟩
  keeps := fun _ _ _ ⟨K, hK, c⟩ k => ⟨K, PySem.W.Frag.In.keeps hK k, c⟩
theorem obsXG_eq {prog : Program} {n : Nat} {chk : PySem.W.Frag → Bool} {fn : List He.DefD} {ini : List IniD} {g : Addr → Option Obj} {s : Shared} (h : ∀ a, g a = s.heap.get? a) : obsXG prog n chk fn ini g = (hookX prog n chk fn ini).obs s := by
  have e : g = s.heap.get? := funext h
  rw [e] <;> rfl
section
variable {prog : Program} {chk : PySem.W.Frag → Bool} {fn : List He.DefD} {ini : List IniD} {K : PySem.W.Frag}
theorem SaysX.parts (c : SaysX prog chk fn ini K) : chk K = true ∧ (K.lookup sysModules).isSome = true ∧ (fn.all fun d => d.ok K) = true ∧ (ini.all fun d => d.ok prog K) = true := by
  have c1 : (chk K && ((K.lookup sysModules).isSome && ((fn.all fun d => d.ok K) && ini.all fun d => d.ok prog K))) = true := congrArg (fun z : AlX => z.1) c
  obtain ⟨h1, c1⟩ := Bool.and_eq_true_iff.mp c1
  obtain ⟨h2, c1⟩ := Bool.and_eq_true_iff.mp c1
  obtain ⟨h3, h4⟩ := Bool.and_eq_true_iff.mp c1
  exact ⟨h1, h2, h3, h4⟩
theorem SaysX.def_ (c : SaysX prog chk fn ini K) (i : Nat) {d : He.DefD} (h : fn[i]? = some d := by rfl) : ∃ fd, FunD K d.name d.qual d.params d.body d.scope (d.dvs K) (d.kws K) (He.fAd K d.at_) fd := by
  have e : fn.map (fun d => He.fnW K d.at_) = fn.map He.DefD.val := congrArg (fun z : AlX => z.2.1) c
  have e2 : (fn.map fun d => He.fnW K d.at_)[i]? = (fn.map He.DefD.val)[i]? := by rw [e]
  rw [List.getElem?_map, List.getElem?_map, h] at e2
  exact He.DefD.funD (Option.some.inj e2) (List.all_eq_true.mp c.parts.2.2.1 d (List.mem_of_getElem? h))
theorem SaysX.ini_ (c : SaysX prog chk fn ini K) (i : Nat) {d : IniD} (h : ini[i]? = some d := by rfl) : ExcK prog K d.newId d.tail (He.ga K d.cls) (He.ma K (He.ga K d.cls) "__init__") "__init__" d.qual d.params d.body d.scope ∧ xcB K d.cls d.fields = true ∧ PySem.W.nsIn K mainGlobals d.cls = some (some (.ref (He.ga K d.cls))) := by
  have e : ini.map (fun d => iniW K d.cls) = ini.map IniD.val := congrArg (fun z : AlX => z.2.2) c
  have e2 : (ini.map fun d => iniW K d.cls)[i]? = (ini.map IniD.val)[i]? := by rw [e]
  rw [List.getElem?_map, List.getElem?_map, h] at e2
  exact IniD.excK (Option.some.inj e2) (List.all_eq_true.mp c.parts.2.2.2 d (List.mem_of_getElem? h))
end
end TL
namespace TL
open PySem PySem.Spec PyProof.Rows L2

theorem CallS.imp {X : Cx} {W : WX} {u : Value} {ks : List Str} {M M' : List D → Eta → Res D} (h : CallS X u ks (rM X.K W M)) (i : ∀ ds η r, M' ds η = some r → M ds η = some r) : CallS X u ks (rM X.K W M') :=
  fun pins s σ H xs zs us ws Q I rx rz hk q => by
    obtain ⟨C, oas, m, ρ, η, ds, r, S, R, e, P⟩ := q
    exact h pins s σ H xs zs us ws Q I rx rz hk ⟨C, oas, m, ρ, η, ds, r, S, R, i _ _ _ e, P⟩
/-- a def called by position -/
theorem callP {X : Cx} {W : WX} {k : Nat} {f : Addr} {fd : FuncData} {ps N : List Str} {g : SF} {n : Nat} (F : FnG X.prog X.w X.K X.mg X.base k f fd ps (runS N n g)) (hn : ps.length = n) (b : Binds X.K fd ps []) (hr : RoomG k X.A) (tk : Takes X W) : CallS X (.ref f) [] (rM X.K W (runS N n g)) := by
  subst hn
  refine (F.callS (n := ps.length) (ks := []) (g := id) (gV := id) (gD := id) hr ⟨fun s us ws hk hl hw => ?_, fun r _ => r, fun r _ => r⟩ tk).imp fun ds η r e => ?_
  · have z : ws = [] := List.eq_nil_of_length_eq_zero hw
    subst z
    have b2 := b s us hk (by rw [List.append_nil]; exact hl)
    exact ⟨b2, by rw [List.append_nil]; exact hl⟩
  · have e' : runS N ps.length g ds η = some r := e
    unfold runS at e
    split at e
    · rename_i hl
      show (if ds.length = ps.length + 0 then runS N ps.length g ds η else none) = some r
      rw [if_pos (by omega)]
      exact e'
    · cases e
theorem takesF {X : Cx} (h : X.xe = fun _ _ => False) : Takes X WF := fun u s' x => by
  obtain ⟨_, _, _, _, _, _, _, _, _, _, _, _, _, _, _, _, z⟩ := x
  exact z.elim
section
variable {X : Cx} {W : WX} {pos : Pos}
/-- a name of the def's own -/
theorem tv (i : Nat) {x : Str} (hN : X.N[i]? = some x := by rfl) (hv : Vis X.env.scope x := by first | exact Or.inl rfl | exact Or.inr (Or.inl rfl) | exact Or.inr (Or.inr rfl)) (hd : (x == ("__debug__" : Str)) = false := by decide) (hcd : (x == ("__classdict__" : Str)) = false := by decide) : PE X (.Name x pos) (tE X.K W (fVar i)) :=
  td_var hN hv hd hcd
/-- a class's name -/
theorem tcl {x : Str} (hm : X.mg x = some (.ref (He.ga X.K x))) (hg : Gl X x := by rfl) (hd : (x == ("__debug__" : Str)) = false := by decide) : PE X (.Name x pos) (tE X.K W (fC (.cls x))) := td_glob (d := .cls x) (v := .ref (He.ga X.K x)) hg hm rfl (fun _ _ _ => rfl) hd
/-- an int of the module -/
theorem tgi {x : Str} {j : Int} (hm : ∃ t, X.mg x = some (.int j t)) (hg : Gl X x := by rfl) (hd : (x == ("__debug__" : Str)) = false := by decide) : PE X (.Name x pos) (tE X.K W (fC (.int j))) := by
  obtain ⟨t, hm⟩ := hm
  exact td_glob (d := .int j) (v := .int j) hg hm ⟨t, rfl⟩ (fun _ _ _ => rfl) hd
variable {scope : Scope} {i : Nat} {x : Str} {p' : Pos} {elt : Expr} {fe : EF}
/-- a comprehension's block without tests -/
theorem blk0 (hc : X.calm = true) (nd : X.N.Nodup) (ok : BlkOk X.N X.env.scope scope [(x, i)]) (tg : ∀ (s : Shared) (H : Hp) (C : Addr) (cl : List (Str × Addr)) (fp : List Addr), PG (X.blk s H scope (compEnvC scope cl C X.env) fp) (.Name x p') (gName i))
    (el : ∀ (s : Shared) (H : Hp) (C : Addr) (cl : List (Str × Addr)) (fp : List Addr), PE (X.blk s H scope (compEnvC scope cl C X.env) fp) elt (tE X.K WF fe)) : BlkG X scope i x p' [] elt tYesF fe :=
  ⟨hc, nd, ok, tg, fun _ _ _ _ _ => ⟨tYes, pts_nil, fun σ H Q h => by
    obtain ⟨C, oas, m, ρ, η, r, S, e, P⟩ := h
    cases e
    exact P.ok .refl S rfl⟩, el⟩
end
end TL
namespace K82H
open PySem PySem.Spec PyProof.Rows L2
def top (i : Nat) : Stmt := PySem.Challenge.pw_fillroads_k82_errors_and_their_fields.main.body.getD i (.Pass ⟨0, 0, 0, 0⟩)
abbrev R : PySem.W.OpenRow := PySem.W.OpenLaw.row PySem.Challenge.rw_fillroads_k82_errors_and_their_fields
def tl (bs : List String) : List Value := bs.map Value.type ++ [.type "Exception", .type "BaseException", .type "object"]
def iniD (i : Nat) (x : Str) (bs : List String) (n : String) (fs : List Str) : TL.IniD := ⟨x, x ++ ".__init__", defArgs (inClass (top i) 0), defBody (inClass (top i) 0), defScope (inClass (top i) 0), tl bs, n, fs⟩
def defD (i : Nat) (x : Str) : He.DefD := ⟨(x, none), x, x, defArgs (top i), defBody (top i), defScope (top i), [], []⟩
def fn : List He.DefD := [defD 29 "_law_values", defD 30 "_law_created", defD 31 "_law_named", defD 32 "_law_fields", defD 33 "_law_kinds", defD 34 "_law_python", defD 35 "law"]
def ini : List TL.IniD := [iniD 1 "InvalidTank" ["ValueError"] "ValueError.__new__" ["value"], iniD 2 "InvalidPlace" ["ValueError"] "ValueError.__new__" ["value"], iniD 3 "InvalidRoad" ["ValueError"] "ValueError.__new__" ["value"], iniD 4 "InvalidPrice" ["ValueError"] "ValueError.__new__" ["value"], iniD 5 "InvalidText" ["ValueError"] "ValueError.__new__" ["line"], iniD 6 "InvalidChange" ["ValueError"] "ValueError.__new__" ["index"], iniD 7 "InvalidCommand" ["ValueError"] "ValueError.__new__" ["line"], iniD 8 "InvalidTimes" ["ValueError"] "ValueError.__new__" ["value"], iniD 9 "NoStand" ["ValueError"] "ValueError.__new__" ["value"], iniD 10 "NoGoal" ["ValueError"] "ValueError.__new__" ["value"], iniD 11 "NoAct" ["ValueError"] "ValueError.__new__" ["index", "why"], iniD 15 "UnknownPlace" ["KeyError", "LookupError"] "LookupError.__new__" ["value"], iniD 16 "UnknownRoad" ["KeyError", "LookupError"] "LookupError.__new__" ["value"], iniD 17 "OutOfRange" ["IndexError", "LookupError"] "IndexError.__new__" ["value"], iniD 18 "Unreached" ["LookupError"] "LookupError.__new__" ["fence"], iniD 19 "TooMany" ["OverflowError", "ArithmeticError"] "OverflowError.__new__" ["limit"], iniD 20 "Pumped" ["OverflowError", "ArithmeticError"] "OverflowError.__new__" ["plan"]]
def exc0 : List (Str × List String × String) := [("OtherNetwork", ["ValueError"], "ValueError.__new__"), ("OtherTank", ["ValueError"], "ValueError.__new__"), ("NotJoined", ["ValueError"], "ValueError.__new__"), ("NothingToUndo", ["RuntimeError"], "RuntimeError.__new__"), ("NothingToRedo", ["RuntimeError"], "RuntimeError.__new__"), ("InTrial", ["RuntimeError"], "RuntimeError.__new__")]
def clsT : TL.ClsT := [("InvalidTank", ["ValueError", "Exception", "BaseException", "object"]), ("InvalidPlace", ["ValueError", "Exception", "BaseException", "object"]), ("InvalidRoad", ["ValueError", "Exception", "BaseException", "object"]), ("InvalidPrice", ["ValueError", "Exception", "BaseException", "object"]), ("InvalidText", ["ValueError", "Exception", "BaseException", "object"]), ("InvalidChange", ["ValueError", "Exception", "BaseException", "object"]), ("InvalidCommand", ["ValueError", "Exception", "BaseException", "object"]), ("InvalidTimes", ["ValueError", "Exception", "BaseException", "object"]), ("NoStand", ["ValueError", "Exception", "BaseException", "object"]), ("NoGoal", ["ValueError", "Exception", "BaseException", "object"]), ("NoAct", ["ValueError", "Exception", "BaseException", "object"]), ("OtherNetwork", ["ValueError", "Exception", "BaseException", "object"]), ("OtherTank", ["ValueError", "Exception", "BaseException", "object"]), ("NotJoined", ["ValueError", "Exception", "BaseException", "object"]), ("UnknownPlace", ["KeyError", "LookupError", "Exception", "BaseException", "object"]), ("UnknownRoad", ["KeyError", "LookupError", "Exception", "BaseException", "object"]), ("OutOfRange", ["IndexError", "LookupError", "Exception", "BaseException", "object"]), ("Unreached", ["LookupError", "Exception", "BaseException", "object"]), ("TooMany", ["OverflowError", "ArithmeticError", "Exception", "BaseException", "object"]), ("Pumped", ["OverflowError", "ArithmeticError", "Exception", "BaseException", "object"]), ("NothingToUndo", ["RuntimeError", "Exception", "BaseException", "object"]), ("NothingToRedo", ["RuntimeError", "Exception", "BaseException", "object"]), ("InTrial", ["RuntimeError", "Exception", "BaseException", "object"])]
def clsN : List Str := ["InvalidTank", "InvalidPlace", "InvalidRoad", "InvalidPrice", "InvalidText", "InvalidChange", "InvalidCommand", "InvalidTimes", "NoStand", "NoGoal", "NoAct", "OtherNetwork", "OtherTank", "NotJoined", "UnknownPlace", "UnknownRoad", "OutOfRange", "Unreached", "TooMany", "Pumped", "NothingToUndo", "NothingToRedo", "InTrial"]
def fa : List He.Fa := [.glo "_law_values", .glo "_law_created", .glo "_law_named", .glo "_law_fields", .glo "_law_kinds", .glo "_law_python", .glo "law"] ++ clsN.map He.Fa.glo ++ [.free "IndexError", .free "KeyError", .free "LookupError", .free "OverflowError", .free "RuntimeError", .free "TypeError", .free "ValueError", .free "abs", .free "int", .free "isinstance", .free "len", .free "range", .free "repr", .free "sum", .free "super", .free "tuple"] ++ [.int "MAX_PLACES" 10, .int "MAX_ROADS" 40, .int "MAX_SIZE" 1000000000000000000000000000000, .int "MAX_STOPS" 60]
def chk (K : PySem.W.Frag) : Bool := fa.all (·.ok K) && ((exc0.all fun p => PySem.W.excIn K (He.ga K p.1) (tl p.2.1) p.2.2 && (PySem.W.keepIn K (.ref (He.ga K p.1)) && TL.xcB K p.1 [])) && TL.isiB K clsT)
abbrev hk : PySem.W.Hook := TL.hookX R.prog 5 chk fn ini
def ob (s : PySem.W.SharedT) : TL.AlX := TL.obsXG R.prog 5 chk fn ini (HandSHeadRun.getT s)
theorem ob_eq (s : PySem.W.SharedT) : ob s = hk.obs s.abs := TL.obsXG_eq (HandSHeadRun.getT_eq s)
def names : List PySem.Str := (["InvalidTank", "InvalidPlace", "InvalidRoad", "InvalidPrice", "InvalidText", "InvalidChange", "InvalidCommand", "InvalidTimes", "NoStand", "NoGoal", "NoAct", "OtherNetwork"] : List PySem.Str) ++ (["OtherTank", "NotJoined", "UnknownPlace", "UnknownRoad", "OutOfRange", "Unreached", "TooMany", "Pumped", "NothingToUndo", "NothingToRedo", "InTrial", "MAX_PLACES"] : List PySem.Str) ++ (["MAX_ROADS", "MAX_SIZE", "MAX_STOPS", "_law_values", "_law_created", "_law_named", "_law_fields", "_law_kinds", "_law_python"] : List PySem.Str)
theorem run (w : World) : HandSHeadRun.RunEq R (PySem.W.view R.prog [35]) hk ob 20000 names w := by
  intro os
  kernel_rfl
end K82H
namespace K82W
open PySem PySem.Spec PyProof.Rows L2 TL K82H
section
variable {K : PySem.W.Frag} {mg : Str → Option Value} {h : Heap}
theorem fct (c : SaysX R.prog chk fn ini K) (i : Nat) {f : He.Fa} (e : fa[i]? = some f := by rfl) : f.ok K = true := List.all_eq_true.mp (Bool.and_eq_true_iff.mp c.parts.1).1 f (List.mem_of_getElem? e)
theorem gl (KX : K.In h) (G : h.Ns mainGlobals mg) (c : SaysX R.prog chk fn ini K) (i : Nat) {x : Str} (e : fa[i]? = some (.glo x) := by rfl) : mg x = some (.ref (He.ga K x)) := He.glo_ok KX G (fct c i e)
theorem gf (KX : K.In h) (G : h.Ns mainGlobals mg) (c : SaysX R.prog chk fn ini K) (i : Nat) {x : Str} (e : fa[i]? = some (.free x) := by rfl) : mg x = none := He.free_ok KX G (fct c i e)
theorem gi (KX : K.In h) (G : h.Ns mainGlobals mg) (c : SaysX R.prog chk fn ini K) (i : Nat) {x : Str} {j : Int} (e : fa[i]? = some (.int x j) := by rfl) : ∃ t, mg x = some (.int j t) := He.int_ok KX G (fct c i e)
theorem ini_kC (c : SaysX R.prog chk fn ini K) (i : Nat) {d : IniD} (e : ini[i]? = some d := by rfl) : PySem.W.keepIn K (.ref (He.ga K d.cls)) = true := (c.ini_ i e).1.kC
theorem exc0_ok (c : SaysX R.prog chk fn ini K) (i : Nat) {p : Str × List String × String} (e : exc0[i]? = some p := by rfl) : PySem.W.excIn K (He.ga K p.1) (tl p.2.1) p.2.2 = true ∧ PySem.W.keepIn K (.ref (He.ga K p.1)) = true ∧ xcB K p.1 [] = true := by
  have z := (Bool.and_eq_true_iff.mp (Bool.and_eq_true_iff.mp c.parts.1).2).1
  obtain ⟨a, b⟩ := Bool.and_eq_true_iff.mp (List.all_eq_true.mp z p (List.mem_of_getElem? e))
  exact ⟨a, Bool.and_eq_true_iff.mp b⟩
theorem cls_ok (c : SaysX R.prog chk fn ini K) : isiB K clsT = true := (Bool.and_eq_true_iff.mp (Bool.and_eq_true_iff.mp c.parts.1).2).2
end
section
variable {X : Cx} {W : WX} {k : Nat}
theorem ki_InvalidTank (c : SaysX R.prog chk fn ini X.K) : PySem.W.keepIn X.K (.ref (He.ga X.K "InvalidTank")) = true := ini_kC c 0 (d := iniD 1 "InvalidTank" ["ValueError"] "ValueError.__new__" ["value"])
theorem p_InvalidTank (c : SaysX R.prog chk fn ini X.K) (hs : X.mg "super" = none) (hr : RoomG (k + 1) X.A) (hP : R.prog = X.prog := by rfl) : CallS X (.ref (He.ga X.K "InvalidTank")) [] (rM X.K W (mk1 "InvalidTank" "value")) := by
  obtain ⟨T, hf, _⟩ := c.ini_ 0
  rw [hP] at T
  exact cs1 (cn := "InvalidTank") (sf := "self") (v := "value") exVE hf T ⟨rfl, rfl, by decide +kernel, rfl, rfl, rfl, by decide +kernel⟩ (by decide) (xcB_no hf (by simp [iniD])) (fun _ _ _ => ⟨_, rfl⟩) hs hr
    ⟨⟨_, rfl, rfl⟩, fun fd e u hp hd => by obtain ⟨n1, n2, n3, n4, n5, n6, n7, n8, n9, n10, n11, n12, n13, n14, n15⟩ := fd; cases hp; cases hd; rfl⟩
theorem k_InvalidTank (c : SaysX R.prog chk fn ini X.K) (hs : X.mg "super" = none) (hr : RoomG (k + 1) X.A) (hP : R.prog = X.prog := by rfl) : CallS X (.ref (He.ga X.K "InvalidTank")) ["value"] (rM X.K W (mk1 "InvalidTank" "value")) := by
  obtain ⟨T, hf, _⟩ := c.ini_ 0
  rw [hP] at T
  exact cs1 (cn := "InvalidTank") (sf := "self") (v := "value") exVE hf T ⟨rfl, rfl, by decide +kernel, rfl, rfl, rfl, by decide +kernel⟩ (by decide) (xcB_no hf (by simp [iniD])) (fun _ _ _ => ⟨_, rfl⟩) hs hr
    ⟨⟨_, rfl, rfl⟩, fun fd e u hp hd => by obtain ⟨n1, n2, n3, n4, n5, n6, n7, n8, n9, n10, n11, n12, n13, n14, n15⟩ := fd; cases hp; cases hd; rfl⟩
theorem ki_InvalidPlace (c : SaysX R.prog chk fn ini X.K) : PySem.W.keepIn X.K (.ref (He.ga X.K "InvalidPlace")) = true := ini_kC c 1 (d := iniD 2 "InvalidPlace" ["ValueError"] "ValueError.__new__" ["value"])
theorem p_InvalidPlace (c : SaysX R.prog chk fn ini X.K) (hs : X.mg "super" = none) (hr : RoomG (k + 1) X.A) (hP : R.prog = X.prog := by rfl) : CallS X (.ref (He.ga X.K "InvalidPlace")) [] (rM X.K W (mk1 "InvalidPlace" "value")) := by
  obtain ⟨T, hf, _⟩ := c.ini_ 1
  rw [hP] at T
  exact cs1 (cn := "InvalidPlace") (sf := "self") (v := "value") exVE hf T ⟨rfl, rfl, by decide +kernel, rfl, rfl, rfl, by decide +kernel⟩ (by decide) (xcB_no hf (by simp [iniD])) (fun _ _ _ => ⟨_, rfl⟩) hs hr
    ⟨⟨_, rfl, rfl⟩, fun fd e u hp hd => by obtain ⟨n1, n2, n3, n4, n5, n6, n7, n8, n9, n10, n11, n12, n13, n14, n15⟩ := fd; cases hp; cases hd; rfl⟩
theorem k_InvalidPlace (c : SaysX R.prog chk fn ini X.K) (hs : X.mg "super" = none) (hr : RoomG (k + 1) X.A) (hP : R.prog = X.prog := by rfl) : CallS X (.ref (He.ga X.K "InvalidPlace")) ["value"] (rM X.K W (mk1 "InvalidPlace" "value")) := by
  obtain ⟨T, hf, _⟩ := c.ini_ 1
  rw [hP] at T
  exact cs1 (cn := "InvalidPlace") (sf := "self") (v := "value") exVE hf T ⟨rfl, rfl, by decide +kernel, rfl, rfl, rfl, by decide +kernel⟩ (by decide) (xcB_no hf (by simp [iniD])) (fun _ _ _ => ⟨_, rfl⟩) hs hr
    ⟨⟨_, rfl, rfl⟩, fun fd e u hp hd => by obtain ⟨n1, n2, n3, n4, n5, n6, n7, n8, n9, n10, n11, n12, n13, n14, n15⟩ := fd; cases hp; cases hd; rfl⟩
theorem ki_InvalidRoad (c : SaysX R.prog chk fn ini X.K) : PySem.W.keepIn X.K (.ref (He.ga X.K "InvalidRoad")) = true := ini_kC c 2 (d := iniD 3 "InvalidRoad" ["ValueError"] "ValueError.__new__" ["value"])
theorem p_InvalidRoad (c : SaysX R.prog chk fn ini X.K) (hs : X.mg "super" = none) (hr : RoomG (k + 1) X.A) (hP : R.prog = X.prog := by rfl) : CallS X (.ref (He.ga X.K "InvalidRoad")) [] (rM X.K W (mk1 "InvalidRoad" "value")) := by
  obtain ⟨T, hf, _⟩ := c.ini_ 2
  rw [hP] at T
  exact cs1 (cn := "InvalidRoad") (sf := "self") (v := "value") exVE hf T ⟨rfl, rfl, by decide +kernel, rfl, rfl, rfl, by decide +kernel⟩ (by decide) (xcB_no hf (by simp [iniD])) (fun _ _ _ => ⟨_, rfl⟩) hs hr
    ⟨⟨_, rfl, rfl⟩, fun fd e u hp hd => by obtain ⟨n1, n2, n3, n4, n5, n6, n7, n8, n9, n10, n11, n12, n13, n14, n15⟩ := fd; cases hp; cases hd; rfl⟩
theorem k_InvalidRoad (c : SaysX R.prog chk fn ini X.K) (hs : X.mg "super" = none) (hr : RoomG (k + 1) X.A) (hP : R.prog = X.prog := by rfl) : CallS X (.ref (He.ga X.K "InvalidRoad")) ["value"] (rM X.K W (mk1 "InvalidRoad" "value")) := by
  obtain ⟨T, hf, _⟩ := c.ini_ 2
  rw [hP] at T
  exact cs1 (cn := "InvalidRoad") (sf := "self") (v := "value") exVE hf T ⟨rfl, rfl, by decide +kernel, rfl, rfl, rfl, by decide +kernel⟩ (by decide) (xcB_no hf (by simp [iniD])) (fun _ _ _ => ⟨_, rfl⟩) hs hr
    ⟨⟨_, rfl, rfl⟩, fun fd e u hp hd => by obtain ⟨n1, n2, n3, n4, n5, n6, n7, n8, n9, n10, n11, n12, n13, n14, n15⟩ := fd; cases hp; cases hd; rfl⟩
theorem ki_InvalidPrice (c : SaysX R.prog chk fn ini X.K) : PySem.W.keepIn X.K (.ref (He.ga X.K "InvalidPrice")) = true := ini_kC c 3 (d := iniD 4 "InvalidPrice" ["ValueError"] "ValueError.__new__" ["value"])
theorem p_InvalidPrice (c : SaysX R.prog chk fn ini X.K) (hs : X.mg "super" = none) (hr : RoomG (k + 1) X.A) (hP : R.prog = X.prog := by rfl) : CallS X (.ref (He.ga X.K "InvalidPrice")) [] (rM X.K W (mk1 "InvalidPrice" "value")) := by
  obtain ⟨T, hf, _⟩ := c.ini_ 3
  rw [hP] at T
  exact cs1 (cn := "InvalidPrice") (sf := "self") (v := "value") exVE hf T ⟨rfl, rfl, by decide +kernel, rfl, rfl, rfl, by decide +kernel⟩ (by decide) (xcB_no hf (by simp [iniD])) (fun _ _ _ => ⟨_, rfl⟩) hs hr
    ⟨⟨_, rfl, rfl⟩, fun fd e u hp hd => by obtain ⟨n1, n2, n3, n4, n5, n6, n7, n8, n9, n10, n11, n12, n13, n14, n15⟩ := fd; cases hp; cases hd; rfl⟩
theorem k_InvalidPrice (c : SaysX R.prog chk fn ini X.K) (hs : X.mg "super" = none) (hr : RoomG (k + 1) X.A) (hP : R.prog = X.prog := by rfl) : CallS X (.ref (He.ga X.K "InvalidPrice")) ["value"] (rM X.K W (mk1 "InvalidPrice" "value")) := by
  obtain ⟨T, hf, _⟩ := c.ini_ 3
  rw [hP] at T
  exact cs1 (cn := "InvalidPrice") (sf := "self") (v := "value") exVE hf T ⟨rfl, rfl, by decide +kernel, rfl, rfl, rfl, by decide +kernel⟩ (by decide) (xcB_no hf (by simp [iniD])) (fun _ _ _ => ⟨_, rfl⟩) hs hr
    ⟨⟨_, rfl, rfl⟩, fun fd e u hp hd => by obtain ⟨n1, n2, n3, n4, n5, n6, n7, n8, n9, n10, n11, n12, n13, n14, n15⟩ := fd; cases hp; cases hd; rfl⟩
theorem ki_InvalidText (c : SaysX R.prog chk fn ini X.K) : PySem.W.keepIn X.K (.ref (He.ga X.K "InvalidText")) = true := ini_kC c 4 (d := iniD 5 "InvalidText" ["ValueError"] "ValueError.__new__" ["line"])
theorem p_InvalidText (c : SaysX R.prog chk fn ini X.K) (hs : X.mg "super" = none) (hr : RoomG (k + 1) X.A) (hP : R.prog = X.prog := by rfl) : CallS X (.ref (He.ga X.K "InvalidText")) [] (rM X.K W (mk1 "InvalidText" "line")) := by
  obtain ⟨T, hf, _⟩ := c.ini_ 4
  rw [hP] at T
  exact cs1 (cn := "InvalidText") (sf := "self") (v := "line") exVE hf T ⟨rfl, rfl, by decide +kernel, rfl, rfl, rfl, by decide +kernel⟩ (by decide) (xcB_no hf (by simp [iniD])) (fun _ _ _ => ⟨_, rfl⟩) hs hr
    ⟨⟨_, rfl, rfl⟩, fun fd e u hp hd => by obtain ⟨n1, n2, n3, n4, n5, n6, n7, n8, n9, n10, n11, n12, n13, n14, n15⟩ := fd; cases hp; cases hd; rfl⟩
theorem k_InvalidText (c : SaysX R.prog chk fn ini X.K) (hs : X.mg "super" = none) (hr : RoomG (k + 1) X.A) (hP : R.prog = X.prog := by rfl) : CallS X (.ref (He.ga X.K "InvalidText")) ["line"] (rM X.K W (mk1 "InvalidText" "line")) := by
  obtain ⟨T, hf, _⟩ := c.ini_ 4
  rw [hP] at T
  exact cs1 (cn := "InvalidText") (sf := "self") (v := "line") exVE hf T ⟨rfl, rfl, by decide +kernel, rfl, rfl, rfl, by decide +kernel⟩ (by decide) (xcB_no hf (by simp [iniD])) (fun _ _ _ => ⟨_, rfl⟩) hs hr
    ⟨⟨_, rfl, rfl⟩, fun fd e u hp hd => by obtain ⟨n1, n2, n3, n4, n5, n6, n7, n8, n9, n10, n11, n12, n13, n14, n15⟩ := fd; cases hp; cases hd; rfl⟩
theorem ki_InvalidChange (c : SaysX R.prog chk fn ini X.K) : PySem.W.keepIn X.K (.ref (He.ga X.K "InvalidChange")) = true := ini_kC c 5 (d := iniD 6 "InvalidChange" ["ValueError"] "ValueError.__new__" ["index"])
theorem p_InvalidChange (c : SaysX R.prog chk fn ini X.K) (hs : X.mg "super" = none) (hr : RoomG (k + 1) X.A) (hP : R.prog = X.prog := by rfl) : CallS X (.ref (He.ga X.K "InvalidChange")) [] (rM X.K W (mk1 "InvalidChange" "index")) := by
  obtain ⟨T, hf, _⟩ := c.ini_ 5
  rw [hP] at T
  exact cs1 (cn := "InvalidChange") (sf := "self") (v := "index") exVE hf T ⟨rfl, rfl, by decide +kernel, rfl, rfl, rfl, by decide +kernel⟩ (by decide) (xcB_no hf (by simp [iniD])) (fun _ _ _ => ⟨_, rfl⟩) hs hr
    ⟨⟨_, rfl, rfl⟩, fun fd e u hp hd => by obtain ⟨n1, n2, n3, n4, n5, n6, n7, n8, n9, n10, n11, n12, n13, n14, n15⟩ := fd; cases hp; cases hd; rfl⟩
theorem k_InvalidChange (c : SaysX R.prog chk fn ini X.K) (hs : X.mg "super" = none) (hr : RoomG (k + 1) X.A) (hP : R.prog = X.prog := by rfl) : CallS X (.ref (He.ga X.K "InvalidChange")) ["index"] (rM X.K W (mk1 "InvalidChange" "index")) := by
  obtain ⟨T, hf, _⟩ := c.ini_ 5
  rw [hP] at T
  exact cs1 (cn := "InvalidChange") (sf := "self") (v := "index") exVE hf T ⟨rfl, rfl, by decide +kernel, rfl, rfl, rfl, by decide +kernel⟩ (by decide) (xcB_no hf (by simp [iniD])) (fun _ _ _ => ⟨_, rfl⟩) hs hr
    ⟨⟨_, rfl, rfl⟩, fun fd e u hp hd => by obtain ⟨n1, n2, n3, n4, n5, n6, n7, n8, n9, n10, n11, n12, n13, n14, n15⟩ := fd; cases hp; cases hd; rfl⟩
theorem ki_InvalidCommand (c : SaysX R.prog chk fn ini X.K) : PySem.W.keepIn X.K (.ref (He.ga X.K "InvalidCommand")) = true := ini_kC c 6 (d := iniD 7 "InvalidCommand" ["ValueError"] "ValueError.__new__" ["line"])
theorem p_InvalidCommand (c : SaysX R.prog chk fn ini X.K) (hs : X.mg "super" = none) (hr : RoomG (k + 1) X.A) (hP : R.prog = X.prog := by rfl) : CallS X (.ref (He.ga X.K "InvalidCommand")) [] (rM X.K W (mk1 "InvalidCommand" "line")) := by
  obtain ⟨T, hf, _⟩ := c.ini_ 6
  rw [hP] at T
  exact cs1 (cn := "InvalidCommand") (sf := "self") (v := "line") exVE hf T ⟨rfl, rfl, by decide +kernel, rfl, rfl, rfl, by decide +kernel⟩ (by decide) (xcB_no hf (by simp [iniD])) (fun _ _ _ => ⟨_, rfl⟩) hs hr
    ⟨⟨_, rfl, rfl⟩, fun fd e u hp hd => by obtain ⟨n1, n2, n3, n4, n5, n6, n7, n8, n9, n10, n11, n12, n13, n14, n15⟩ := fd; cases hp; cases hd; rfl⟩
theorem k_InvalidCommand (c : SaysX R.prog chk fn ini X.K) (hs : X.mg "super" = none) (hr : RoomG (k + 1) X.A) (hP : R.prog = X.prog := by rfl) : CallS X (.ref (He.ga X.K "InvalidCommand")) ["line"] (rM X.K W (mk1 "InvalidCommand" "line")) := by
  obtain ⟨T, hf, _⟩ := c.ini_ 6
  rw [hP] at T
  exact cs1 (cn := "InvalidCommand") (sf := "self") (v := "line") exVE hf T ⟨rfl, rfl, by decide +kernel, rfl, rfl, rfl, by decide +kernel⟩ (by decide) (xcB_no hf (by simp [iniD])) (fun _ _ _ => ⟨_, rfl⟩) hs hr
    ⟨⟨_, rfl, rfl⟩, fun fd e u hp hd => by obtain ⟨n1, n2, n3, n4, n5, n6, n7, n8, n9, n10, n11, n12, n13, n14, n15⟩ := fd; cases hp; cases hd; rfl⟩
theorem ki_InvalidTimes (c : SaysX R.prog chk fn ini X.K) : PySem.W.keepIn X.K (.ref (He.ga X.K "InvalidTimes")) = true := ini_kC c 7 (d := iniD 8 "InvalidTimes" ["ValueError"] "ValueError.__new__" ["value"])
theorem p_InvalidTimes (c : SaysX R.prog chk fn ini X.K) (hs : X.mg "super" = none) (hr : RoomG (k + 1) X.A) (hP : R.prog = X.prog := by rfl) : CallS X (.ref (He.ga X.K "InvalidTimes")) [] (rM X.K W (mk1 "InvalidTimes" "value")) := by
  obtain ⟨T, hf, _⟩ := c.ini_ 7
  rw [hP] at T
  exact cs1 (cn := "InvalidTimes") (sf := "self") (v := "value") exVE hf T ⟨rfl, rfl, by decide +kernel, rfl, rfl, rfl, by decide +kernel⟩ (by decide) (xcB_no hf (by simp [iniD])) (fun _ _ _ => ⟨_, rfl⟩) hs hr
    ⟨⟨_, rfl, rfl⟩, fun fd e u hp hd => by obtain ⟨n1, n2, n3, n4, n5, n6, n7, n8, n9, n10, n11, n12, n13, n14, n15⟩ := fd; cases hp; cases hd; rfl⟩
theorem k_InvalidTimes (c : SaysX R.prog chk fn ini X.K) (hs : X.mg "super" = none) (hr : RoomG (k + 1) X.A) (hP : R.prog = X.prog := by rfl) : CallS X (.ref (He.ga X.K "InvalidTimes")) ["value"] (rM X.K W (mk1 "InvalidTimes" "value")) := by
  obtain ⟨T, hf, _⟩ := c.ini_ 7
  rw [hP] at T
  exact cs1 (cn := "InvalidTimes") (sf := "self") (v := "value") exVE hf T ⟨rfl, rfl, by decide +kernel, rfl, rfl, rfl, by decide +kernel⟩ (by decide) (xcB_no hf (by simp [iniD])) (fun _ _ _ => ⟨_, rfl⟩) hs hr
    ⟨⟨_, rfl, rfl⟩, fun fd e u hp hd => by obtain ⟨n1, n2, n3, n4, n5, n6, n7, n8, n9, n10, n11, n12, n13, n14, n15⟩ := fd; cases hp; cases hd; rfl⟩
theorem ki_NoStand (c : SaysX R.prog chk fn ini X.K) : PySem.W.keepIn X.K (.ref (He.ga X.K "NoStand")) = true := ini_kC c 8 (d := iniD 9 "NoStand" ["ValueError"] "ValueError.__new__" ["value"])
theorem p_NoStand (c : SaysX R.prog chk fn ini X.K) (hs : X.mg "super" = none) (hr : RoomG (k + 1) X.A) (hP : R.prog = X.prog := by rfl) : CallS X (.ref (He.ga X.K "NoStand")) [] (rM X.K W (mk1 "NoStand" "value")) := by
  obtain ⟨T, hf, _⟩ := c.ini_ 8
  rw [hP] at T
  exact cs1 (cn := "NoStand") (sf := "self") (v := "value") exVE hf T ⟨rfl, rfl, by decide +kernel, rfl, rfl, rfl, by decide +kernel⟩ (by decide) (xcB_no hf (by simp [iniD])) (fun _ _ _ => ⟨_, rfl⟩) hs hr
    ⟨⟨_, rfl, rfl⟩, fun fd e u hp hd => by obtain ⟨n1, n2, n3, n4, n5, n6, n7, n8, n9, n10, n11, n12, n13, n14, n15⟩ := fd; cases hp; cases hd; rfl⟩
theorem k_NoStand (c : SaysX R.prog chk fn ini X.K) (hs : X.mg "super" = none) (hr : RoomG (k + 1) X.A) (hP : R.prog = X.prog := by rfl) : CallS X (.ref (He.ga X.K "NoStand")) ["value"] (rM X.K W (mk1 "NoStand" "value")) := by
  obtain ⟨T, hf, _⟩ := c.ini_ 8
  rw [hP] at T
  exact cs1 (cn := "NoStand") (sf := "self") (v := "value") exVE hf T ⟨rfl, rfl, by decide +kernel, rfl, rfl, rfl, by decide +kernel⟩ (by decide) (xcB_no hf (by simp [iniD])) (fun _ _ _ => ⟨_, rfl⟩) hs hr
    ⟨⟨_, rfl, rfl⟩, fun fd e u hp hd => by obtain ⟨n1, n2, n3, n4, n5, n6, n7, n8, n9, n10, n11, n12, n13, n14, n15⟩ := fd; cases hp; cases hd; rfl⟩
theorem ki_NoGoal (c : SaysX R.prog chk fn ini X.K) : PySem.W.keepIn X.K (.ref (He.ga X.K "NoGoal")) = true := ini_kC c 9 (d := iniD 10 "NoGoal" ["ValueError"] "ValueError.__new__" ["value"])
theorem p_NoGoal (c : SaysX R.prog chk fn ini X.K) (hs : X.mg "super" = none) (hr : RoomG (k + 1) X.A) (hP : R.prog = X.prog := by rfl) : CallS X (.ref (He.ga X.K "NoGoal")) [] (rM X.K W (mk1 "NoGoal" "value")) := by
  obtain ⟨T, hf, _⟩ := c.ini_ 9
  rw [hP] at T
  exact cs1 (cn := "NoGoal") (sf := "self") (v := "value") exVE hf T ⟨rfl, rfl, by decide +kernel, rfl, rfl, rfl, by decide +kernel⟩ (by decide) (xcB_no hf (by simp [iniD])) (fun _ _ _ => ⟨_, rfl⟩) hs hr
    ⟨⟨_, rfl, rfl⟩, fun fd e u hp hd => by obtain ⟨n1, n2, n3, n4, n5, n6, n7, n8, n9, n10, n11, n12, n13, n14, n15⟩ := fd; cases hp; cases hd; rfl⟩
theorem k_NoGoal (c : SaysX R.prog chk fn ini X.K) (hs : X.mg "super" = none) (hr : RoomG (k + 1) X.A) (hP : R.prog = X.prog := by rfl) : CallS X (.ref (He.ga X.K "NoGoal")) ["value"] (rM X.K W (mk1 "NoGoal" "value")) := by
  obtain ⟨T, hf, _⟩ := c.ini_ 9
  rw [hP] at T
  exact cs1 (cn := "NoGoal") (sf := "self") (v := "value") exVE hf T ⟨rfl, rfl, by decide +kernel, rfl, rfl, rfl, by decide +kernel⟩ (by decide) (xcB_no hf (by simp [iniD])) (fun _ _ _ => ⟨_, rfl⟩) hs hr
    ⟨⟨_, rfl, rfl⟩, fun fd e u hp hd => by obtain ⟨n1, n2, n3, n4, n5, n6, n7, n8, n9, n10, n11, n12, n13, n14, n15⟩ := fd; cases hp; cases hd; rfl⟩
theorem ki_NoAct (c : SaysX R.prog chk fn ini X.K) : PySem.W.keepIn X.K (.ref (He.ga X.K "NoAct")) = true := ini_kC c 10 (d := iniD 11 "NoAct" ["ValueError"] "ValueError.__new__" ["index", "why"])
theorem p_NoAct (c : SaysX R.prog chk fn ini X.K) (hs : X.mg "super" = none) (hr : RoomG (k + 1) X.A) (hP : R.prog = X.prog := by rfl) : CallS X (.ref (He.ga X.K "NoAct")) [] (rM X.K W (mk2 "NoAct" "index" "why")) := by
  obtain ⟨T, hf, _⟩ := c.ini_ 10
  rw [hP] at T
  exact cs2 (cn := "NoAct") (sf := "self") (v1 := "index") (v2 := "why") exVE hf T ⟨rfl, rfl, by decide +kernel, rfl, rfl, rfl, by decide +kernel⟩ (by decide) (by decide) (by decide) (by decide) (xcB_no hf (by simp [iniD])) (xcB_no hf (by simp [iniD])) (fun _ _ _ => ⟨_, rfl⟩) hs hr
    ⟨⟨_, rfl, rfl⟩, fun fd e u1 u2 hp hd => by obtain ⟨n1, n2, n3, n4, n5, n6, n7, n8, n9, n10, n11, n12, n13, n14, n15⟩ := fd; cases hp; cases hd; rfl, fun fd e u1 u2 hp hd => by obtain ⟨n1, n2, n3, n4, n5, n6, n7, n8, n9, n10, n11, n12, n13, n14, n15⟩ := fd; cases hp; cases hd; rfl⟩
theorem k_NoAct (c : SaysX R.prog chk fn ini X.K) (hs : X.mg "super" = none) (hr : RoomG (k + 1) X.A) (hP : R.prog = X.prog := by rfl) : CallS X (.ref (He.ga X.K "NoAct")) ["why", "index"] (rM X.K W (mk2r "NoAct" "index" "why")) := by
  obtain ⟨T, hf, _⟩ := c.ini_ 10
  rw [hP] at T
  exact cs2r (cn := "NoAct") (sf := "self") (v1 := "index") (v2 := "why") exVE hf T ⟨rfl, rfl, by decide +kernel, rfl, rfl, rfl, by decide +kernel⟩ (by decide) (by decide) (by decide) (by decide) (xcB_no hf (by simp [iniD])) (xcB_no hf (by simp [iniD])) (fun _ _ _ => ⟨_, rfl⟩) hs hr
    ⟨⟨_, rfl, rfl⟩, fun fd e u1 u2 hp hd => by obtain ⟨n1, n2, n3, n4, n5, n6, n7, n8, n9, n10, n11, n12, n13, n14, n15⟩ := fd; cases hp; cases hd; rfl, fun fd e u1 u2 hp hd => by obtain ⟨n1, n2, n3, n4, n5, n6, n7, n8, n9, n10, n11, n12, n13, n14, n15⟩ := fd; cases hp; cases hd; rfl⟩
theorem q_OtherNetwork (c : SaysX R.prog chk fn ini X.K) : CallS X (.ref (He.ga X.K "OtherNetwork")) [] (rM X.K W (mk0 "OtherNetwork")) := cs0 (cn := "OtherNetwork") F.excBase_ValueError (exc0_ok c 0).2.2 (exc0_ok c 0).1
theorem kc0_OtherNetwork (c : SaysX R.prog chk fn ini X.K) : PySem.W.keepIn X.K (.ref (He.ga X.K "OtherNetwork")) = true := (exc0_ok c 0).2.1
theorem q_OtherTank (c : SaysX R.prog chk fn ini X.K) : CallS X (.ref (He.ga X.K "OtherTank")) [] (rM X.K W (mk0 "OtherTank")) := cs0 (cn := "OtherTank") F.excBase_ValueError (exc0_ok c 1).2.2 (exc0_ok c 1).1
theorem kc0_OtherTank (c : SaysX R.prog chk fn ini X.K) : PySem.W.keepIn X.K (.ref (He.ga X.K "OtherTank")) = true := (exc0_ok c 1).2.1
theorem q_NotJoined (c : SaysX R.prog chk fn ini X.K) : CallS X (.ref (He.ga X.K "NotJoined")) [] (rM X.K W (mk0 "NotJoined")) := cs0 (cn := "NotJoined") F.excBase_ValueError (exc0_ok c 2).2.2 (exc0_ok c 2).1
theorem kc0_NotJoined (c : SaysX R.prog chk fn ini X.K) : PySem.W.keepIn X.K (.ref (He.ga X.K "NotJoined")) = true := (exc0_ok c 2).2.1
theorem ki_UnknownPlace (c : SaysX R.prog chk fn ini X.K) : PySem.W.keepIn X.K (.ref (He.ga X.K "UnknownPlace")) = true := ini_kC c 11 (d := iniD 15 "UnknownPlace" ["KeyError", "LookupError"] "LookupError.__new__" ["value"])
theorem p_UnknownPlace (c : SaysX R.prog chk fn ini X.K) (hs : X.mg "super" = none) (hr : RoomG (k + 1) X.A) (hP : R.prog = X.prog := by rfl) : CallS X (.ref (He.ga X.K "UnknownPlace")) [] (rM X.K W (mk1 "UnknownPlace" "value")) := by
  obtain ⟨T, hf, _⟩ := c.ini_ 11
  rw [hP] at T
  exact cs1 (cn := "UnknownPlace") (sf := "self") (v := "value") exKE hf T ⟨rfl, rfl, by decide +kernel, rfl, rfl, rfl, by decide +kernel⟩ (by decide) (xcB_no hf (by simp [iniD])) (fun _ _ _ => ⟨_, rfl⟩) hs hr
    ⟨⟨_, rfl, rfl⟩, fun fd e u hp hd => by obtain ⟨n1, n2, n3, n4, n5, n6, n7, n8, n9, n10, n11, n12, n13, n14, n15⟩ := fd; cases hp; cases hd; rfl⟩
theorem k_UnknownPlace (c : SaysX R.prog chk fn ini X.K) (hs : X.mg "super" = none) (hr : RoomG (k + 1) X.A) (hP : R.prog = X.prog := by rfl) : CallS X (.ref (He.ga X.K "UnknownPlace")) ["value"] (rM X.K W (mk1 "UnknownPlace" "value")) := by
  obtain ⟨T, hf, _⟩ := c.ini_ 11
  rw [hP] at T
  exact cs1 (cn := "UnknownPlace") (sf := "self") (v := "value") exKE hf T ⟨rfl, rfl, by decide +kernel, rfl, rfl, rfl, by decide +kernel⟩ (by decide) (xcB_no hf (by simp [iniD])) (fun _ _ _ => ⟨_, rfl⟩) hs hr
    ⟨⟨_, rfl, rfl⟩, fun fd e u hp hd => by obtain ⟨n1, n2, n3, n4, n5, n6, n7, n8, n9, n10, n11, n12, n13, n14, n15⟩ := fd; cases hp; cases hd; rfl⟩
theorem ki_UnknownRoad (c : SaysX R.prog chk fn ini X.K) : PySem.W.keepIn X.K (.ref (He.ga X.K "UnknownRoad")) = true := ini_kC c 12 (d := iniD 16 "UnknownRoad" ["KeyError", "LookupError"] "LookupError.__new__" ["value"])
theorem p_UnknownRoad (c : SaysX R.prog chk fn ini X.K) (hs : X.mg "super" = none) (hr : RoomG (k + 1) X.A) (hP : R.prog = X.prog := by rfl) : CallS X (.ref (He.ga X.K "UnknownRoad")) [] (rM X.K W (mk1 "UnknownRoad" "value")) := by
  obtain ⟨T, hf, _⟩ := c.ini_ 12
  rw [hP] at T
  exact cs1 (cn := "UnknownRoad") (sf := "self") (v := "value") exKE hf T ⟨rfl, rfl, by decide +kernel, rfl, rfl, rfl, by decide +kernel⟩ (by decide) (xcB_no hf (by simp [iniD])) (fun _ _ _ => ⟨_, rfl⟩) hs hr
    ⟨⟨_, rfl, rfl⟩, fun fd e u hp hd => by obtain ⟨n1, n2, n3, n4, n5, n6, n7, n8, n9, n10, n11, n12, n13, n14, n15⟩ := fd; cases hp; cases hd; rfl⟩
theorem k_UnknownRoad (c : SaysX R.prog chk fn ini X.K) (hs : X.mg "super" = none) (hr : RoomG (k + 1) X.A) (hP : R.prog = X.prog := by rfl) : CallS X (.ref (He.ga X.K "UnknownRoad")) ["value"] (rM X.K W (mk1 "UnknownRoad" "value")) := by
  obtain ⟨T, hf, _⟩ := c.ini_ 12
  rw [hP] at T
  exact cs1 (cn := "UnknownRoad") (sf := "self") (v := "value") exKE hf T ⟨rfl, rfl, by decide +kernel, rfl, rfl, rfl, by decide +kernel⟩ (by decide) (xcB_no hf (by simp [iniD])) (fun _ _ _ => ⟨_, rfl⟩) hs hr
    ⟨⟨_, rfl, rfl⟩, fun fd e u hp hd => by obtain ⟨n1, n2, n3, n4, n5, n6, n7, n8, n9, n10, n11, n12, n13, n14, n15⟩ := fd; cases hp; cases hd; rfl⟩
theorem ki_OutOfRange (c : SaysX R.prog chk fn ini X.K) : PySem.W.keepIn X.K (.ref (He.ga X.K "OutOfRange")) = true := ini_kC c 13 (d := iniD 17 "OutOfRange" ["IndexError", "LookupError"] "IndexError.__new__" ["value"])
theorem p_OutOfRange (c : SaysX R.prog chk fn ini X.K) (hs : X.mg "super" = none) (hr : RoomG (k + 1) X.A) (hP : R.prog = X.prog := by rfl) : CallS X (.ref (He.ga X.K "OutOfRange")) [] (rM X.K W (mk1 "OutOfRange" "value")) := by
  obtain ⟨T, hf, _⟩ := c.ini_ 13
  rw [hP] at T
  exact cs1 (cn := "OutOfRange") (sf := "self") (v := "value") exIE hf T ⟨rfl, rfl, by decide +kernel, rfl, rfl, rfl, by decide +kernel⟩ (by decide) (xcB_no hf (by simp [iniD])) (fun _ _ _ => ⟨_, rfl⟩) hs hr
    ⟨⟨_, rfl, rfl⟩, fun fd e u hp hd => by obtain ⟨n1, n2, n3, n4, n5, n6, n7, n8, n9, n10, n11, n12, n13, n14, n15⟩ := fd; cases hp; cases hd; rfl⟩
theorem k_OutOfRange (c : SaysX R.prog chk fn ini X.K) (hs : X.mg "super" = none) (hr : RoomG (k + 1) X.A) (hP : R.prog = X.prog := by rfl) : CallS X (.ref (He.ga X.K "OutOfRange")) ["value"] (rM X.K W (mk1 "OutOfRange" "value")) := by
  obtain ⟨T, hf, _⟩ := c.ini_ 13
  rw [hP] at T
  exact cs1 (cn := "OutOfRange") (sf := "self") (v := "value") exIE hf T ⟨rfl, rfl, by decide +kernel, rfl, rfl, rfl, by decide +kernel⟩ (by decide) (xcB_no hf (by simp [iniD])) (fun _ _ _ => ⟨_, rfl⟩) hs hr
    ⟨⟨_, rfl, rfl⟩, fun fd e u hp hd => by obtain ⟨n1, n2, n3, n4, n5, n6, n7, n8, n9, n10, n11, n12, n13, n14, n15⟩ := fd; cases hp; cases hd; rfl⟩
theorem ki_Unreached (c : SaysX R.prog chk fn ini X.K) : PySem.W.keepIn X.K (.ref (He.ga X.K "Unreached")) = true := ini_kC c 14 (d := iniD 18 "Unreached" ["LookupError"] "LookupError.__new__" ["fence"])
theorem p_Unreached (c : SaysX R.prog chk fn ini X.K) (hs : X.mg "super" = none) (hr : RoomG (k + 1) X.A) (hP : R.prog = X.prog := by rfl) : CallS X (.ref (He.ga X.K "Unreached")) [] (rM X.K W (mk1 "Unreached" "fence")) := by
  obtain ⟨T, hf, _⟩ := c.ini_ 14
  rw [hP] at T
  exact cs1 (cn := "Unreached") (sf := "self") (v := "fence") exLE hf T ⟨rfl, rfl, by decide +kernel, rfl, rfl, rfl, by decide +kernel⟩ (by decide) (xcB_no hf (by simp [iniD])) (fun _ _ _ => ⟨_, rfl⟩) hs hr
    ⟨⟨_, rfl, rfl⟩, fun fd e u hp hd => by obtain ⟨n1, n2, n3, n4, n5, n6, n7, n8, n9, n10, n11, n12, n13, n14, n15⟩ := fd; cases hp; cases hd; rfl⟩
theorem k_Unreached (c : SaysX R.prog chk fn ini X.K) (hs : X.mg "super" = none) (hr : RoomG (k + 1) X.A) (hP : R.prog = X.prog := by rfl) : CallS X (.ref (He.ga X.K "Unreached")) ["fence"] (rM X.K W (mk1 "Unreached" "fence")) := by
  obtain ⟨T, hf, _⟩ := c.ini_ 14
  rw [hP] at T
  exact cs1 (cn := "Unreached") (sf := "self") (v := "fence") exLE hf T ⟨rfl, rfl, by decide +kernel, rfl, rfl, rfl, by decide +kernel⟩ (by decide) (xcB_no hf (by simp [iniD])) (fun _ _ _ => ⟨_, rfl⟩) hs hr
    ⟨⟨_, rfl, rfl⟩, fun fd e u hp hd => by obtain ⟨n1, n2, n3, n4, n5, n6, n7, n8, n9, n10, n11, n12, n13, n14, n15⟩ := fd; cases hp; cases hd; rfl⟩
theorem ki_TooMany (c : SaysX R.prog chk fn ini X.K) : PySem.W.keepIn X.K (.ref (He.ga X.K "TooMany")) = true := ini_kC c 15 (d := iniD 19 "TooMany" ["OverflowError", "ArithmeticError"] "OverflowError.__new__" ["limit"])
theorem p_TooMany (c : SaysX R.prog chk fn ini X.K) (hs : X.mg "super" = none) (hr : RoomG (k + 1) X.A) (hP : R.prog = X.prog := by rfl) : CallS X (.ref (He.ga X.K "TooMany")) [] (rM X.K W (mk1 "TooMany" "limit")) := by
  obtain ⟨T, hf, _⟩ := c.ini_ 15
  rw [hP] at T
  exact cs1 (cn := "TooMany") (sf := "self") (v := "limit") exOE hf T ⟨rfl, rfl, by decide +kernel, rfl, rfl, rfl, by decide +kernel⟩ (by decide) (xcB_no hf (by simp [iniD])) (fun _ _ _ => ⟨_, rfl⟩) hs hr
    ⟨⟨_, rfl, rfl⟩, fun fd e u hp hd => by obtain ⟨n1, n2, n3, n4, n5, n6, n7, n8, n9, n10, n11, n12, n13, n14, n15⟩ := fd; cases hp; cases hd; rfl⟩
theorem k_TooMany (c : SaysX R.prog chk fn ini X.K) (hs : X.mg "super" = none) (hr : RoomG (k + 1) X.A) (hP : R.prog = X.prog := by rfl) : CallS X (.ref (He.ga X.K "TooMany")) ["limit"] (rM X.K W (mk1 "TooMany" "limit")) := by
  obtain ⟨T, hf, _⟩ := c.ini_ 15
  rw [hP] at T
  exact cs1 (cn := "TooMany") (sf := "self") (v := "limit") exOE hf T ⟨rfl, rfl, by decide +kernel, rfl, rfl, rfl, by decide +kernel⟩ (by decide) (xcB_no hf (by simp [iniD])) (fun _ _ _ => ⟨_, rfl⟩) hs hr
    ⟨⟨_, rfl, rfl⟩, fun fd e u hp hd => by obtain ⟨n1, n2, n3, n4, n5, n6, n7, n8, n9, n10, n11, n12, n13, n14, n15⟩ := fd; cases hp; cases hd; rfl⟩
theorem ki_Pumped (c : SaysX R.prog chk fn ini X.K) : PySem.W.keepIn X.K (.ref (He.ga X.K "Pumped")) = true := ini_kC c 16 (d := iniD 20 "Pumped" ["OverflowError", "ArithmeticError"] "OverflowError.__new__" ["plan"])
theorem p_Pumped (c : SaysX R.prog chk fn ini X.K) (hs : X.mg "super" = none) (hr : RoomG (k + 1) X.A) (hP : R.prog = X.prog := by rfl) : CallS X (.ref (He.ga X.K "Pumped")) [] (rM X.K W (mk1 "Pumped" "plan")) := by
  obtain ⟨T, hf, _⟩ := c.ini_ 16
  rw [hP] at T
  exact cs1 (cn := "Pumped") (sf := "self") (v := "plan") exOE hf T ⟨rfl, rfl, by decide +kernel, rfl, rfl, rfl, by decide +kernel⟩ (by decide) (xcB_no hf (by simp [iniD])) (fun _ _ _ => ⟨_, rfl⟩) hs hr
    ⟨⟨_, rfl, rfl⟩, fun fd e u hp hd => by obtain ⟨n1, n2, n3, n4, n5, n6, n7, n8, n9, n10, n11, n12, n13, n14, n15⟩ := fd; cases hp; cases hd; rfl⟩
theorem k_Pumped (c : SaysX R.prog chk fn ini X.K) (hs : X.mg "super" = none) (hr : RoomG (k + 1) X.A) (hP : R.prog = X.prog := by rfl) : CallS X (.ref (He.ga X.K "Pumped")) ["plan"] (rM X.K W (mk1 "Pumped" "plan")) := by
  obtain ⟨T, hf, _⟩ := c.ini_ 16
  rw [hP] at T
  exact cs1 (cn := "Pumped") (sf := "self") (v := "plan") exOE hf T ⟨rfl, rfl, by decide +kernel, rfl, rfl, rfl, by decide +kernel⟩ (by decide) (xcB_no hf (by simp [iniD])) (fun _ _ _ => ⟨_, rfl⟩) hs hr
    ⟨⟨_, rfl, rfl⟩, fun fd e u hp hd => by obtain ⟨n1, n2, n3, n4, n5, n6, n7, n8, n9, n10, n11, n12, n13, n14, n15⟩ := fd; cases hp; cases hd; rfl⟩
theorem q_NothingToUndo (c : SaysX R.prog chk fn ini X.K) : CallS X (.ref (He.ga X.K "NothingToUndo")) [] (rM X.K W (mk0 "NothingToUndo")) := cs0 (cn := "NothingToUndo") F.excBase_RuntimeError (exc0_ok c 3).2.2 (exc0_ok c 3).1
theorem kc0_NothingToUndo (c : SaysX R.prog chk fn ini X.K) : PySem.W.keepIn X.K (.ref (He.ga X.K "NothingToUndo")) = true := (exc0_ok c 3).2.1
theorem q_NothingToRedo (c : SaysX R.prog chk fn ini X.K) : CallS X (.ref (He.ga X.K "NothingToRedo")) [] (rM X.K W (mk0 "NothingToRedo")) := cs0 (cn := "NothingToRedo") F.excBase_RuntimeError (exc0_ok c 4).2.2 (exc0_ok c 4).1
theorem kc0_NothingToRedo (c : SaysX R.prog chk fn ini X.K) : PySem.W.keepIn X.K (.ref (He.ga X.K "NothingToRedo")) = true := (exc0_ok c 4).2.1
theorem q_InTrial (c : SaysX R.prog chk fn ini X.K) : CallS X (.ref (He.ga X.K "InTrial")) [] (rM X.K W (mk0 "InTrial")) := cs0 (cn := "InTrial") F.excBase_RuntimeError (exc0_ok c 5).2.2 (exc0_ok c 5).1
theorem kc0_InTrial (c : SaysX R.prog chk fn ini X.K) : PySem.W.keepIn X.K (.ref (He.ga X.K "InTrial")) = true := (exc0_ok c 5).2.1
end
section
variable {w : World} {K : PySem.W.Frag} {mg : Str → Option Value} {base h : Heap} (KX : K.In h) (G : h.Ns mainGlobals mg) (c : SaysX R.prog chk fn ini K)
include KX G c
omit KX G c in
abbrev N__law_values : List Str := ["_law_script", "_law_some", "_law_turn", "_law_more", "_law_cell"]
omit KX G c in
theorem nd__law_values : N__law_values.Nodup := by decide +kernel
omit KX G c in
def g__law_values : SF := (sSeq (sSet 1 (fN mkL (aCons (fC .non) (aCons (fC (.bl true)) (aCons (fC (.bl false)) (aCons (fC (.int 0)) (aCons (f1 gNeg (fC (.int 7))) (aCons (f2 gPowI (fC (.int 10)) (fC (.int 59))) (aCons (fC (.str "")) (aCons (fC (.str "a")) (aCons (fC (.str "A b")) (aCons (fN mkT aNil) (aCons (fN mkT (aCons (fC (.str "a")) (aCons (fC (.int 1)) aNil))) (aCons (fN mkL aNil) (aCons (fC (.dK [])) (aCons (f1 (gD1 (.inr "a")) (fN mkL (aCons (fC (.int 1)) aNil))) (aCons (fN mkT (aCons (fC .non) (aCons (fN mkL (aCons (fN mkT aNil) aNil)) aNil))) aNil))))))))))))))))) (sSeq (sSet 2 (fIf (fB (f2 gNe (fVar 0) (fN mkL aNil))) (f2 gModI (fN (on1 gAbs) (aCons (fN (on1 gSum) (aCons (fSl (fVar 0) fNoPart (fPart (fC (.int 63)))) aNil)) aNil)) (fN (on1 gLen) (aCons (fVar 1) aNil))) (fC (.int 0)))) (sSeq (sSet 3 (fComp lstOf 4 (fSl (fVar 0) fNoPart (fPart (fC (.int 4)))) tYesF (f2 gModI (fN (on1 gInt) (aCons (fVar 4) aNil)) (f2 gPowI (fC (.int 10)) (fC (.int 59)))))) (sRet (f2 gAdd (f2 gAdd (fSl (fVar 1) (fPart (fVar 2)) fNoPart) (fSl (fVar 1) fNoPart (fPart (fVar 2)))) (fN mkL (aCons (f2 gMul (fVar 2) (fC (.int 1009))) (aCons (fN mkT (aCons (f2 gMul (fC (.str "a")) (fVar 2)) (aCons (fVar 2) aNil))) (aCons (fVar 3) (aCons (fN mkT (aCons (fN (on1 gTuple) (aCons (fVar 3) aNil)) (aCons (f1 (gD1 (.inr "a")) (fN mkL (aCons (fVar 3) aNil))) aNil))) aNil))))))))))
omit KX G c in
def M__law_values : List D → Eta → Res D := runS N__law_values 1 g__law_values
theorem ok__law_values : ∃ fd, Binds K fd ["_law_script"] [] ∧ PySem.W.keepIn K (.ref (He.ga K "_law_values")) = true ∧ FnG R.prog w K mg base 2 (He.ga K "_law_values") fd ["_law_script"] M__law_values ∧ ∃ oc od osl, K.lookup (He.ga K "_law_values") = some ⟨oc, od, .func fd, osl⟩ := by
  have hS := c.parts.2.1
  obtain ⟨fd, F⟩ := c.def_ 0
  refine ⟨fd, F.bindsN (fun _ _ _ _ _ _ us hl => match us, hl with | [_], _ => rfl), F.kp, fn_ofG (k := 1) F (N := N__law_values) ⟨rfl, rfl, rfl, by decide +kernel, rfl, by decide +kernel, by decide +kernel⟩ fun cdv A outer s H E hr => ?_, ?_⟩
  · exact (ts_cons (ts_set nd__law_values rfl (by first | exact Or.inl rfl | exact Or.inr rfl) (td_lst (ta_cons td_non (ta_cons td_bl (ta_cons td_bl (ta_cons td_int (ta_cons (td_un o_neg td_int) (ta_cons (td_op o_powI td_int td_int) (ta_cons td_str (ta_cons td_str (ta_cons td_str (ta_cons (td_tup ta_nil) (ta_cons (td_tup (ta_cons td_str (ta_cons td_int ta_nil))) (ta_cons (td_lst ta_nil) (ta_cons td_d0 (ta_cons (td_d1 (td_lst (ta_cons td_int ta_nil))) (ta_cons (td_tup (ta_cons td_non (ta_cons (td_lst (ta_cons (td_tup ta_nil) ta_nil)) ta_nil))) ta_nil))))))))))))))))) (ts_cons (ts_set nd__law_values rfl (by first | exact Or.inl rfl | exact Or.inr rfl) (td_if (tt_cmp (o_ne hr.r.units) (tv 0) (td_lst ta_nil) (nomark _)) (td_op o_modI (td_cb c_abs rfl (gf KX G c 37) (by decide +kernel) (ta_cons (td_cb (c_sum rfl) rfl (gf KX G c 43) (by decide +kernel) (ta_cons (td_sl (tv 0) to_none (to_some td_int)) ta_nil)) ta_nil)) (td_cb c_len rfl (gf KX G c 40) (by decide +kernel) (ta_cons (tv 1) ta_nil))) td_int)) (ts_cons (ts_setLc (j := 3) (blk0 rfl nd__law_values (blkOk_by (own := [("_law_cell", 4)]) (N := N__law_values) (sc := defScope (top 29)) (by decide +kernel)) (fun _ _ _ _ _ => pg_name (i := 4) nd__law_values rfl (Or.inl rfl)) fun _ _ _ _ _ => (td_op o_modI (td_cty c_int rfl (gf KX G c 38) (by decide +kernel) (ta_cons (tv 4) ta_nil)) (td_op o_powI td_int td_int))) rfl rfl (sw_true rfl rfl rfl (by decide +kernel)) (td_sl (tv 0) to_none (to_some td_int))) (ts_one (ts_ret (td_op o_add (td_op o_add (td_sl (tv 1) (to_some (tv 2)) to_none) (td_sl (tv 1) to_none (to_some (tv 2)))) (td_lst (ta_cons (td_op o_mul (tv 2) td_int) (ta_cons (td_tup (ta_cons (td_op o_mul td_str (tv 2)) (ta_cons (tv 2) ta_nil))) (ta_cons (tv 3) (ta_cons (td_tup (ta_cons (td_cty c_tuple rfl (gf KX G c 45) (by decide +kernel) (ta_cons (tv 3) ta_nil)) (ta_cons (td_d1 (td_lst (ta_cons (tv 3) ta_nil))) ta_nil))) ta_nil)))))))))))
  · obtain ⟨oc, od, _, _, _, _, _, _, _, osl, _, l, _⟩ := F.ex
    exact ⟨oc, od, osl, l⟩
omit KX G c in
abbrev N__law_created : List Str := ["_law_thing", "_law_rows"]
omit KX G c in
theorem nd__law_created : N__law_created.Nodup := by decide +kernel
omit KX G c in
def g__law_created : SF := (sSeq (sSet 1 (fN mkL (aCons (fCall (mk1 "InvalidTank" "value") (aCons (fVar 0) aNil)) (aCons (fCall (mk1 "InvalidPlace" "value") (aCons (fVar 0) aNil)) (aCons (fCall (mk1 "InvalidRoad" "value") (aCons (fVar 0) aNil)) (aCons (fCall (mk1 "InvalidPrice" "value") (aCons (fVar 0) aNil)) (aCons (fCall (mk1 "InvalidTimes" "value") (aCons (fVar 0) aNil)) aNil))))))) (sSeq (sSet 1 (f2 gAdd (fVar 1) (fN mkL (aCons (fCall (mk1 "NoStand" "value") (aCons (fVar 0) aNil)) (aCons (fCall (mk1 "NoGoal" "value") (aCons (fVar 0) aNil)) (aCons (fCall (mk1 "UnknownPlace" "value") (aCons (fVar 0) aNil)) (aCons (fCall (mk1 "UnknownRoad" "value") (aCons (fVar 0) aNil)) (aCons (fCall (mk1 "OutOfRange" "value") (aCons (fVar 0) aNil)) aNil)))))))) (sSeq (sSet 1 (f2 gAdd (fVar 1) (fN mkL (aCons (fCall (mk1 "InvalidText" "line") (aCons (fVar 0) aNil)) (aCons (fCall (mk1 "InvalidCommand" "line") (aCons (fVar 0) aNil)) (aCons (fCall (mk1 "InvalidChange" "index") (aCons (fVar 0) aNil)) (aCons (fCall (mk1 "Unreached" "fence") (aCons (fVar 0) aNil)) (aCons (fCall (mk1 "TooMany" "limit") (aCons (fVar 0) aNil)) aNil)))))))) (sSeq (sSet 1 (f2 gAdd (fVar 1) (fN mkL (aCons (fCall (mk1 "Pumped" "plan") (aCons (fVar 0) aNil)) (aCons (fCall (mk2 "NoAct" "index" "why") (aCons (fVar 0) (aCons (fN mkL (aCons (fVar 0) aNil)) aNil))) (aCons (fCall (mk0 "OtherNetwork") aNil) (aCons (fCall (mk0 "OtherTank") aNil) (aCons (fCall (mk0 "NotJoined") aNil) aNil)))))))) (sRet (f2 gAdd (fVar 1) (fN mkL (aCons (fCall (mk0 "NothingToUndo") aNil) (aCons (fCall (mk0 "NothingToRedo") aNil) (aCons (fCall (mk0 "InTrial") aNil) aNil))))))))))
omit KX G c in
def M__law_created : List D → Eta → Res D := runS N__law_created 1 g__law_created
theorem ok__law_created : ∃ fd, Binds K fd ["_law_thing"] [] ∧ PySem.W.keepIn K (.ref (He.ga K "_law_created")) = true ∧ FnG R.prog w K mg base 2 (He.ga K "_law_created") fd ["_law_thing"] M__law_created ∧ ∃ oc od osl, K.lookup (He.ga K "_law_created") = some ⟨oc, od, .func fd, osl⟩ := by
  have hS := c.parts.2.1
  obtain ⟨fd, F⟩ := c.def_ 1
  refine ⟨fd, F.bindsN (fun _ _ _ _ _ _ us hl => match us, hl with | [_], _ => rfl), F.kp, fn_ofG (k := 1) F (N := N__law_created) ⟨rfl, rfl, rfl, by decide +kernel, rfl, by decide +kernel, by decide +kernel⟩ fun cdv A outer s H E hr => ?_, ?_⟩
  · exact (ts_cons (ts_set nd__law_created rfl (by first | exact Or.inl rfl | exact Or.inr rfl) (td_lst (ta_cons (td_call (p_InvalidTank c (gf KX G c 44) hr) rfl (gl KX G c 7) (ki_InvalidTank c) (ta_cons (tv 0) ta_nil)) (ta_cons (td_call (p_InvalidPlace c (gf KX G c 44) hr) rfl (gl KX G c 8) (ki_InvalidPlace c) (ta_cons (tv 0) ta_nil)) (ta_cons (td_call (p_InvalidRoad c (gf KX G c 44) hr) rfl (gl KX G c 9) (ki_InvalidRoad c) (ta_cons (tv 0) ta_nil)) (ta_cons (td_call (p_InvalidPrice c (gf KX G c 44) hr) rfl (gl KX G c 10) (ki_InvalidPrice c) (ta_cons (tv 0) ta_nil)) (ta_cons (td_call (p_InvalidTimes c (gf KX G c 44) hr) rfl (gl KX G c 14) (ki_InvalidTimes c) (ta_cons (tv 0) ta_nil)) ta_nil))))))) (ts_cons (ts_set nd__law_created rfl (by first | exact Or.inl rfl | exact Or.inr rfl) (td_op o_add (tv 1) (td_lst (ta_cons (td_call (p_NoStand c (gf KX G c 44) hr) rfl (gl KX G c 15) (ki_NoStand c) (ta_cons (tv 0) ta_nil)) (ta_cons (td_call (p_NoGoal c (gf KX G c 44) hr) rfl (gl KX G c 16) (ki_NoGoal c) (ta_cons (tv 0) ta_nil)) (ta_cons (td_call (p_UnknownPlace c (gf KX G c 44) hr) rfl (gl KX G c 21) (ki_UnknownPlace c) (ta_cons (tv 0) ta_nil)) (ta_cons (td_call (p_UnknownRoad c (gf KX G c 44) hr) rfl (gl KX G c 22) (ki_UnknownRoad c) (ta_cons (tv 0) ta_nil)) (ta_cons (td_call (p_OutOfRange c (gf KX G c 44) hr) rfl (gl KX G c 23) (ki_OutOfRange c) (ta_cons (tv 0) ta_nil)) ta_nil)))))))) (ts_cons (ts_set nd__law_created rfl (by first | exact Or.inl rfl | exact Or.inr rfl) (td_op o_add (tv 1) (td_lst (ta_cons (td_call (p_InvalidText c (gf KX G c 44) hr) rfl (gl KX G c 11) (ki_InvalidText c) (ta_cons (tv 0) ta_nil)) (ta_cons (td_call (p_InvalidCommand c (gf KX G c 44) hr) rfl (gl KX G c 13) (ki_InvalidCommand c) (ta_cons (tv 0) ta_nil)) (ta_cons (td_call (p_InvalidChange c (gf KX G c 44) hr) rfl (gl KX G c 12) (ki_InvalidChange c) (ta_cons (tv 0) ta_nil)) (ta_cons (td_call (p_Unreached c (gf KX G c 44) hr) rfl (gl KX G c 24) (ki_Unreached c) (ta_cons (tv 0) ta_nil)) (ta_cons (td_call (p_TooMany c (gf KX G c 44) hr) rfl (gl KX G c 25) (ki_TooMany c) (ta_cons (tv 0) ta_nil)) ta_nil)))))))) (ts_cons (ts_set nd__law_created rfl (by first | exact Or.inl rfl | exact Or.inr rfl) (td_op o_add (tv 1) (td_lst (ta_cons (td_call (p_Pumped c (gf KX G c 44) hr) rfl (gl KX G c 26) (ki_Pumped c) (ta_cons (tv 0) ta_nil)) (ta_cons (td_call (p_NoAct c (gf KX G c 44) hr) rfl (gl KX G c 17) (ki_NoAct c) (ta_cons (tv 0) (ta_cons (td_lst (ta_cons (tv 0) ta_nil)) ta_nil))) (ta_cons (td_call0 (q_OtherNetwork c) rfl (gl KX G c 18) (kc0_OtherNetwork c)) (ta_cons (td_call0 (q_OtherTank c) rfl (gl KX G c 19) (kc0_OtherTank c)) (ta_cons (td_call0 (q_NotJoined c) rfl (gl KX G c 20) (kc0_NotJoined c)) ta_nil)))))))) (ts_one (ts_ret (td_op o_add (tv 1) (td_lst (ta_cons (td_call0 (q_NothingToUndo c) rfl (gl KX G c 27) (kc0_NothingToUndo c)) (ta_cons (td_call0 (q_NothingToRedo c) rfl (gl KX G c 28) (kc0_NothingToRedo c)) (ta_cons (td_call0 (q_InTrial c) rfl (gl KX G c 29) (kc0_InTrial c)) ta_nil)))))))))))
  · obtain ⟨oc, od, _, _, _, _, _, _, _, osl, _, l, _⟩ := F.ex
    exact ⟨oc, od, osl, l⟩
omit KX G c in
abbrev N__law_named : List Str := ["_law_thing", "_law_rows"]
omit KX G c in
theorem nd__law_named : N__law_named.Nodup := by decide +kernel
omit KX G c in
def g__law_named : SF := (sSeq (sSet 1 (fN mkL (aCons (fCall (mk1 "InvalidTank" "value") (aCons (fVar 0) aNil)) (aCons (fCall (mk1 "InvalidPlace" "value") (aCons (fVar 0) aNil)) (aCons (fCall (mk1 "InvalidRoad" "value") (aCons (fVar 0) aNil)) (aCons (fCall (mk1 "InvalidPrice" "value") (aCons (fVar 0) aNil)) aNil)))))) (sSeq (sSet 1 (f2 gAdd (fVar 1) (fN mkL (aCons (fCall (mk1 "InvalidTimes" "value") (aCons (fVar 0) aNil)) (aCons (fCall (mk1 "NoStand" "value") (aCons (fVar 0) aNil)) (aCons (fCall (mk1 "NoGoal" "value") (aCons (fVar 0) aNil)) (aCons (fCall (mk1 "UnknownPlace" "value") (aCons (fVar 0) aNil)) aNil))))))) (sSeq (sSet 1 (f2 gAdd (fVar 1) (fN mkL (aCons (fCall (mk1 "UnknownRoad" "value") (aCons (fVar 0) aNil)) (aCons (fCall (mk1 "OutOfRange" "value") (aCons (fVar 0) aNil)) (aCons (fCall (mk1 "InvalidText" "line") (aCons (fVar 0) aNil)) aNil)))))) (sSeq (sSet 1 (f2 gAdd (fVar 1) (fN mkL (aCons (fCall (mk1 "InvalidCommand" "line") (aCons (fVar 0) aNil)) (aCons (fCall (mk1 "InvalidChange" "index") (aCons (fVar 0) aNil)) (aCons (fCall (mk1 "Unreached" "fence") (aCons (fVar 0) aNil)) aNil)))))) (sSeq (sSet 1 (f2 gAdd (fVar 1) (fN mkL (aCons (fCall (mk1 "TooMany" "limit") (aCons (fVar 0) aNil)) (aCons (fCall (mk1 "Pumped" "plan") (aCons (fVar 0) aNil)) (aCons (fCall (mk2r "NoAct" "index" "why") (aCons (fN mkL (aCons (fVar 0) aNil)) (aCons (fVar 0) aNil))) aNil)))))) (sRet (f2 gAdd (fVar 1) (fN mkL (aCons (fCall (mk0 "OtherNetwork") aNil) (aCons (fCall (mk0 "OtherTank") aNil) (aCons (fCall (mk0 "NotJoined") aNil) (aCons (fCall (mk0 "NothingToUndo") aNil) (aCons (fCall (mk0 "NothingToRedo") aNil) (aCons (fCall (mk0 "InTrial") aNil) aNil))))))))))))))
omit KX G c in
def M__law_named : List D → Eta → Res D := runS N__law_named 1 g__law_named
theorem ok__law_named : ∃ fd, Binds K fd ["_law_thing"] [] ∧ PySem.W.keepIn K (.ref (He.ga K "_law_named")) = true ∧ FnG R.prog w K mg base 2 (He.ga K "_law_named") fd ["_law_thing"] M__law_named ∧ ∃ oc od osl, K.lookup (He.ga K "_law_named") = some ⟨oc, od, .func fd, osl⟩ := by
  have hS := c.parts.2.1
  obtain ⟨fd, F⟩ := c.def_ 2
  refine ⟨fd, F.bindsN (fun _ _ _ _ _ _ us hl => match us, hl with | [_], _ => rfl), F.kp, fn_ofG (k := 1) F (N := N__law_named) ⟨rfl, rfl, rfl, by decide +kernel, rfl, by decide +kernel, by decide +kernel⟩ fun cdv A outer s H E hr => ?_, ?_⟩
  · exact (ts_cons (ts_set nd__law_named rfl (by first | exact Or.inl rfl | exact Or.inr rfl) (td_lst (ta_cons (td_callK0 (k_InvalidTank c (gf KX G c 44) hr) rfl (gl KX G c 7) (ki_InvalidTank c) (tk_cons (tv 0) tk_nil) (aLen_cons aLen_nil)) (ta_cons (td_callK0 (k_InvalidPlace c (gf KX G c 44) hr) rfl (gl KX G c 8) (ki_InvalidPlace c) (tk_cons (tv 0) tk_nil) (aLen_cons aLen_nil)) (ta_cons (td_callK0 (k_InvalidRoad c (gf KX G c 44) hr) rfl (gl KX G c 9) (ki_InvalidRoad c) (tk_cons (tv 0) tk_nil) (aLen_cons aLen_nil)) (ta_cons (td_callK0 (k_InvalidPrice c (gf KX G c 44) hr) rfl (gl KX G c 10) (ki_InvalidPrice c) (tk_cons (tv 0) tk_nil) (aLen_cons aLen_nil)) ta_nil)))))) (ts_cons (ts_set nd__law_named rfl (by first | exact Or.inl rfl | exact Or.inr rfl) (td_op o_add (tv 1) (td_lst (ta_cons (td_callK0 (k_InvalidTimes c (gf KX G c 44) hr) rfl (gl KX G c 14) (ki_InvalidTimes c) (tk_cons (tv 0) tk_nil) (aLen_cons aLen_nil)) (ta_cons (td_callK0 (k_NoStand c (gf KX G c 44) hr) rfl (gl KX G c 15) (ki_NoStand c) (tk_cons (tv 0) tk_nil) (aLen_cons aLen_nil)) (ta_cons (td_callK0 (k_NoGoal c (gf KX G c 44) hr) rfl (gl KX G c 16) (ki_NoGoal c) (tk_cons (tv 0) tk_nil) (aLen_cons aLen_nil)) (ta_cons (td_callK0 (k_UnknownPlace c (gf KX G c 44) hr) rfl (gl KX G c 21) (ki_UnknownPlace c) (tk_cons (tv 0) tk_nil) (aLen_cons aLen_nil)) ta_nil))))))) (ts_cons (ts_set nd__law_named rfl (by first | exact Or.inl rfl | exact Or.inr rfl) (td_op o_add (tv 1) (td_lst (ta_cons (td_callK0 (k_UnknownRoad c (gf KX G c 44) hr) rfl (gl KX G c 22) (ki_UnknownRoad c) (tk_cons (tv 0) tk_nil) (aLen_cons aLen_nil)) (ta_cons (td_callK0 (k_OutOfRange c (gf KX G c 44) hr) rfl (gl KX G c 23) (ki_OutOfRange c) (tk_cons (tv 0) tk_nil) (aLen_cons aLen_nil)) (ta_cons (td_callK0 (k_InvalidText c (gf KX G c 44) hr) rfl (gl KX G c 11) (ki_InvalidText c) (tk_cons (tv 0) tk_nil) (aLen_cons aLen_nil)) ta_nil)))))) (ts_cons (ts_set nd__law_named rfl (by first | exact Or.inl rfl | exact Or.inr rfl) (td_op o_add (tv 1) (td_lst (ta_cons (td_callK0 (k_InvalidCommand c (gf KX G c 44) hr) rfl (gl KX G c 13) (ki_InvalidCommand c) (tk_cons (tv 0) tk_nil) (aLen_cons aLen_nil)) (ta_cons (td_callK0 (k_InvalidChange c (gf KX G c 44) hr) rfl (gl KX G c 12) (ki_InvalidChange c) (tk_cons (tv 0) tk_nil) (aLen_cons aLen_nil)) (ta_cons (td_callK0 (k_Unreached c (gf KX G c 44) hr) rfl (gl KX G c 24) (ki_Unreached c) (tk_cons (tv 0) tk_nil) (aLen_cons aLen_nil)) ta_nil)))))) (ts_cons (ts_set nd__law_named rfl (by first | exact Or.inl rfl | exact Or.inr rfl) (td_op o_add (tv 1) (td_lst (ta_cons (td_callK0 (k_TooMany c (gf KX G c 44) hr) rfl (gl KX G c 25) (ki_TooMany c) (tk_cons (tv 0) tk_nil) (aLen_cons aLen_nil)) (ta_cons (td_callK0 (k_Pumped c (gf KX G c 44) hr) rfl (gl KX G c 26) (ki_Pumped c) (tk_cons (tv 0) tk_nil) (aLen_cons aLen_nil)) (ta_cons (td_callK0 (k_NoAct c (gf KX G c 44) hr) rfl (gl KX G c 17) (ki_NoAct c) (tk_cons (td_lst (ta_cons (tv 0) ta_nil)) (tk_cons (tv 0) tk_nil)) (aLen_cons (aLen_cons aLen_nil))) ta_nil)))))) (ts_one (ts_ret (td_op o_add (tv 1) (td_lst (ta_cons (td_call0 (q_OtherNetwork c) rfl (gl KX G c 18) (kc0_OtherNetwork c)) (ta_cons (td_call0 (q_OtherTank c) rfl (gl KX G c 19) (kc0_OtherTank c)) (ta_cons (td_call0 (q_NotJoined c) rfl (gl KX G c 20) (kc0_NotJoined c)) (ta_cons (td_call0 (q_NothingToUndo c) rfl (gl KX G c 27) (kc0_NothingToUndo c)) (ta_cons (td_call0 (q_NothingToRedo c) rfl (gl KX G c 28) (kc0_NothingToRedo c)) (ta_cons (td_call0 (q_InTrial c) rfl (gl KX G c 29) (kc0_InTrial c)) ta_nil)))))))))))))))
  · obtain ⟨oc, od, _, _, _, _, _, _, _, osl, _, l, _⟩ := F.ex
    exact ⟨oc, od, osl, l⟩
omit KX G c in
abbrev N__law_fields : List Str := ["_law_some", "_law_rows", "_law_one"]
omit KX G c in
theorem nd__law_fields : N__law_fields.Nodup := by decide +kernel
omit KX G c in
def g__law_fields : SF := (sSeq (sSet 1 (f2 gAdd (f2 gAdd (fComp lstOf 2 (fSl (fVar 0) fNoPart (fPart (fC (.int 10)))) tYesF (f1 (gAt "value") (fVar 2))) (fComp lstOf 2 (fSl (fVar 0) (fPart (fC (.int 10))) (fPart (fC (.int 12)))) tYesF (f1 (gAt "line") (fVar 2)))) (fN mkL (aCons (f1 (gAt "index") (f2 gIx (fVar 0) (fC (.int 12)))) (aCons (f1 (gAt "fence") (f2 gIx (fVar 0) (fC (.int 13)))) aNil))))) (sRet (f2 gAdd (fVar 1) (fN mkL (aCons (f1 (gAt "limit") (f2 gIx (fVar 0) (fC (.int 14)))) (aCons (f1 (gAt "plan") (f2 gIx (fVar 0) (fC (.int 15)))) (aCons (f1 (gAt "index") (f2 gIx (fVar 0) (fC (.int 16)))) (aCons (f1 (gAt "why") (f2 gIx (fVar 0) (fC (.int 16)))) aNil))))))))
omit KX G c in
def M__law_fields : List D → Eta → Res D := runS N__law_fields 1 g__law_fields
theorem ok__law_fields : ∃ fd, Binds K fd ["_law_some"] [] ∧ PySem.W.keepIn K (.ref (He.ga K "_law_fields")) = true ∧ FnG R.prog w K mg base 2 (He.ga K "_law_fields") fd ["_law_some"] M__law_fields ∧ ∃ oc od osl, K.lookup (He.ga K "_law_fields") = some ⟨oc, od, .func fd, osl⟩ := by
  have hS := c.parts.2.1
  obtain ⟨fd, F⟩ := c.def_ 3
  refine ⟨fd, F.bindsN (fun _ _ _ _ _ _ us hl => match us, hl with | [_], _ => rfl), F.kp, fn_ofG (k := 1) F (N := N__law_fields) ⟨rfl, rfl, rfl, by decide +kernel, rfl, by decide +kernel, by decide +kernel⟩ fun cdv A outer s H E hr => ?_, ?_⟩
  · exact (ts_cons (ts_set nd__law_fields rfl (by first | exact Or.inl rfl | exact Or.inr rfl) (td_op o_add (td_op o_add (td_lc (blk0 rfl nd__law_fields (blkOk_by (own := [("_law_one", 2)]) (N := N__law_fields) (sc := defScope (top 32)) (by decide +kernel)) (fun _ _ _ _ _ => pg_name (i := 2) nd__law_fields rfl (Or.inl rfl)) fun _ _ _ _ _ => (td_at (tv 2))) (td_sl (tv 0) to_none (to_some td_int))) (td_lc (blk0 rfl nd__law_fields (blkOk_by (own := [("_law_one", 2)]) (N := N__law_fields) (sc := defScope (top 32)) (by decide +kernel)) (fun _ _ _ _ _ => pg_name (i := 2) nd__law_fields rfl (Or.inl rfl)) fun _ _ _ _ _ => (td_at (tv 2))) (td_sl (tv 0) (to_some td_int) (to_some td_int)))) (td_lst (ta_cons (td_at (td_ix i_ix (tv 0) td_int (fun _ _ => rfl))) (ta_cons (td_at (td_ix i_ix (tv 0) td_int (fun _ _ => rfl))) ta_nil))))) (ts_one (ts_ret (td_op o_add (tv 1) (td_lst (ta_cons (td_at (td_ix i_ix (tv 0) td_int (fun _ _ => rfl))) (ta_cons (td_at (td_ix i_ix (tv 0) td_int (fun _ _ => rfl))) (ta_cons (td_at (td_ix i_ix (tv 0) td_int (fun _ _ => rfl))) (ta_cons (td_at (td_ix i_ix (tv 0) td_int (fun _ _ => rfl))) ta_nil)))))))))
  · obtain ⟨oc, od, _, _, _, _, _, _, _, osl, _, l, _⟩ := F.ex
    exact ⟨oc, od, osl, l⟩
omit KX G c in
abbrev N__law_kinds : List Str := ["_law_thing", "_law_rows"]
omit KX G c in
theorem nd__law_kinds : N__law_kinds.Nodup := by decide +kernel
omit KX G c in
def g__law_kinds : SF := (sSeq (sSet 1 (fN mkL (aCons (fN (on2 (gIsi clsT)) (aCons (fVar 0) (aCons (fC (.cls "InvalidTank")) aNil))) (aCons (fN (on2 (gIsi clsT)) (aCons (fVar 0) (aCons (fC (.cls "InvalidPlace")) aNil))) (aCons (fN (on2 (gIsi clsT)) (aCons (fVar 0) (aCons (fC (.cls "InvalidRoad")) aNil))) aNil))))) (sSeq (sSet 1 (f2 gAdd (fVar 1) (fN mkL (aCons (fN (on2 (gIsi clsT)) (aCons (fVar 0) (aCons (fC (.cls "InvalidPrice")) aNil))) (aCons (fN (on2 (gIsi clsT)) (aCons (fVar 0) (aCons (fC (.cls "InvalidTimes")) aNil))) (aCons (fN (on2 (gIsi clsT)) (aCons (fVar 0) (aCons (fC (.cls "NoStand")) aNil))) aNil)))))) (sSeq (sSet 1 (f2 gAdd (fVar 1) (fN mkL (aCons (fN (on2 (gIsi clsT)) (aCons (fVar 0) (aCons (fC (.cls "NoGoal")) aNil))) (aCons (fN (on2 (gIsi clsT)) (aCons (fVar 0) (aCons (fC (.cls "UnknownPlace")) aNil))) (aCons (fN (on2 (gIsi clsT)) (aCons (fVar 0) (aCons (fC (.cls "UnknownRoad")) aNil))) aNil)))))) (sSeq (sSet 1 (f2 gAdd (fVar 1) (fN mkL (aCons (fN (on2 (gIsi clsT)) (aCons (fVar 0) (aCons (fC (.cls "OutOfRange")) aNil))) (aCons (fN (on2 (gIsi clsT)) (aCons (fVar 0) (aCons (fC (.cls "InvalidText")) aNil))) (aCons (fN (on2 (gIsi clsT)) (aCons (fVar 0) (aCons (fC (.cls "InvalidCommand")) aNil))) aNil)))))) (sSeq (sSet 1 (f2 gAdd (fVar 1) (fN mkL (aCons (fN (on2 (gIsi clsT)) (aCons (fVar 0) (aCons (fC (.cls "InvalidChange")) aNil))) (aCons (fN (on2 (gIsi clsT)) (aCons (fVar 0) (aCons (fC (.cls "Unreached")) aNil))) (aCons (fN (on2 (gIsi clsT)) (aCons (fVar 0) (aCons (fC (.cls "TooMany")) aNil))) aNil)))))) (sSeq (sSet 1 (f2 gAdd (fVar 1) (fN mkL (aCons (fN (on2 (gIsi clsT)) (aCons (fVar 0) (aCons (fC (.cls "Pumped")) aNil))) (aCons (fN (on2 (gIsi clsT)) (aCons (fVar 0) (aCons (fC (.cls "NoAct")) aNil))) (aCons (fN (on2 (gIsi clsT)) (aCons (fVar 0) (aCons (fC (.cls "OtherNetwork")) aNil))) aNil)))))) (sSeq (sSet 1 (f2 gAdd (fVar 1) (fN mkL (aCons (fN (on2 (gIsi clsT)) (aCons (fVar 0) (aCons (fC (.cls "OtherTank")) aNil))) (aCons (fN (on2 (gIsi clsT)) (aCons (fVar 0) (aCons (fC (.cls "NotJoined")) aNil))) (aCons (fN (on2 (gIsi clsT)) (aCons (fVar 0) (aCons (fC (.cls "NothingToUndo")) aNil))) aNil)))))) (sRet (f2 gAdd (fVar 1) (fN mkL (aCons (fN (on2 (gIsi clsT)) (aCons (fVar 0) (aCons (fC (.cls "NothingToRedo")) aNil))) (aCons (fN (on2 (gIsi clsT)) (aCons (fVar 0) (aCons (fC (.cls "InTrial")) aNil))) aNil))))))))))))
omit KX G c in
def M__law_kinds : List D → Eta → Res D := runS N__law_kinds 1 g__law_kinds
theorem ok__law_kinds : ∃ fd, Binds K fd ["_law_thing"] [] ∧ PySem.W.keepIn K (.ref (He.ga K "_law_kinds")) = true ∧ FnG R.prog w K mg base 2 (He.ga K "_law_kinds") fd ["_law_thing"] M__law_kinds ∧ ∃ oc od osl, K.lookup (He.ga K "_law_kinds") = some ⟨oc, od, .func fd, osl⟩ := by
  have hS := c.parts.2.1
  obtain ⟨fd, F⟩ := c.def_ 4
  refine ⟨fd, F.bindsN (fun _ _ _ _ _ _ us hl => match us, hl with | [_], _ => rfl), F.kp, fn_ofG (k := 1) F (N := N__law_kinds) ⟨rfl, rfl, rfl, by decide +kernel, rfl, by decide +kernel, by decide +kernel⟩ fun cdv A outer s H E hr => ?_, ?_⟩
  · exact (ts_cons (ts_set nd__law_kinds rfl (by first | exact Or.inl rfl | exact Or.inr rfl) (td_lst (ta_cons (td_cb (c_isi (cls_ok c)) rfl (gf KX G c 39) (by decide +kernel) (ta_cons (tv 0) (ta_cons (tcl (gl KX G c 7)) ta_nil))) (ta_cons (td_cb (c_isi (cls_ok c)) rfl (gf KX G c 39) (by decide +kernel) (ta_cons (tv 0) (ta_cons (tcl (gl KX G c 8)) ta_nil))) (ta_cons (td_cb (c_isi (cls_ok c)) rfl (gf KX G c 39) (by decide +kernel) (ta_cons (tv 0) (ta_cons (tcl (gl KX G c 9)) ta_nil))) ta_nil))))) (ts_cons (ts_set nd__law_kinds rfl (by first | exact Or.inl rfl | exact Or.inr rfl) (td_op o_add (tv 1) (td_lst (ta_cons (td_cb (c_isi (cls_ok c)) rfl (gf KX G c 39) (by decide +kernel) (ta_cons (tv 0) (ta_cons (tcl (gl KX G c 10)) ta_nil))) (ta_cons (td_cb (c_isi (cls_ok c)) rfl (gf KX G c 39) (by decide +kernel) (ta_cons (tv 0) (ta_cons (tcl (gl KX G c 14)) ta_nil))) (ta_cons (td_cb (c_isi (cls_ok c)) rfl (gf KX G c 39) (by decide +kernel) (ta_cons (tv 0) (ta_cons (tcl (gl KX G c 15)) ta_nil))) ta_nil)))))) (ts_cons (ts_set nd__law_kinds rfl (by first | exact Or.inl rfl | exact Or.inr rfl) (td_op o_add (tv 1) (td_lst (ta_cons (td_cb (c_isi (cls_ok c)) rfl (gf KX G c 39) (by decide +kernel) (ta_cons (tv 0) (ta_cons (tcl (gl KX G c 16)) ta_nil))) (ta_cons (td_cb (c_isi (cls_ok c)) rfl (gf KX G c 39) (by decide +kernel) (ta_cons (tv 0) (ta_cons (tcl (gl KX G c 21)) ta_nil))) (ta_cons (td_cb (c_isi (cls_ok c)) rfl (gf KX G c 39) (by decide +kernel) (ta_cons (tv 0) (ta_cons (tcl (gl KX G c 22)) ta_nil))) ta_nil)))))) (ts_cons (ts_set nd__law_kinds rfl (by first | exact Or.inl rfl | exact Or.inr rfl) (td_op o_add (tv 1) (td_lst (ta_cons (td_cb (c_isi (cls_ok c)) rfl (gf KX G c 39) (by decide +kernel) (ta_cons (tv 0) (ta_cons (tcl (gl KX G c 23)) ta_nil))) (ta_cons (td_cb (c_isi (cls_ok c)) rfl (gf KX G c 39) (by decide +kernel) (ta_cons (tv 0) (ta_cons (tcl (gl KX G c 11)) ta_nil))) (ta_cons (td_cb (c_isi (cls_ok c)) rfl (gf KX G c 39) (by decide +kernel) (ta_cons (tv 0) (ta_cons (tcl (gl KX G c 13)) ta_nil))) ta_nil)))))) (ts_cons (ts_set nd__law_kinds rfl (by first | exact Or.inl rfl | exact Or.inr rfl) (td_op o_add (tv 1) (td_lst (ta_cons (td_cb (c_isi (cls_ok c)) rfl (gf KX G c 39) (by decide +kernel) (ta_cons (tv 0) (ta_cons (tcl (gl KX G c 12)) ta_nil))) (ta_cons (td_cb (c_isi (cls_ok c)) rfl (gf KX G c 39) (by decide +kernel) (ta_cons (tv 0) (ta_cons (tcl (gl KX G c 24)) ta_nil))) (ta_cons (td_cb (c_isi (cls_ok c)) rfl (gf KX G c 39) (by decide +kernel) (ta_cons (tv 0) (ta_cons (tcl (gl KX G c 25)) ta_nil))) ta_nil)))))) (ts_cons (ts_set nd__law_kinds rfl (by first | exact Or.inl rfl | exact Or.inr rfl) (td_op o_add (tv 1) (td_lst (ta_cons (td_cb (c_isi (cls_ok c)) rfl (gf KX G c 39) (by decide +kernel) (ta_cons (tv 0) (ta_cons (tcl (gl KX G c 26)) ta_nil))) (ta_cons (td_cb (c_isi (cls_ok c)) rfl (gf KX G c 39) (by decide +kernel) (ta_cons (tv 0) (ta_cons (tcl (gl KX G c 17)) ta_nil))) (ta_cons (td_cb (c_isi (cls_ok c)) rfl (gf KX G c 39) (by decide +kernel) (ta_cons (tv 0) (ta_cons (tcl (gl KX G c 18)) ta_nil))) ta_nil)))))) (ts_cons (ts_set nd__law_kinds rfl (by first | exact Or.inl rfl | exact Or.inr rfl) (td_op o_add (tv 1) (td_lst (ta_cons (td_cb (c_isi (cls_ok c)) rfl (gf KX G c 39) (by decide +kernel) (ta_cons (tv 0) (ta_cons (tcl (gl KX G c 19)) ta_nil))) (ta_cons (td_cb (c_isi (cls_ok c)) rfl (gf KX G c 39) (by decide +kernel) (ta_cons (tv 0) (ta_cons (tcl (gl KX G c 20)) ta_nil))) (ta_cons (td_cb (c_isi (cls_ok c)) rfl (gf KX G c 39) (by decide +kernel) (ta_cons (tv 0) (ta_cons (tcl (gl KX G c 27)) ta_nil))) ta_nil)))))) (ts_one (ts_ret (td_op o_add (tv 1) (td_lst (ta_cons (td_cb (c_isi (cls_ok c)) rfl (gf KX G c 39) (by decide +kernel) (ta_cons (tv 0) (ta_cons (tcl (gl KX G c 28)) ta_nil))) (ta_cons (td_cb (c_isi (cls_ok c)) rfl (gf KX G c 39) (by decide +kernel) (ta_cons (tv 0) (ta_cons (tcl (gl KX G c 29)) ta_nil))) ta_nil)))))))))))))
  · obtain ⟨oc, od, _, _, _, _, _, _, _, osl, _, l, _⟩ := F.ex
    exact ⟨oc, od, osl, l⟩
omit KX G c in
abbrev N__law_python : List Str := ["_law_thing", "_law_rows"]
omit KX G c in
theorem nd__law_python : N__law_python.Nodup := by decide +kernel
omit KX G c in
def g__law_python : SF := (sSeq (sSet 1 (fN mkL (aCons (f2 gMul (fC (.str "v")) (fN (on1 gInt) (aCons (fN (on2 (gIsi clsT)) (aCons (fVar 0) (aCons (fC (.ty "ValueError")) aNil))) aNil))) (aCons (f2 gMul (fC (.str "l")) (fN (on1 gInt) (aCons (fN (on2 (gIsi clsT)) (aCons (fVar 0) (aCons (fC (.ty "LookupError")) aNil))) aNil))) aNil)))) (sSeq (sSet 1 (f2 gAdd (fVar 1) (fN mkL (aCons (f2 gMul (fC (.str "k")) (fN (on1 gInt) (aCons (fN (on2 (gIsi clsT)) (aCons (fVar 0) (aCons (fC (.ty "KeyError")) aNil))) aNil))) (aCons (f2 gMul (fC (.str "i")) (fN (on1 gInt) (aCons (fN (on2 (gIsi clsT)) (aCons (fVar 0) (aCons (fC (.ty "IndexError")) aNil))) aNil))) aNil))))) (sSeq (sSet 1 (f2 gAdd (fVar 1) (fN mkL (aCons (f2 gMul (fC (.str "o")) (fN (on1 gInt) (aCons (fN (on2 (gIsi clsT)) (aCons (fVar 0) (aCons (fC (.ty "OverflowError")) aNil))) aNil))) (aCons (f2 gMul (fC (.str "r")) (fN (on1 gInt) (aCons (fN (on2 (gIsi clsT)) (aCons (fVar 0) (aCons (fC (.ty "RuntimeError")) aNil))) aNil))) aNil))))) (sRet (fJoin (fC (.str "")) (f2 gAdd (fVar 1) (fN mkL (aCons (f2 gMul (fC (.str "t")) (fN (on1 gInt) (aCons (fN (on2 (gIsi clsT)) (aCons (fVar 0) (aCons (fC (.ty "TypeError")) aNil))) aNil))) aNil))))))))
omit KX G c in
def M__law_python : List D → Eta → Res D := runS N__law_python 1 g__law_python
theorem ok__law_python : ∃ fd, Binds K fd ["_law_thing"] [] ∧ PySem.W.keepIn K (.ref (He.ga K "_law_python")) = true ∧ FnG R.prog w K mg base 2 (He.ga K "_law_python") fd ["_law_thing"] M__law_python ∧ ∃ oc od osl, K.lookup (He.ga K "_law_python") = some ⟨oc, od, .func fd, osl⟩ := by
  have hS := c.parts.2.1
  obtain ⟨fd, F⟩ := c.def_ 5
  refine ⟨fd, F.bindsN (fun _ _ _ _ _ _ us hl => match us, hl with | [_], _ => rfl), F.kp, fn_ofG (k := 1) F (N := N__law_python) ⟨rfl, rfl, rfl, by decide +kernel, rfl, by decide +kernel, by decide +kernel⟩ fun cdv A outer s H E hr => ?_, ?_⟩
  · exact (ts_cons (ts_set nd__law_python rfl (by first | exact Or.inl rfl | exact Or.inr rfl) (td_lst (ta_cons (td_op o_mul td_str (td_cty c_int rfl (gf KX G c 38) (by decide +kernel) (ta_cons (td_cb (c_isi (cls_ok c)) rfl (gf KX G c 39) (by decide +kernel) (ta_cons (tv 0) (ta_cons (td_ty rfl (gf KX G c 36) (by decide +kernel)) ta_nil))) ta_nil))) (ta_cons (td_op o_mul td_str (td_cty c_int rfl (gf KX G c 38) (by decide +kernel) (ta_cons (td_cb (c_isi (cls_ok c)) rfl (gf KX G c 39) (by decide +kernel) (ta_cons (tv 0) (ta_cons (td_ty rfl (gf KX G c 32) (by decide +kernel)) ta_nil))) ta_nil))) ta_nil)))) (ts_cons (ts_set nd__law_python rfl (by first | exact Or.inl rfl | exact Or.inr rfl) (td_op o_add (tv 1) (td_lst (ta_cons (td_op o_mul td_str (td_cty c_int rfl (gf KX G c 38) (by decide +kernel) (ta_cons (td_cb (c_isi (cls_ok c)) rfl (gf KX G c 39) (by decide +kernel) (ta_cons (tv 0) (ta_cons (td_ty rfl (gf KX G c 31) (by decide +kernel)) ta_nil))) ta_nil))) (ta_cons (td_op o_mul td_str (td_cty c_int rfl (gf KX G c 38) (by decide +kernel) (ta_cons (td_cb (c_isi (cls_ok c)) rfl (gf KX G c 39) (by decide +kernel) (ta_cons (tv 0) (ta_cons (td_ty rfl (gf KX G c 30) (by decide +kernel)) ta_nil))) ta_nil))) ta_nil))))) (ts_cons (ts_set nd__law_python rfl (by first | exact Or.inl rfl | exact Or.inr rfl) (td_op o_add (tv 1) (td_lst (ta_cons (td_op o_mul td_str (td_cty c_int rfl (gf KX G c 38) (by decide +kernel) (ta_cons (td_cb (c_isi (cls_ok c)) rfl (gf KX G c 39) (by decide +kernel) (ta_cons (tv 0) (ta_cons (td_ty rfl (gf KX G c 33) (by decide +kernel)) ta_nil))) ta_nil))) (ta_cons (td_op o_mul td_str (td_cty c_int rfl (gf KX G c 38) (by decide +kernel) (ta_cons (td_cb (c_isi (cls_ok c)) rfl (gf KX G c 39) (by decide +kernel) (ta_cons (tv 0) (ta_cons (td_ty rfl (gf KX G c 34) (by decide +kernel)) ta_nil))) ta_nil))) ta_nil))))) (ts_one (ts_ret (td_join td_str (td_op o_add (tv 1) (td_lst (ta_cons (td_op o_mul td_str (td_cty c_int rfl (gf KX G c 38) (by decide +kernel) (ta_cons (td_cb (c_isi (cls_ok c)) rfl (gf KX G c 39) (by decide +kernel) (ta_cons (tv 0) (ta_cons (td_ty rfl (gf KX G c 35) (by decide +kernel)) ta_nil))) ta_nil))) ta_nil)))))))))
  · obtain ⟨oc, od, _, _, _, _, _, _, _, osl, _, l, _⟩ := F.ex
    exact ⟨oc, od, osl, l⟩
omit KX G c in
abbrev N_law : List Str := ["_law_script", "_law_due", "_law_thing", "_law_some", "_law_spot", "_law_one", "_law_at"]
omit KX G c in
theorem nd_law : N_law.Nodup := by decide +kernel
omit KX G c in
def g_law : SF := (sSeq (sIf (fB (f2 gNe (fN (on1 gRepr) (aCons (fN mkL (aCons (fC (.int 10)) (aCons (fC (.int 40)) (aCons (fC (.int 1000000000000000000000000000000)) (aCons (fC (.int 60)) aNil))))) aNil)) (fN (on1 gRepr) (aCons (fN mkL (aCons (fC (.int 10)) (aCons (fC (.int 40)) (aCons (f2 gPowI (fC (.int 10)) (fC (.int 30))) (aCons (fC (.int 60)) aNil))))) aNil)))) (sRet (fC (.bl false))) sNil) (sSeq (sSet 1 (f2 gAdd (f2 gAdd (f2 gAdd (f2 gAdd (f2 gAdd (f2 gAdd (f2 gAdd (f2 gMul (fN mkL (aCons (fC (.str "v")) aNil)) (fC (.int 7))) (f2 gMul (fN mkL (aCons (fC (.str "lk")) aNil)) (fC (.int 2)))) (fN mkL (aCons (fC (.str "li")) aNil))) (f2 gMul (fN mkL (aCons (fC (.str "v")) aNil)) (fC (.int 3)))) (fN mkL (aCons (fC (.str "l")) aNil))) (f2 gMul (fN mkL (aCons (fC (.str "o")) aNil)) (fC (.int 2)))) (f2 gMul (fN mkL (aCons (fC (.str "v")) aNil)) (fC (.int 4)))) (f2 gMul (fN mkL (aCons (fC (.str "r")) aNil)) (fC (.int 3))))) (sSeq (sFor lstOf 2 (fCall M__law_values (aCons (fVar 0) aNil)) (sFor tupOf 3 (fN mkT (aCons (fCall M__law_created (aCons (fVar 2) aNil)) (aCons (fCall M__law_named (aCons (fVar 2) aNil)) aNil))) (sSeq (sIf (fB (f2 gNe (fN (on1 gRepr) (aCons (fCall M__law_fields (aCons (fVar 3) aNil)) aNil)) (fN (on1 gRepr) (aCons (f2 gAdd (f2 gMul (fN mkL (aCons (fVar 2) aNil)) (fC (.int 17))) (fN mkL (aCons (fN mkL (aCons (fVar 2) aNil)) aNil))) aNil)))) (sRet (fC (.bl false))) sNil) (sSeq (sIf (fB (f2 gNe (fComp lstOf 5 (fVar 3) tYesF (fCall M__law_python (aCons (fVar 5) aNil))) (fVar 1))) (sRet (fC (.bl false))) sNil) (sFor rng1 4 (fC (.int 23)) (sIf (fB (f2 gNe (fCall M__law_kinds (aCons (f2 gIx (fVar 3) (fVar 4)) aNil)) (fComp rng1 6 (fC (.int 23)) tYesF (f2 gEq (fVar 6) (fVar 4))))) (sRet (fC (.bl false))) sNil)))))) (sRet (fC (.bl true))))))
omit KX G c in
def M_law : List D → Eta → Res D := runS N_law 1 g_law
theorem ok_law : ∃ fd, Binds K fd ["_law_script"] [] ∧ PySem.W.keepIn K (.ref (He.ga K "law")) = true ∧ FnG R.prog w K mg base 3 (He.ga K "law") fd ["_law_script"] M_law ∧ ∃ oc od osl, K.lookup (He.ga K "law") = some ⟨oc, od, .func fd, osl⟩ := by
  have hS := c.parts.2.1
  obtain ⟨fd, F⟩ := c.def_ 6
  obtain ⟨fd__law_created, b__law_created, k__law_created, F__law_created, _⟩ := ok__law_created (w := w) (base := base) KX G c
  obtain ⟨fd__law_fields, b__law_fields, k__law_fields, F__law_fields, _⟩ := ok__law_fields (w := w) (base := base) KX G c
  obtain ⟨fd__law_kinds, b__law_kinds, k__law_kinds, F__law_kinds, _⟩ := ok__law_kinds (w := w) (base := base) KX G c
  obtain ⟨fd__law_named, b__law_named, k__law_named, F__law_named, _⟩ := ok__law_named (w := w) (base := base) KX G c
  obtain ⟨fd__law_python, b__law_python, k__law_python, F__law_python, _⟩ := ok__law_python (w := w) (base := base) KX G c
  obtain ⟨fd__law_values, b__law_values, k__law_values, F__law_values, _⟩ := ok__law_values (w := w) (base := base) KX G c
  refine ⟨fd, F.bindsN (fun _ _ _ _ _ _ us hl => match us, hl with | [_], _ => rfl), F.kp, fn_ofG (k := 2) F (N := N_law) ⟨rfl, rfl, rfl, by decide +kernel, rfl, by decide +kernel, by decide +kernel⟩ fun cdv A outer s H E hr => ?_, ?_⟩
  · exact (ts_cons (ts_if (tt_cmp (o_ne hr.r.units) (td_cb (c_repr hS hr.g hr.r.units) rfl (gf KX G c 42) (by decide +kernel) (ta_cons (td_lst (ta_cons (tgi (gi KX G c 46)) (ta_cons (tgi (gi KX G c 47)) (ta_cons (tgi (gi KX G c 48)) (ta_cons (tgi (gi KX G c 49)) ta_nil))))) ta_nil)) (td_cb (c_repr hS hr.g hr.r.units) rfl (gf KX G c 42) (by decide +kernel) (ta_cons (td_lst (ta_cons td_int (ta_cons td_int (ta_cons (td_op o_powI td_int td_int) (ta_cons td_int ta_nil))))) ta_nil)) (nomark _)) (ts_one (ts_ret td_bl)) ts_nil) (ts_cons (ts_set nd_law rfl (by first | exact Or.inl rfl | exact Or.inr rfl) (td_op o_add (td_op o_add (td_op o_add (td_op o_add (td_op o_add (td_op o_add (td_op o_add (td_op o_mul (td_lst (ta_cons td_str ta_nil)) td_int) (td_op o_mul (td_lst (ta_cons td_str ta_nil)) td_int)) (td_lst (ta_cons td_str ta_nil))) (td_op o_mul (td_lst (ta_cons td_str ta_nil)) td_int)) (td_lst (ta_cons td_str ta_nil))) (td_op o_mul (td_lst (ta_cons td_str ta_nil)) td_int)) (td_op o_mul (td_lst (ta_cons td_str ta_nil)) td_int)) (td_op o_mul (td_lst (ta_cons td_str ta_nil)) td_int))) (ts_cons (ts_for (passes_of rfl) rfl nd_law (i := 2) rfl (by first | exact Or.inl rfl | exact Or.inr rfl) (by first | exact .inl rfl | exact .inr rfl) (td_call (callP (F__law_values.mono (by decide)) rfl b__law_values hr (takes_of rfl rfl rfl rfl)) rfl (gl KX G c 0) k__law_values (ta_cons (tv 0) ta_nil)) (ts_one (ts_forT (passes_of rfl) rfl nd_law (i := 3) rfl (by first | exact Or.inl rfl | exact Or.inr rfl) (by first | exact .inl rfl | exact .inr rfl) (td_tup (ta_cons (td_call (callP (F__law_created.mono (by decide)) rfl b__law_created hr (takes_of rfl rfl rfl rfl)) rfl (gl KX G c 1) k__law_created (ta_cons (tv 2) ta_nil)) (ta_cons (td_call (callP (F__law_named.mono (by decide)) rfl b__law_named hr (takes_of rfl rfl rfl rfl)) rfl (gl KX G c 2) k__law_named (ta_cons (tv 2) ta_nil)) ta_nil))) (ts_cons (ts_if (tt_cmp (o_ne hr.r.units) (td_cb (c_repr hS hr.g hr.r.units) rfl (gf KX G c 42) (by decide +kernel) (ta_cons (td_call (callP (F__law_fields.mono (by decide)) rfl b__law_fields hr (takes_of rfl rfl rfl rfl)) rfl (gl KX G c 3) k__law_fields (ta_cons (tv 3) ta_nil)) ta_nil)) (td_cb (c_repr hS hr.g hr.r.units) rfl (gf KX G c 42) (by decide +kernel) (ta_cons (td_op o_add (td_op o_mul (td_lst (ta_cons (tv 2) ta_nil)) td_int) (td_lst (ta_cons (td_lst (ta_cons (tv 2) ta_nil)) ta_nil))) ta_nil)) (nomark _)) (ts_one (ts_ret td_bl)) ts_nil) (ts_cons (ts_if (tt_cmp (o_ne hr.r.units) (td_lc (blk0 rfl nd_law (blkOk_by (own := [("_law_one", 5)]) (N := N_law) (sc := defScope (top 35)) (by decide +kernel)) (fun _ _ _ _ _ => pg_name (i := 5) nd_law rfl (Or.inl rfl)) fun _ _ _ _ _ => (td_call (callP (F__law_python.mono (by decide)) rfl b__law_python hr (takesF rfl)) rfl (gl KX G c 5) k__law_python (ta_cons (tv 5) ta_nil))) (tv 3)) (tv 1) (nomark _)) (ts_one (ts_ret td_bl)) ts_nil) (ts_one (ts_forR (passes_of rfl) rfl nd_law (i := 4) rfl (by first | exact Or.inl rfl | exact Or.inr rfl) (by first | exact .inl rfl | exact .inr rfl) rfl (gf KX G c 41) td_int (ts_one (ts_if (tt_cmp (o_ne hr.r.units) (td_call (callP (F__law_kinds.mono (by decide)) rfl b__law_kinds hr (takes_of rfl rfl rfl rfl)) rfl (gl KX G c 4) k__law_kinds (ta_cons (td_ix i_ix (tv 3) (tv 4) (fun _ _ => rfl)) ta_nil)) (td_lcR (blk0 rfl nd_law (blkOk_by (own := [("_law_at", 6)]) (N := N_law) (sc := defScope (top 35)) (by decide +kernel)) (fun _ _ _ _ _ => pg_name (i := 6) nd_law rfl (Or.inl rfl)) fun _ _ _ _ _ => (td_cmp (o_eq hr.r.units) (tv 6) (tv 4) (nomark _))) rfl (gf KX G c 41) td_int) (nomark _)) (ts_one (ts_ret td_bl)) ts_nil))))))))) (ts_one (ts_ret td_bl)))))
  · obtain ⟨oc, od, _, _, _, _, _, _, _, osl, _, l, _⟩ := F.ex
    exact ⟨oc, od, osl, l⟩
end
end K82W
namespace K82P
open PySem PySem.Spec PyProof.Rows L2 TL K82H K82W
def excs (d : D) : List D :=
  [.exc "InvalidTank" [("value", d)], .exc "InvalidPlace" [("value", d)], .exc "InvalidRoad" [("value", d)], .exc "InvalidPrice" [("value", d)], .exc "InvalidTimes" [("value", d)], .exc "NoStand" [("value", d)], .exc "NoGoal" [("value", d)],
   .exc "UnknownPlace" [("value", d)], .exc "UnknownRoad" [("value", d)], .exc "OutOfRange" [("value", d)], .exc "InvalidText" [("line", d)], .exc "InvalidCommand" [("line", d)], .exc "InvalidChange" [("index", d)], .exc "Unreached" [("fence", d)],
   .exc "TooMany" [("limit", d)], .exc "Pumped" [("plan", d)], .exc "NoAct" [("index", d), ("why", .lst [d])], .exc "OtherNetwork" [], .exc "OtherTank" [], .exc "NotJoined" [], .exc "NothingToUndo" [], .exc "NothingToRedo" [], .exc "InTrial" []]
theorem created (d : D) (η : Eta) : M__law_created [d] η = some (.ok (.lst (excs d)), η) := rfl
theorem named (d : D) (η : Eta) : M__law_named [d] η = some (.ok (.lst (excs d)), η) := rfl
def flds (d : D) : List D := List.replicate 17 d ++ [.lst [d]]
theorem fields (d : D) (η : Eta) : M__law_fields [.lst (excs d)] η = some (.ok (.lst (flds d)), η) := by kernel_rfl
def due : D := .lst [.str "v", .str "v", .str "v", .str "v", .str "v", .str "v", .str "v", .str "lk", .str "lk", .str "li", .str "v", .str "v", .str "v", .str "l", .str "o", .str "o", .str "v", .str "v", .str "v", .str "v", .str "r", .str "r", .str "r"]
/-- the law's names within the loops -/
def rho (a d s t : Slot) : Rho := [a, .dat due, d, s, t, .un, .un]
def gPy : SF := sIf (fB (f2 gNe (fComp lstOf 5 (fVar 3) tYesF (fCall M__law_python (aCons (fVar 5) aNil))) (fVar 1))) (sRet (fC (.bl false))) sNil
def gKinds : SF := sFor rng1 4 (fC (.int 23)) (sIf (fB (f2 gNe (fCall M__law_kinds (aCons (f2 gIx (fVar 3) (fVar 4)) aNil)) (fComp rng1 6 (fC (.int 23)) tYesF (f2 gEq (fVar 6) (fVar 4))))) (sRet (fC (.bl false))) sNil)
theorem py_ok (a d' : Slot) (d : D) (t : Slot) (η : Eta) : gPy (rho a d' (.dat (.lst (excs d))) t) η = some (.nx (rho a d' (.dat (.lst (excs d))) t), η) := by kernel_rfl
theorem kinds_ok (a d' : Slot) (d : D) (t : Slot) (η : Eta) : gKinds (rho a d' (.dat (.lst (excs d))) t) η = some (.nx (rho a d' (.dat (.lst (excs d))) (.dat (.int 22))), η) := by kernel_rfl
/-! ### repr of the fields -/
structure Gd (d : D) (p : PyData) : Prop where
  e : toP d = some p
  ls : p.leavesShort 64 = true
  sh : p.showable = true
  dp : p.depth ≤ 40
  bk : p.bulk ≤ 200
theorem reprB_of {p : PyData} (h1 : p.leavesShort 64 = true) (h2 : p.showable = true) (h3 : p.depth ≤ 50) (h4 : p.bulk ≤ 10000) : reprB p = true := by
  have e := PyData.shown_le_bulk 64 (by decide) p h1
  have e2 : p.shown.length ≤ SZ := by
    show p.shown.length ≤ 1000000
    omega
  unfold reprB
  rw [h2, decide_eq_true h3, decide_eq_true e2]
  rfl
def fldP (p : PyData) : PyData := .list [p, p, p, p, p, p, p, p, p, p, p, p, p, p, p, p, p, .list [p]]
theorem toP_flds {d : D} {p : PyData} (h : toP d = some p) : toP (.lst (flds d)) = some (fldP p) := by
  have e : flds d = [d, d, d, d, d, d, d, d, d, d, d, d, d, d, d, d, d, .lst [d]] := rfl
  rw [e]
  simp only [toP, toPs, h, Option.map_some, fldP]
theorem repr_flds {d : D} {p : PyData} (h : Gd d p) : gRepr (.lst (flds d)) = some (.str (fldP p).shown) := by
  have r : reprB (fldP p) = true := by
    refine reprB_of ?_ ?_ ?_ ?_
    · simp [fldP, PyData.leavesShort, PyData.leavesShortAll, h.ls]
    · simp [fldP, PyData.showable, PyData.showableAll, h.sh]
    · have := h.dp
      simp only [fldP, PyData.depth, PyData.depthAll]
      omega
    · have := h.bk
      simp only [fldP, PyData.bulk, PyData.bulkAll]
      omega
  show (match toP (.lst (flds d)) with
    | some p => if reprB p = true then some (D.str p.shown) else none
    | none => none) = _
  rw [toP_flds h.e]
  show (if reprB (fldP p) = true then some (D.str (fldP p).shown) else none) = _
  rw [if_pos r]
def gFl : SF := sIf (fB (f2 gNe (fN (on1 gRepr) (aCons (fCall M__law_fields (aCons (fVar 3) aNil)) aNil)) (fN (on1 gRepr) (aCons (f2 gAdd (f2 gMul (fN mkL (aCons (fVar 2) aNil)) (fC (.int 17))) (fN mkL (aCons (fN mkL (aCons (fVar 2) aNil)) aNil))) aNil)))) (sRet (fC (.bl false))) sNil
theorem fl_ok {d : D} {p : PyData} (h : Gd d p) (a : Slot) (t : Slot) (η : Eta) : gFl (rho a (.dat d) (.dat (.lst (excs d))) t) η = some (.nx (rho a (.dat d) (.dat (.lst (excs d))) t), η) := by
  have e1 : fN (on1 gRepr) (aCons (fCall M__law_fields (aCons (fVar 3) aNil)) aNil) (rho a (.dat d) (.dat (.lst (excs d))) t) η = some (.ok (.str (fldP p).shown), η) := by
    have z : fCall M__law_fields (aCons (fVar 3) aNil) (rho a (.dat d) (.dat (.lst (excs d))) t) η = some (.ok (.lst (flds d)), η) := fields d η
    show bindO (bindO (fCall M__law_fields (aCons (fVar 3) aNil) (rho a (.dat d) (.dat (.lst (excs d))) t) η) fun x η1 => some (.ok [x], η1)) (fun x η1 => okO (on1 gRepr x) η1) = _
    rw [z]
    show okO (gRepr (.lst (flds d))) η = _
    rw [repr_flds h]
    rfl
  have e2 : fN (on1 gRepr) (aCons (f2 gAdd (f2 gMul (fN mkL (aCons (fVar 2) aNil)) (fC (.int 17))) (fN mkL (aCons (fN mkL (aCons (fVar 2) aNil)) aNil))) aNil) (rho a (.dat d) (.dat (.lst (excs d))) t) η = some (.ok (.str (fldP p).shown), η) := by
    show okO (gRepr (.lst (flds d))) η = _
    rw [repr_flds h]
    rfl
  have e3 : fB (f2 gNe (fN (on1 gRepr) (aCons (fCall M__law_fields (aCons (fVar 3) aNil)) aNil)) (fN (on1 gRepr) (aCons (f2 gAdd (f2 gMul (fN mkL (aCons (fVar 2) aNil)) (fC (.int 17))) (fN mkL (aCons (fN mkL (aCons (fVar 2) aNil)) aNil))) aNil))) (rho a (.dat d) (.dat (.lst (excs d))) t) η = some (.ok false, η) := by
    show bindO (bindO (fN (on1 gRepr) (aCons (fCall M__law_fields (aCons (fVar 3) aNil)) aNil) (rho a (.dat d) (.dat (.lst (excs d))) t) η) fun x η1 => bindO (fN (on1 gRepr) (aCons (f2 gAdd (f2 gMul (fN mkL (aCons (fVar 2) aNil)) (fC (.int 17))) (fN mkL (aCons (fN mkL (aCons (fVar 2) aNil)) aNil))) aNil) (rho a (.dat d) (.dat (.lst (excs d))) t) η1) fun y η2 => okO (gNe x y) η2) (fun x η1 => okO (asB x) η1) = _
    rw [e1]
    show bindO (bindO (fN (on1 gRepr) (aCons (f2 gAdd (f2 gMul (fN mkL (aCons (fVar 2) aNil)) (fC (.int 17))) (fN mkL (aCons (fN mkL (aCons (fVar 2) aNil)) aNil))) aNil) (rho a (.dat d) (.dat (.lst (excs d))) t) η) fun y η2 => okO (gNe (.str (fldP p).shown) y) η2) (fun x η1 => okO (asB x) η1) = _
    rw [e2]
    show some (Out.ok (!decide ((fldP p).shown = (fldP p).shown)), η) = some (Out.ok false, η)
    rw [decide_eq_true rfl]
    rfl
  show bindE (fB _ (rho a (.dat d) (.dat (.lst (excs d))) t) η) _ = _
  rw [e3]
  rfl
/-- the inner body -/
def gIn : SF := sSeq gFl (sSeq gPy gKinds)
theorem in_ok {d : D} {p : PyData} (h : Gd d p) (a : Slot) (t : Slot) (η : Eta) : gIn (rho a (.dat d) (.dat (.lst (excs d))) t) η = some (.nx (rho a (.dat d) (.dat (.lst (excs d))) (.dat (.int 22))), η) := by
  unfold gIn sSeq
  rw [fl_ok h]
  show (match gPy (rho a (.dat d) (.dat (.lst (excs d))) t) η with
    | some (.nx ρ', η') => gKinds ρ' η'
    | r => r) = _
  rw [py_ok]
  exact kinds_ok a (.dat d) d t η
def gMid : SF := sFor tupOf 3 (fN mkT (aCons (fCall M__law_created (aCons (fVar 2) aNil)) (aCons (fCall M__law_named (aCons (fVar 2) aNil)) aNil))) gIn
theorem mid_ok {d : D} {p : PyData} (h : Gd d p) (a s t : Slot) (η : Eta) : gMid (rho a (.dat d) s t) η = some (.nx (rho a (.dat d) (.dat (.lst (excs d))) (.dat (.int 22))), η) := by
  have e : fN mkT (aCons (fCall M__law_created (aCons (fVar 2) aNil)) (aCons (fCall M__law_named (aCons (fVar 2) aNil)) aNil)) (rho a (.dat d) s t) η = some (.ok (.tup [.lst (excs d), .lst (excs d)]), η) := rfl
  unfold gMid sFor
  rw [e]
  show loopS 3 gIn [.lst (excs d), .lst (excs d)] (rho a (.dat d) s t) η = _
  show (match gIn (rho a (.dat d) (.dat (.lst (excs d))) t) η with
    | some (.nx ρ', η') => loopS 3 gIn [.lst (excs d)] ρ' η'
    | some (.ct ρ', η') => loopS 3 gIn [.lst (excs d)] ρ' η'
    | some (.bk ρ', η') => some (.nx ρ', η')
    | r => r) = _
  rw [in_ok h]
  show (match gIn (rho a (.dat d) (.dat (.lst (excs d))) (.dat (.int 22))) η with
    | some (.nx ρ', η') => loopS 3 gIn [] ρ' η'
    | some (.ct ρ', η') => loopS 3 gIn [] ρ' η'
    | some (.bk ρ', η') => some (.nx ρ', η')
    | r => r) = _
  rw [in_ok h]
  rfl
theorem out_ok : ∀ (ds : List D) (a d s t : Slot) (η : Eta), (∀ x ∈ ds, ∃ p, Gd x p) → ∃ d' s' t', loopS 2 gMid ds (rho a d s t) η = some (.nx (rho a d' s' t'), η)
  | [], a, d, s, t, η, _ => ⟨d, s, t, rfl⟩
  | x :: xs, a, d, s, t, η, h => by
    obtain ⟨p, hp⟩ := h x List.mem_cons_self
    obtain ⟨d', s', t', e⟩ := out_ok xs a (.dat x) (.dat (.lst (excs x))) (.dat (.int 22)) η fun y hy => h y (List.mem_cons_of_mem _ hy)
    refine ⟨d', s', t', ?_⟩
    show (match gMid (rho a (.dat x) s t) η with
      | some (.nx ρ', η') => loopS 2 gMid xs ρ' η'
      | some (.ct ρ', η') => loopS 2 gMid xs ρ' η'
      | some (.bk ρ', η') => some (.nx ρ', η')
      | r => r) = _
    rw [mid_ok hp]
    exact e
end K82P
namespace K82P
open PySem PySem.Spec PyProof.Rows L2 TL K82H K82W

/-! ### the things -/
theorem ls_int {i : Int} (h : i.natAbs < 10 ^ 60) : (PyData.int i).leavesShort 64 = true := by
  have e := int_text_length_le10 (k := 60) (by decide) h
  have z : (PyData.shown (.int i)).length ≤ 64 := by
    show (Str.ofString (toString i)).length ≤ 64
    rw [_root_.PySem.ofString_length]
    omega
  simp only [PyData.leavesShort]
  exact decide_eq_true z
theorem sh_int {i : Int} (h : i.natAbs < 10 ^ 60) : (PyData.int i).showable = true := by
  simp only [PyData.showable]
  refine decide_eq_true ?_
  by_cases z : i.natAbs = 0
  · rw [z]; decide
  · have e : i.natAbs.log2 < 200 := (Nat.log2_lt z).mpr (Nat.lt_trans h (by decide))
    omega
theorem gd_int {i : Int} (h : i.natAbs < 10 ^ 60) : Gd (.int i) (.int i) := ⟨rfl, ls_int h, sh_int h, by simp [PyData.depth], by simp [PyData.bulk]⟩
/-- a list's data -/
structure GdA (ds : List D) (ps : List PyData) : Prop where
  e : toPs ds = some ps
  ls : PyData.leavesShortAll 64 ps = true
  sh : PyData.showableAll ps = true
  dp : PyData.depthAll ps ≤ 30
  bk : PyData.bulkAll ps ≤ 100
theorem gda_ints : ∀ {ns : List Int}, (∀ n ∈ ns, n.natAbs < 10 ^ 60) → ns.length ≤ 10 → GdA (ns.map D.int) (ns.map PyData.int) := fun {ns} h hl => by
  have key : ∀ l : List Int, (∀ n ∈ l, n.natAbs < 10 ^ 60) → toPs (l.map D.int) = some (l.map PyData.int) ∧ PyData.leavesShortAll 64 (l.map PyData.int) = true ∧ PyData.showableAll (l.map PyData.int) = true ∧ PyData.depthAll (l.map PyData.int) = 0 ∧ PyData.bulkAll (l.map PyData.int) = l.length := by
    intro l
    induction l with
    | nil => intro _; exact ⟨rfl, by simp [PyData.leavesShortAll], by simp [PyData.showableAll], by simp [PyData.depthAll], by simp [PyData.bulkAll]⟩
    | cons n r ih =>
      intro hh
      obtain ⟨e1, e2, e3, e4, e5⟩ := ih fun m hm => hh m (List.mem_cons_of_mem _ hm)
      have g := gd_int (hh n List.mem_cons_self)
      refine ⟨?_, ?_, ?_, ?_, ?_⟩
      · rw [List.map_cons, toPs, e1]
        rfl
      · rw [List.map_cons, PyData.leavesShortAll, g.ls, e2]
        rfl
      · rw [List.map_cons, PyData.showableAll, g.sh, e3]
        rfl
      · rw [List.map_cons, PyData.depthAll, e4]
        simp [PyData.depth]
      · rw [List.map_cons, PyData.bulkAll, e5]
        simp [PyData.bulk]
        omega
  obtain ⟨e1, e2, e3, e4, e5⟩ := key ns h
  exact ⟨e1, e2, e3, by omega, by omega⟩
theorem gd_lst {ds : List D} {ps : List PyData} (h : GdA ds ps) : Gd (.lst ds) (.list ps) := ⟨by rw [toP, h.e]; rfl, by simpa [PyData.leavesShort] using h.ls, by simpa [PyData.showable] using h.sh, by have := h.dp; simp only [PyData.depth]; omega, by have := h.bk; simp only [PyData.bulk]; omega⟩
theorem gd_tup {ds : List D} {ps : List PyData} (h : GdA ds ps) : Gd (.tup ds) (.tuple ps) := ⟨by rw [toP, h.e]; rfl, by simpa [PyData.leavesShort] using h.ls, by simpa [PyData.showable] using h.sh, by have := h.dp; simp only [PyData.depth]; omega, by have := h.bk; simp only [PyData.bulk]; omega⟩
theorem gd_str {x : Str} (h : x.cps.toList.all (fun c => decide (c < 16 ^ 8)) = true) (hl : x.cps.size ≤ 100) : Gd (.str x) (.str x) := ⟨rfl, by simpa [PyData.leavesShort] using h, by simp [PyData.showable], by simp [PyData.depth], by simp only [PyData.bulk]; omega⟩
/-- (tuple(more), {'a': [more]}) -/
theorem gd_last {ds : List D} {ps : List PyData} (h : GdA ds ps) (hb : PyData.bulkAll ps ≤ 20) (hd : PyData.depthAll ps ≤ 5) : Gd (.tup [.tup ds, .dK [(.inr "a", .lst [.lst ds])]]) (.tuple [.tuple ps, .dict [(.str "a", .list [.list ps])]]) := by
  refine ⟨?_, ?_, ?_, ?_, ?_⟩
  · simp only [toP, toPs, toPk, h.e, Option.map_some, keyP]
  · simp [PyData.leavesShort, PyData.leavesShortAll, PyData.leavesShortKv, h.ls]
    decide
  · simp [PyData.showable, PyData.showableAll, PyData.showableKv, h.sh]
  · simp only [PyData.depth, PyData.depthAll, PyData.depthKv]
    omega
  · simp only [PyData.bulk, PyData.bulkAll, PyData.bulkKv]
    have : (Str.ofString "a").cps.size = 1 := by decide +kernel
    omega
end K82P
namespace K82P
open PySem PySem.Spec PyProof.Rows L2 TL K82H K82W

def cutI (xs : List Int) (lo hi : Option Int) : List Int := (xs.drop (HT.sIx xs.length 0 lo)).take (HT.sIx xs.length xs.length hi - HT.sIx xs.length 0 lo)
theorem cutD_map (ns : List Int) (lo hi : Option Int) : TL.cutD (ns.map D.int) lo hi = (cutI ns lo hi).map D.int := by
  unfold TL.cutD cutI
  rw [List.length_map, List.map_take, List.map_drop]
theorem lay_ints : ∀ ns : List Int, PyData.canLayAll0 (ns.map PyData.int) = true ∧ PyData.depthAll (ns.map PyData.int) = 0
  | [] => ⟨by simp [PyData.canLayAll0], by simp [PyData.depthAll]⟩
  | n :: r => by
    obtain ⟨h1, h2⟩ := lay_ints r
    exact ⟨by simp [PyData.canLayAll0, PyData.canLay0, h1], by simp [PyData.depthAll, PyData.depth, h2]⟩
theorem ne_arg (ns : List Int) : gNe (.arg ns) (.lst []) = some (.bl (!ns.isEmpty)) := by
  have s1 : SeqAt.shaped (.list (ns.map PyData.int)) = true := by
    obtain ⟨h1, h2⟩ := lay_ints ns
    unfold SeqAt.shaped
    simp [PyData.canLay0, PyData.depth, h1, h2]
  have s2 : SeqAt.shaped (.list []) = true := by decide +kernel
  have e : dEq (.arg ns) (.lst []) = some ns.isEmpty := by
    show (if (SeqAt.shaped (.list (ns.map PyData.int)) && SeqAt.shaped (.list [])) = true then some (PyData.eqv (.list (ns.map PyData.int)) (.list [])) else none) = _
    rw [s1, s2]
    cases ns with
    | nil => rfl
    | cons n r =>
      show some (PyData.eqv (.list (.int n :: r.map PyData.int)) (.list [])) = some false
      simp [PyData.eqv, PyData.eqvAll]
  show (dEq (.arg ns) (.lst [])).map (fun b => D.bl (!b)) = _
  rw [e]
  rfl
def some15 : List D := [.non, .bl true, .bl false, .int 0, .int (-7), .int (10 ^ 59), .str "", .str "a", .str "A b", .tup [], .tup [.str "a", .int 1], .lst [], .dK [], .dK [(.inr "a", .lst [.int 1])], .tup [.non, .lst [.tup []]]]
def turnOf (ns : List Int) : Int := if ns.isEmpty = true then 0 else (if (cutI ns none (some 63)).sum < 0 then -(cutI ns none (some 63)).sum else (cutI ns none (some 63)).sum) % 15
theorem turn_le (ns : List Int) : 0 ≤ turnOf ns ∧ turnOf ns < 15 := by
  unfold turnOf
  split
  · omega
  · omega
def fTurn : EF := fIf (fB (f2 gNe (fVar 0) (fN mkL aNil))) (f2 gModI (fN (on1 gAbs) (aCons (fN (on1 gSum) (aCons (fSl (fVar 0) fNoPart (fPart (fC (.int 63)))) aNil)) aNil)) (fN (on1 gLen) (aCons (fVar 1) aNil))) (fC (.int 0))
theorem turn_ok (ns : List Int) (s t u : Slot) (η : Eta) : fTurn [.dat (.arg ns), .dat (.lst some15), s, t, u] η = some (.ok (.int (turnOf ns)), η) := by
  have e1 : fB (f2 gNe (fVar 0) (fN mkL aNil)) [.dat (.arg ns), .dat (.lst some15), s, t, u] η = some (.ok (!ns.isEmpty), η) := by
    show bindO (okO (gNe (.arg ns) (.lst [])) η) (fun x η1 => okO (asB x) η1) = _
    rw [ne_arg]
    rfl
  have e2 : fN (on1 gSum) (aCons (fSl (fVar 0) fNoPart (fPart (fC (.int 63)))) aNil) [.dat (.arg ns), .dat (.lst some15), s, t, u] η = some (.ok (.int (cutI ns none (some 63)).sum), η) := by
    show okO ((intsOf (TL.cutD (ns.map D.int) none (some 63))).map fun ns => D.int ns.sum) η = _
    rw [cutD_map, intsOf_map]
    rfl
  unfold fTurn fIf
  rw [e1]
  unfold turnOf
  cases h : ns.isEmpty with
  | true => rfl
  | false =>
    show bindO (bindO (bindO (fN (on1 gSum) (aCons (fSl (fVar 0) fNoPart (fPart (fC (.int 63)))) aNil) [.dat (.arg ns), .dat (.lst some15), s, t, u] η) fun x η1 => some (.ok [x], η1)) fun x η1 => okO (on1 gAbs x) η1) (fun x η1 => bindO (fN (on1 gLen) (aCons (fVar 1) aNil) [.dat (.arg ns), .dat (.lst some15), s, t, u] η1) fun y η2 => okO (gModI x y) η2) = _
    rw [e2]
    rfl
def moreOf (ns : List Int) : List Int := (cutI ns none (some 4)).map fun n => n % 10 ^ 59
def fMod : EF := f2 gModI (fN (on1 gInt) (aCons (fVar 4) aNil)) (f2 gPowI (fC (.int 10)) (fC (.int 59)))
theorem comp_ok : ∀ (l : List Int) (a s t u : Slot) (v : Slot) (η : Eta), compL 4 tYesF fMod (l.map D.int) [a, s, t, u, v] η = some (.ok ((l.map fun n => n % 10 ^ 59).map D.int), η)
  | [], a, s, t, u, v, η => rfl
  | n :: r, a, s, t, u, v, η => by
    have ih := comp_ok r a s t u v η
    have e : fMod [a, s, t, u, .dat (.int n)] η = some (.ok (.int (n % 10 ^ 59)), η) := rfl
    show bindN (fMod [a, s, t, u, .dat (.int n)] η) (fun y η2 => bindN (compL 4 tYesF fMod (r.map D.int) [a, s, t, u, v] η2) fun ys η3 => some (.ok (y :: ys), η3)) = _
    rw [e]
    show bindN (compL 4 tYesF fMod (r.map D.int) [a, s, t, u, v] η) (fun ys η3 => some (.ok (.int (n % 10 ^ 59) :: ys), η3)) = _
    rw [ih]
    rfl
theorem cut4 (ns : List Int) : (cutI ns none (some 4)).length ≤ 4 := by
  unfold cutI
  rw [List.length_take]
  have : HT.sIx ns.length ns.length (some 4) ≤ 4 := by
    show (if (4 : Int) < 0 then ((4 : Int) + (ns.length : Int)).toNat else min (4 : Int).toNat ns.length) ≤ 4
    rw [if_neg (by decide)]
    exact Nat.min_le_left _ _
  omega
def fMore : EF := fComp lstOf 4 (fSl (fVar 0) fNoPart (fPart (fC (.int 4)))) tYesF fMod
theorem more_ok (ns : List Int) (s t u : Slot) (η : Eta) : fMore [.dat (.arg ns), s, t, u, .un] η = some (.ok (.lst ((moreOf ns).map D.int)), η) := by
  show bindN (compL 4 tYesF fMod (TL.cutD (ns.map D.int) none (some 4)) [.dat (.arg ns), s, t, u, .un] η) (fun ys η2 => okO (mkL ys) η2) = _
  rw [cutD_map, comp_ok]
  show okO (mkL ((moreOf ns).map D.int)) η = _
  have hl : ((moreOf ns).map D.int).length ≤ SZ := by
    have := cut4 ns
    unfold moreOf
    rw [List.length_map, List.length_map]
    show _ ≤ 1000000
    omega
  unfold mkL
  rw [if_pos hl]
  rfl
theorem more_small (ns : List Int) : ∀ n ∈ moreOf ns, n.natAbs < 10 ^ 60 := by
  intro n hn
  obtain ⟨m, _, rfl⟩ := List.mem_map.mp hn
  have h1 : 0 ≤ m % 10 ^ 59 := Int.emod_nonneg _ (by decide)
  have h2 : m % 10 ^ 59 < 10 ^ 59 := Int.emod_lt_of_pos _ (by decide)
  have h3 : (10 : Int) ^ 59 = 100000000000000000000000000000000000000000000000000000000000 := by decide
  have h4 : (10 : Nat) ^ 60 = 1000000000000000000000000000000000000000000000000000000000000 := by decide
  rw [h3] at h1 h2 ⊢
  rw [h4]
  omega
def fEnd : EF := f2 gAdd (f2 gAdd (fSl (fVar 1) (fPart (fVar 2)) fNoPart) (fSl (fVar 1) fNoPart (fPart (fVar 2)))) (fN mkL (aCons (f2 gMul (fVar 2) (fC (.int 1009))) (aCons (fN mkT (aCons (f2 gMul (fC (.str "a")) (fVar 2)) (aCons (fVar 2) aNil))) (aCons (fVar 3) (aCons (fN mkT (aCons (fN (on1 gTuple) (aCons (fVar 3) aNil)) (aCons (f1 (gD1 (.inr "a")) (fN mkL (aCons (fVar 3) aNil))) aNil))) aNil)))))
/-- what the values are, turned by k -/
def valsOf (k : Nat) (ms : List D) : List D := (some15.drop k ++ some15.take k) ++ [.int ((k : Int) * 1009), .tup [.str (Txt.mul "a" (k : Int)), .int (k : Int)], .lst ms, .tup [.tup ms, .dK [(.inr "a", .lst [.lst ms])]]]
theorem end_ok (k : Nat) (hk : k < 15) (ms : List D) (a v : Slot) (η : Eta) : fEnd [a, .dat (.lst some15), .dat (.int (k : Int)), .dat (.lst ms), v] η = some (.ok (.lst (valsOf k ms)), η) := by
  have h : k = 0 ∨ k = 1 ∨ k = 2 ∨ k = 3 ∨ k = 4 ∨ k = 5 ∨ k = 6 ∨ k = 7 ∨ k = 8 ∨ k = 9 ∨ k = 10 ∨ k = 11 ∨ k = 12 ∨ k = 13 ∨ k = 14 := by omega
  rcases h with h | h | h | h | h | h | h | h | h | h | h | h | h | h | h <;> subst h <;> kernel_rfl
theorem values (ns : List Int) (η : Eta) : ∃ k : Nat, k < 15 ∧ M__law_values [.arg ns] η = some (.ok (.lst (valsOf k ((moreOf ns).map D.int))), η) := by
  obtain ⟨h0, h1⟩ := turn_le ns
  refine ⟨(turnOf ns).toNat, by omega, ?_⟩
  have ek : (((turnOf ns).toNat : Nat) : Int) = turnOf ns := Int.toNat_of_nonneg h0
  have e3 := end_ok (turnOf ns).toNat (by omega) ((moreOf ns).map D.int) (.dat (.arg ns)) .un η
  rw [ek] at e3
  have g3 : sSeq (sSet 3 fMore) (sRet fEnd) [.dat (.arg ns), .dat (.lst some15), .dat (.int (turnOf ns)), .un, .un] η = some (.rt (.lst (valsOf (turnOf ns).toNat ((moreOf ns).map D.int))), η) := by
    unfold sSeq sSet
    rw [more_ok]
    show bindE (fEnd [.dat (.arg ns), .dat (.lst some15), .dat (.int (turnOf ns)), .dat (.lst ((moreOf ns).map D.int)), .un] η) _ = _
    rw [e3]
    rfl
  have g2 : sSeq (sSet 2 fTurn) (sSeq (sSet 3 fMore) (sRet fEnd)) [.dat (.arg ns), .dat (.lst some15), .un, .un, .un] η = some (.rt (.lst (valsOf (turnOf ns).toNat ((moreOf ns).map D.int))), η) := by
    have z : sSet 2 fTurn [.dat (.arg ns), .dat (.lst some15), .un, .un, .un] η = some (.nx [.dat (.arg ns), .dat (.lst some15), .dat (.int (turnOf ns)), .un, .un], η) := by
      unfold sSet
      rw [turn_ok]
      rfl
    unfold sSeq
    rw [z]
    exact g3
  show (match sSeq (sSet 2 fTurn) (sSeq (sSet 3 fMore) (sRet fEnd)) [.dat (.arg ns), .dat (.lst some15), .un, .un, .un] η with
    | some r => endS r
    | none => none) = _
  rw [g2]
  rfl
end K82P
namespace K82P
open PySem PySem.Spec PyProof.Rows L2 TL K82H K82W

theorem good15 : ∀ x ∈ some15, ∃ p, Gd x p := by
  unfold some15
  simp only [List.mem_cons, List.not_mem_nil, or_false, forall_eq_or_imp, forall_eq]
  refine ⟨⟨.none, rfl, by decide +kernel, by decide +kernel, by decide +kernel, by decide +kernel⟩, ⟨.bool true, rfl, by decide +kernel, by decide +kernel, by decide +kernel, by decide +kernel⟩, ⟨.bool false, rfl, by decide +kernel, by decide +kernel, by decide +kernel, by decide +kernel⟩,
    ⟨_, gd_int (by decide)⟩, ⟨_, gd_int (by decide)⟩, ⟨_, gd_int (by decide)⟩, ⟨_, gd_str (by decide +kernel) (by decide +kernel)⟩, ⟨_, gd_str (by decide +kernel) (by decide +kernel)⟩, ⟨_, gd_str (by decide +kernel) (by decide +kernel)⟩,
    ⟨.tuple [], rfl, by decide +kernel, by decide +kernel, by decide +kernel, by decide +kernel⟩, ?_, ⟨.list [], rfl, by decide +kernel, by decide +kernel, by decide +kernel, by decide +kernel⟩, ⟨.dict [], rfl, by decide +kernel, by decide +kernel, by decide +kernel, by decide +kernel⟩, ?_,
    ⟨.tuple [.none, .list [.tuple []]], rfl, by decide +kernel, by decide +kernel, by decide +kernel, by decide +kernel⟩⟩
  · have e := ls_int (i := 1) (by decide)
    refine ⟨.tuple [.str "a", .int 1], rfl, ?_, by decide +kernel, by decide +kernel, by decide +kernel⟩
    simp only [PyData.leavesShort, PyData.leavesShortAll] at e ⊢
    rw [e]
    decide +kernel
  · have e := ls_int (i := 1) (by decide)
    refine ⟨.dict [(.str "a", .list [.int 1])], rfl, ?_, by decide +kernel, by decide +kernel, by decide +kernel⟩
    simp only [PyData.leavesShort, PyData.leavesShortAll, PyData.leavesShortKv] at e ⊢
    rw [e]
    decide +kernel
theorem good_at (k : Nat) (hk : k < 15) : ∃ p, Gd (.tup [.str (Txt.mul "a" (k : Int)), .int (k : Int)]) p := by
  have e : ((.int (k : Int) : PyData)).leavesShort 64 = true := ls_int (by omega)
  have s : ((.int (k : Int) : PyData)).showable = true := sh_int (by omega)
  refine ⟨.tuple [.str (Txt.mul "a" (k : Int)), .int (k : Int)], rfl, ?_, ?_, by simp [PyData.depth, PyData.depthAll], ?_⟩
  · simp only [PyData.leavesShort, PyData.leavesShortAll] at e ⊢
    rw [e]
    have h : k = 0 ∨ k = 1 ∨ k = 2 ∨ k = 3 ∨ k = 4 ∨ k = 5 ∨ k = 6 ∨ k = 7 ∨ k = 8 ∨ k = 9 ∨ k = 10 ∨ k = 11 ∨ k = 12 ∨ k = 13 ∨ k = 14 := by omega
    rcases h with h | h | h | h | h | h | h | h | h | h | h | h | h | h | h <;> subst h <;> decide +kernel
  · simp only [PyData.showable, PyData.showableAll] at s ⊢
    rw [s]
    rfl
  · simp only [PyData.bulk, PyData.bulkAll]
    have h : k = 0 ∨ k = 1 ∨ k = 2 ∨ k = 3 ∨ k = 4 ∨ k = 5 ∨ k = 6 ∨ k = 7 ∨ k = 8 ∨ k = 9 ∨ k = 10 ∨ k = 11 ∨ k = 12 ∨ k = 13 ∨ k = 14 := by omega
    rcases h with h | h | h | h | h | h | h | h | h | h | h | h | h | h | h <;> subst h <;> decide +kernel
theorem gda_more (ns : List Int) : GdA ((moreOf ns).map D.int) ((moreOf ns).map PyData.int) := gda_ints (more_small ns) (by
  have := cut4 ns
  unfold moreOf
  rw [List.length_map]
  omega)
theorem good_vals (ns : List Int) (k : Nat) (hk : k < 15) : ∀ x ∈ valsOf k ((moreOf ns).map D.int), ∃ p, Gd x p := by
  intro x hx
  unfold valsOf at hx
  have g := gda_more ns
  have hb : PyData.bulkAll ((moreOf ns).map PyData.int) ≤ 20 ∧ PyData.depthAll ((moreOf ns).map PyData.int) ≤ 5 := by
    have key : ∀ l : List Int, PyData.bulkAll (l.map PyData.int) = l.length := by
      intro l
      induction l with
      | nil => simp [PyData.bulkAll]
      | cons n r ih =>
        rw [List.map_cons, PyData.bulkAll, ih]
        simp [PyData.bulk]
        omega
    have c := cut4 ns
    have l4 : (moreOf ns).length ≤ 4 := by
      unfold moreOf
      rw [List.length_map]
      exact c
    rw [key, (lay_ints _).2]
    omega
  rcases List.mem_append.mp hx with hx | hx
  · rcases List.mem_append.mp hx with hx | hx
    · exact good15 x (List.mem_of_mem_drop hx)
    · exact good15 x (List.mem_of_mem_take hx)
  · simp only [List.mem_cons, List.not_mem_nil, or_false] at hx
    rcases hx with rfl | rfl | rfl | rfl
    · exact ⟨_, gd_int (by omega)⟩
    · exact good_at k hk
    · exact ⟨_, gd_lst g⟩
    · exact ⟨_, gd_last g hb.1 hb.2⟩
theorem f2_run {g : D → D → Option D} {fa fb : EF} {ρ : Rho} {η η1 η2 : Eta} {x y : D} (ha : fa ρ η = some (.ok x, η1)) (hb : fb ρ η1 = some (.ok y, η2)) : f2 g fa fb ρ η = okO (g x y) η2 := by
  unfold f2
  rw [ha]
  show bindO (fb ρ η1) (fun y η2 => okO (g x y) η2) = _
  rw [hb]
  rfl
theorem if_no {fa : EF} {g1 : SF} {ρ : Rho} {η η1 : Eta} (h : fa ρ η = some (.ok (.bl false), η1)) : sIf (fB fa) g1 sNil ρ η = some (.nx ρ, η1) := by
  unfold sIf fB
  rw [h]
  rfl
theorem first_ok (a b c d e f : Slot) (η : Eta) : sIf (fB (f2 gNe (fN (on1 gRepr) (aCons (fN mkL (aCons (fC (.int 10)) (aCons (fC (.int 40)) (aCons (fC (.int 1000000000000000000000000000000)) (aCons (fC (.int 60)) aNil))))) aNil)) (fN (on1 gRepr) (aCons (fN mkL (aCons (fC (.int 10)) (aCons (fC (.int 40)) (aCons (f2 gPowI (fC (.int 10)) (fC (.int 30))) (aCons (fC (.int 60)) aNil))))) aNil)))) (sRet (fC (.bl false))) sNil [a, b, c, d, e, f, .un] η = some (.nx [a, b, c, d, e, f, .un], η) := by
  have h1 : gRepr (.lst [.int 10, .int 40, .int 1000000000000000000000000000000, .int 60]) = some (.str (PyData.shown (.list [.int 10, .int 40, .int 1000000000000000000000000000000, .int 60]))) := by
    have r : reprB (.list [.int 10, .int 40, .int 1000000000000000000000000000000, .int 60]) = true := by
      have l1 := ls_int (i := 10) (by decide)
      have l2 := ls_int (i := 40) (by decide)
      have l3 := ls_int (i := 1000000000000000000000000000000) (by decide)
      have l4 := ls_int (i := 60) (by decide)
      refine reprB_of ?_ (by decide +kernel) (by decide +kernel) (by decide +kernel)
      simp only [PyData.leavesShort, PyData.leavesShortAll] at l1 l2 l3 l4 ⊢
      rw [l1, l2, l3, l4]
      rfl
    show (if reprB (.list [.int 10, .int 40, .int 1000000000000000000000000000000, .int 60]) = true then some (D.str (PyData.shown (.list [.int 10, .int 40, .int 1000000000000000000000000000000, .int 60]))) else none) = _
    rw [if_pos r]
  have e1 : fN (on1 gRepr) (aCons (fN mkL (aCons (fC (.int 10)) (aCons (fC (.int 40)) (aCons (fC (.int 1000000000000000000000000000000)) (aCons (fC (.int 60)) aNil))))) aNil) [a, b, c, d, e, f, .un] η = some (.ok (.str (PyData.shown (.list [.int 10, .int 40, .int 1000000000000000000000000000000, .int 60]))), η) := by
    show okO (gRepr (.lst [.int 10, .int 40, .int 1000000000000000000000000000000, .int 60])) η = _
    rw [h1]
    rfl
  have e2 : fN (on1 gRepr) (aCons (fN mkL (aCons (fC (.int 10)) (aCons (fC (.int 40)) (aCons (f2 gPowI (fC (.int 10)) (fC (.int 30))) (aCons (fC (.int 60)) aNil))))) aNil) [a, b, c, d, e, f, .un] η = some (.ok (.str (PyData.shown (.list [.int 10, .int 40, .int 1000000000000000000000000000000, .int 60]))), η) := by
    show okO (gRepr (.lst [.int 10, .int 40, .int 1000000000000000000000000000000, .int 60])) η = _
    rw [h1]
    rfl
  generalize PyData.shown (.list [.int 10, .int 40, .int 1000000000000000000000000000000, .int 60]) = S at e1 e2
  refine if_no ((f2_run e1 e2).trans ?_)
  show some (Out.ok (D.bl (!decide (S = S))), η) = _
  rw [decide_eq_true rfl]
  rfl
theorem law_true (ns : List Int) : ∃ η', M_law [.arg ns] [] = some (.ok (.bl true), η') := by
  obtain ⟨k, hk, hv⟩ := values ns []
  obtain ⟨d', s', t', ho⟩ := out_ok (valsOf k ((moreOf ns).map D.int)) (.dat (.arg ns)) .un .un .un [] (good_vals ns k hk)
  refine ⟨[], ?_⟩
  have h1 := first_ok (.dat (.arg ns)) .un .un .un .un .un []
  have h3 : sFor lstOf 2 (fCall M__law_values (aCons (fVar 0) aNil)) gMid (rho (.dat (.arg ns)) .un .un .un) [] = some (.nx (rho (.dat (.arg ns)) d' s' t'), []) := by
    have e : fCall M__law_values (aCons (fVar 0) aNil) (rho (.dat (.arg ns)) .un .un .un) [] = some (.ok (.lst (valsOf k ((moreOf ns).map D.int))), []) := hv
    unfold sFor
    rw [e]
    exact ho
  show (match g_law [.dat (.arg ns), .un, .un, .un, .un, .un, .un] [] with
    | some r => endS r
    | none => none) = _
  unfold g_law
  unfold sSeq
  rw [h1]
  show (match (match sFor lstOf 2 (fCall M__law_values (aCons (fVar 0) aNil)) gMid (rho (.dat (.arg ns)) .un .un .un) [] with
    | some (.nx ρ', η') => sRet (fC (.bl true)) ρ' η'
    | r => r) with
    | some r => endS r
    | none => none) = _
  rw [h3]
  rfl
end K82P
namespace K82F
open PySem PySem.Spec PyProof.Rows L2 TL K82H K82W
theorem facts {w : World} {K : PySem.W.Frag} {mg : Str → Option Value} {h : Heap} {f : Addr} (KX : K.In h) (G : h.Ns mainGlobals mg) (hfa : mg ("law" : Str) = some (.ref f)) (c : SaysX R.prog chk fn ini K) :
    ∃ fd : FuncData, (∀ (s : Shared) (u : Value), BindsTo s fd ⟨[u], []⟩ [("_law_script", u)]) ∧ ∀ base : Heap, K.In base → base.Ns mainGlobals mg → FnG R.prog w K mg base 12 f fd ["_law_script"] M_law := by
  have e := hfa.symm.trans (gl KX G c 6)
  cases e
  obtain ⟨fd, F⟩ := c.def_ 6
  have b := FunD.bindsA (ps := ["_law_script"]) F fun _ _ _ _ _ _ us hl => match us, hl with | [_], _ => rfl
  refine ⟨fd, fun s v => b s [v] rfl, fun base kb gb => ?_⟩
  obtain ⟨fd2, _, _, F2, oc, od, osl, l2⟩ := ok_law (w := w) (base := base) kb gb c
  obtain ⟨_, _, _, _, _, _, _, _, _, _, _, l1, _⟩ := F.ex
  have z := Option.some.inj (l1.symm.trans l2)
  injection z with _ _ z _
  injection z with z
  subst z
  exact F2.mono (by decide)
end K82F
open PySem PySem.W PySem.Calls PyProof.Rows
theorem PySem.Challenge.cw_fillroads_k82_errors_and_their_fields_holds : PySem.Challenge.rw_fillroads_k82_errors_and_their_fields.Holds := by
  w_on; o_law
  refine HandSHeadRun.head_any (r := K82H.R) (q := view K82H.R.prog [35]) (H := K82H.hk) (ob := K82H.ob) (M := 20000) (loose := K82H.names) (d := HandSHeadRun.topDef K82H.R.prog 35) (kwd := []) K82H.ob_eq (by kernel_rfl) (fun s => by kernel_rfl) K82H.run (by kernel_rfl) (by kernel_rfl) (by kernel_rfl) (by rfl)
    (by first | assumption | decide +kernel) (by decide +kernel) ⟨rfl, rfl, rfl, rfl, rfl, by decide +kernel⟩ ?hw ?hc
  case hw => w_witness2
  case hc =>
    refine TL.walk_G (l := PySem.Challenge.rw_fillroads_k82_errors_and_their_fields) (n := 63) (k := 12) (x := "_law_script") rfl (by decide) (by kernel_rfl) ⟨⟨rfl, by decide, by decide⟩, rfl⟩ ?F
    intro w mg fa h Y G hmg0
    obtain ⟨K, KX, c⟩ := Y
    have hmg : mg ("law" : PySem.Str) = some (.ref fa) := by
      have e : (HandSHeadRun.topDef K82H.R.prog 35).name = ("law" : PySem.Str) := by kernel_rfl
      rw [← e]
      exact hmg0
    obtain ⟨fd, hb, hF⟩ := K82F.facts (w := w) KX G hmg c
    exact ⟨K, fd, K82W.M_law, KX, hb, fun ns _ => K82P.law_true ns, hF⟩
