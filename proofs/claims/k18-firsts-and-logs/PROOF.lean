import PyProof.Rows.All
import HandS.ForMost
import HandS.ForExc
import HandS.CallSlots
import HandS.WideMore
import HandS.TupAny
import HandS.ExcCtx
import HandS.Flow
import KE.DataEq
import HandS.IsInst
import HandS.Conv
import HandS.SortInts
import HandS.TupLen
import HandS.Style
import HandS.Iter
import HandS.Rev
import KE.DataCmp
import KE.SortData
import KE.DataMinMax
import KE.DataFind
import HandS.TupMul
import HandS.Zip
import HandS.TupLe
import HandS.Ends
import PyProof.ReprRoads
import PyProof.Rows.SortWalk
import KE.KDictPairs
import HandS.ExcIs
import HandS.ExcValue
import PyProof.Rows.CountFlat
import HandS.RevTup
import HandS.MapObj
import HandS.SortKw
import PyProof.Rows.RowBridgeK
import HandS.Hot
import HandS.HotCalls
import KE.KDictCopyH
import KE.KDictKeyed
import HandS.More
import HandS.Flt
import HandS.Text
import PyProof.StrOps2
import PyProof.Rows.RuleB_pow
import HandS.DictEq
import HandS.DictComp
import KE.KDictSum
import PyProof.TupleOfGen
import HandS.Sort
import PyProof.WalksMore
import PyProof.Rows.SumAny
import HandS.TryOnly
import PyProof.FitsInt
import Wide.All
import OpenK.AllK
import Wide.FinOn
import PySem.Challenge.RW_evendiffs_k18_firsts_and_logs
set_option Elab.async false
set_option linter.all false
set_option maxRecDepth 100000
namespace TL
open PySem PySem.Spec PyProof.Rows L2
/-- a dict's keys: numbers and texts; tuples of such -/
inductive KK where
  | k | t
  deriving DecidableEq
inductive D where
  | non | bl (b : Bool) | int (i : Int) | str (x : Str) | tup (l : List D) | lst (l : List D) | dct (kk : KK) (l : List (D × D)) | ty (n : String) | ref (a : Addr)
  /-- a list that is read alone (the script) -/
  | scr (l : List D)
  /-- an exception of the module's class n; that class -/
  | exc (n : String) | cl (n : String)
  /-- an instance of the module's class n that is read alone -/
  | obj (n : String) (fs : List (Str × D))
inductive FV where
  | v (d : D) | l (l : List D) | d (kk : KK) (l : List (D × D))
/-- a mutable object by value -/
inductive Cell where
  | lst (l : List D) | dct (kk : KK) (l : List (D × D)) | ins (n : String) (fs : List (Str × FV))
/-- a field as data -/
def FV.z : FV → D
  | .v x => x
  | .l x => .lst x
  | .d kk x => .dct kk x
def fsZ (fs : List (Str × FV)) : List (Str × D) := fs.map fun p => (p.1, p.2.z)
inductive Slot where
  | un | v (d : D) | own (c : Cell) | bor (c : Cell)
inductive R where
  | v (d : D) | own (c : Cell)
abbrev TSt := List Slot
def kD : Key → D
  | .inl i => .int i
  | .inr x => .str x
def kT (ks : List Key) : D := .tup (ks.map kD)
/-- the fields that instances of the module's classes may have -/
def clsFields (n : String) : List Str := match n with
  | "Field" => ["p", "m", "shape", "nought", "one", "kept_first", "kept_logs"]
  | "Seeker" => ["rings", "k", "due", "board", "chosen", "counted", "most", "looked", "is_spent", "found"]
  | "Looker" => ["rings", "k", "due", "board", "wholes"]
  | "Desk" => ["rings", "held"]
  | _ => []
def KsOk (n : String) (ks : List Str) : Prop := ks.Nodup ∧ ∀ k ∈ ks, k ∈ clsFields n
/-- the module's class n stands at C -/
def ClsAt (K : PySem.W.Frag) (n : String) (C : Addr) : Prop := PySem.W.nsIn K mainGlobals (Str.ofString n) = some (some (.ref C))
/-- an exception object of the class C, at a -/
def ExT (C a : Addr) : HO := .ext fun h => ∃ (oe : Obj) (vs : Array Value), h.get? a = some oe ∧ L2N.Zn (.ref C) none oe ∧ oe.data = .fields vs
def ClsN (K : PySem.W.Frag) (n : String) (v : Value) : Prop := ∃ C, v = .ref C ∧ ClsAt K n C
mutual
inductive Rep (K : PySem.W.Frag) (F : Hp) : D → V → Prop
  | non : Rep K F .non .non
  | bl (b : Bool) : Rep K F (.bl b) (.bl b)
  | int (i : Int) : Rep K F (.int i) (.int i)
  | str (x : Str) : Rep K F (.str x) (.str x)
  | ty (n : String) : Rep K F (.ty n) (.ty n)
  | ref {a : Addr} {o : Obj} : K.lookup a = some o → Rep K F (.ref a) (.ref a)
  | exc {n : String} {a C : Addr} : ClsAt K n C → F a = some (ExT C a) → Rep K F (.exc n) (.ref a)
  | cl {n : String} {C : Addr} : ClsAt K n C → Rep K F (.cl n) (.ref C)
  | tup {a : Addr} {ds : List D} {vs : List V} : F a = some (.tup vs) → Reps K F ds vs → Rep K F (.tup ds) (.ref a)
  | lst {a : Addr} {ds : List D} {vs : List V} : F a = some (.lst vs) → Reps K F ds vs → Rep K F (.lst ds) (.ref a)
  | scr {a : Addr} {ds : List D} {vs : List V} : SqL K F a vs → Reps K F ds vs → Rep K F (.scr ds) (.ref a)
  | dctK {a : Addr} {ds : List (D × D)} {kvs : List (Key × V)} : F a = some (.dK kvs) → RepK K F ds kvs → Rep K F (.dct .k ds) (.ref a)
  | dctT {a : Addr} {ds : List (D × D)} {kvs : List (List Key × V)} : F a = some (.dT kvs) → RepT K F ds kvs → Rep K F (.dct .t ds) (.ref a)
  | obj {n : String} {C dx a : Addr} {fs : List (Str × D)} {gs : List (Str × V)} : ClsAt K n C → F a = some (.ins C dx gs) → F dx = some (.own a) → KsOk n (fs.map (·.1)) → RepF K F fs gs → Rep K F (.obj n fs) (.ref a)
inductive RepF (K : PySem.W.Frag) (F : Hp) : List (Str × D) → List (Str × V) → Prop
  | nil : RepF K F [] []
  | cons {f : Str} {d : D} {v : V} {fs : List (Str × D)} {gs : List (Str × V)} : Rep K F d v → RepF K F fs gs → RepF K F ((f, d) :: fs) ((f, v) :: gs)
inductive Reps (K : PySem.W.Frag) (F : Hp) : List D → List V → Prop
  | nil : Reps K F [] []
  | cons {d : D} {v : V} {ds : List D} {vs : List V} : Rep K F d v → Reps K F ds vs → Reps K F (d :: ds) (v :: vs)
inductive RepK (K : PySem.W.Frag) (F : Hp) : List (D × D) → List (Key × V) → Prop
  | nil : RepK K F [] []
  | cons {k : Key} {d : D} {v : V} {ds : List (D × D)} {vs : List (Key × V)} : Rep K F d v → RepK K F ds vs → RepK K F ((kD k, d) :: ds) ((k, v) :: vs)
inductive RepT (K : PySem.W.Frag) (F : Hp) : List (D × D) → List (List Key × V) → Prop
  | nil : RepT K F [] []
  | cons {k : List Key} {d : D} {v : V} {ds : List (D × D)} {vs : List (List Key × V)} : Rep K F d v → RepT K F ds vs → RepT K F ((kT k, d) :: ds) ((k, v) :: vs)
end
theorem Rd.up {F F' : Hp} {a : Addr} {u : HO} (s : Same F F') (h : Rd F a u) : Rd F' a u := by
  rcases h with h | ⟨o, h⟩
  · exact .inl (s _ _ h)
  · exact .inr ⟨o, s _ _ h⟩
theorem SqL.up {K : PySem.W.Frag} {F F' : Hp} {a : Addr} {xs : List V} (s : Same F F') (h : SqL K F a xs) : SqL K F' a xs := by
  rcases h with h | h
  · exact .inl (Rd.up s h)
  · exact .inr h
theorem SqT.up {K : PySem.W.Frag} {F F' : Hp} {a : Addr} {xs : List V} (s : Same F F') (h : SqT K F a xs) : SqT K F' a xs := by
  rcases h with h | h
  · exact .inl (Rd.up s h)
  · exact .inr h
section
variable {K : PySem.W.Frag} {F F' : Hp}
mutual
theorem Rep.up (s : Same F F') : ∀ {d : D} {v : V}, Rep K F d v → Rep K F' d v
  | _, _, .non => .non
  | _, _, .bl b => .bl b
  | _, _, .int i => .int i
  | _, _, .str x => .str x
  | _, _, .ty x => .ty x
  | _, _, .ref h => .ref h
  | _, _, .exc h q => .exc h (s _ _ q)
  | _, _, .cl h => .cl h
  | _, _, .tup h r => .tup (s _ _ h) (Reps.up s r)
  | _, _, .lst h r => .lst (s _ _ h) (Reps.up s r)
  | _, _, .scr h r => .scr (SqL.up s h) (Reps.up s r)
  | _, _, .dctK h r => .dctK (s _ _ h) (RepK.up s r)
  | _, _, .dctT h r => .dctT (s _ _ h) (RepT.up s r)
  | _, _, .obj c h q k r => .obj c (s _ _ h) (s _ _ q) k (RepF.up s r)
theorem RepF.up (s : Same F F') : ∀ {fs : List (Str × D)} {gs : List (Str × V)}, RepF K F fs gs → RepF K F' fs gs
  | _, _, .nil => .nil
  | _, _, .cons h r => .cons (Rep.up s h) (RepF.up s r)
theorem Reps.up (s : Same F F') : ∀ {ds : List D} {vs : List V}, Reps K F ds vs → Reps K F' ds vs
  | _, _, .nil => .nil
  | _, _, .cons h r => .cons (Rep.up s h) (Reps.up s r)
theorem RepK.up (s : Same F F') : ∀ {ds : List (D × D)} {vs : List (Key × V)}, RepK K F ds vs → RepK K F' ds vs
  | _, _, .nil => .nil
  | _, _, .cons h r => .cons (Rep.up s h) (RepK.up s r)
theorem RepT.up (s : Same F F') : ∀ {ds : List (D × D)} {vs : List (List Key × V)}, RepT K F ds vs → RepT K F' ds vs
  | _, _, .nil => .nil
  | _, _, .cons h r => .cons (Rep.up s h) (RepT.up s r)
end
end
/-- what stands at a heap: frozen, or a mutable object as it is now -/
inductive RepH (K : PySem.W.Frag) (F H : Hp) : D → V → Prop
  | rep {d : D} {v : V} : Rep K F d v → RepH K F H d v
  | lst {a : Addr} {ds : List D} {vs : List V} : H a = some (.lst vs) → Reps K F ds vs → RepH K F H (.lst ds) (.ref a)
  | dctK {a : Addr} {ds : List (D × D)} {kvs : List (Key × V)} : H a = some (.dK kvs) → RepK K F ds kvs → RepH K F H (.dct .k ds) (.ref a)
  | dctT {a : Addr} {ds : List (D × D)} {kvs : List (List Key × V)} : H a = some (.dT kvs) → RepT K F ds kvs → RepH K F H (.dct .t ds) (.ref a)
section
variable {K : PySem.W.Frag} {F H : Hp}
theorem RepH.lst_inv {ds : List D} {v : V} (h : RepH K F H (.lst ds) v) (s : Same F H) : ∃ a vs, v = .ref a ∧ H a = some (.lst vs) ∧ Reps K F ds vs := by
  cases h with
  | rep r => cases r with
    | lst e r => exact ⟨_, _, rfl, s _ _ e, r⟩
  | lst e r => exact ⟨_, _, rfl, e, r⟩
theorem RepH.tup_inv {ds : List D} {v : V} (h : RepH K F H (.tup ds) v) (s : Same F H) : ∃ a vs, v = .ref a ∧ H a = some (.tup vs) ∧ Reps K F ds vs := by
  cases h with
  | rep r => cases r with
    | tup e r => exact ⟨_, _, rfl, s _ _ e, r⟩
theorem RepH.scr_inv {ds : List D} {v : V} (h : RepH K F H (.scr ds) v) (s : Same F H) : ∃ a vs, v = .ref a ∧ SqL K H a vs ∧ Reps K F ds vs := by
  cases h with
  | rep r => cases r with
    | scr e r => exact ⟨_, _, rfl, SqL.up s e, r⟩
theorem RepH.dK_inv {ds : List (D × D)} {v : V} (h : RepH K F H (.dct .k ds) v) (s : Same F H) : ∃ a kvs, v = .ref a ∧ H a = some (.dK kvs) ∧ RepK K F ds kvs := by
  cases h with
  | rep r => cases r with
    | dctK e r => exact ⟨_, _, rfl, s _ _ e, r⟩
  | dctK e r => exact ⟨_, _, rfl, e, r⟩
theorem RepH.dT_inv {ds : List (D × D)} {v : V} (h : RepH K F H (.dct .t ds) v) (s : Same F H) : ∃ a kvs, v = .ref a ∧ H a = some (.dT kvs) ∧ RepT K F ds kvs := by
  cases h with
  | rep r => cases r with
    | dctT e r => exact ⟨_, _, rfl, s _ _ e, r⟩
  | dctT e r => exact ⟨_, _, rfl, e, r⟩
theorem RepH.int_inv {i : Int} {v : V} (h : RepH K F H (.int i) v) : v = .int i := by cases h with | rep r => cases r; rfl
theorem RepH.bl_inv {i : Bool} {v : V} (h : RepH K F H (.bl i) v) : v = .bl i := by cases h with | rep r => cases r; rfl
theorem RepH.str_inv {i : Str} {v : V} (h : RepH K F H (.str i) v) : v = .str i := by cases h with | rep r => cases r; rfl
theorem RepH.non_inv {v : V} (h : RepH K F H .non v) : v = .non := by cases h with | rep r => cases r; rfl
end
inductive FsRel (K : PySem.W.Frag) (F H : Hp) : List (Str × FV) → List (Str × V) → List Addr → Prop
  | nil : FsRel K F H [] [] []
  | v {f : Str} {d : D} {x : V} {fs : List (Str × FV)} {gs : List (Str × V)} {fp : List Addr} : Rep K F d x → FsRel K F H fs gs fp → FsRel K F H ((f, .v d) :: fs) ((f, x) :: gs) fp
  | l {f : Str} {ds : List D} {a : Addr} {vs : List V} {fs : List (Str × FV)} {gs : List (Str × V)} {fp : List Addr} : H a = some (.lst vs) → Reps K F ds vs → FsRel K F H fs gs fp → FsRel K F H ((f, .l ds) :: fs) ((f, .ref a) :: gs) (a :: fp)
  | dK {f : Str} {ds : List (D × D)} {a : Addr} {kvs : List (Key × V)} {fs : List (Str × FV)} {gs : List (Str × V)} {fp : List Addr} : H a = some (.dK kvs) → RepK K F ds kvs → FsRel K F H fs gs fp → FsRel K F H ((f, .d .k ds) :: fs) ((f, .ref a) :: gs) (a :: fp)
  | dT {f : Str} {ds : List (D × D)} {a : Addr} {kvs : List (List Key × V)} {fs : List (Str × FV)} {gs : List (Str × V)} {fp : List Addr} : H a = some (.dT kvs) → RepT K F ds kvs → FsRel K F H fs gs fp → FsRel K F H ((f, .d .t ds) :: fs) ((f, .ref a) :: gs) (a :: fp)
inductive CellRel (K : PySem.W.Frag) (F H : Hp) : Cell → Addr → List Addr → Prop
  | lst {ds : List D} {a : Addr} {vs : List V} : H a = some (.lst vs) → Reps K F ds vs → CellRel K F H (.lst ds) a [a]
  | dK {ds : List (D × D)} {a : Addr} {kvs : List (Key × V)} : H a = some (.dK kvs) → RepK K F ds kvs → CellRel K F H (.dct .k ds) a [a]
  | dT {ds : List (D × D)} {a : Addr} {kvs : List (List Key × V)} : H a = some (.dT kvs) → RepT K F ds kvs → CellRel K F H (.dct .t ds) a [a]
  | ins {n : String} {C dx a : Addr} {fs : List (Str × FV)} {gs : List (Str × V)} {fp : List Addr} : ClsAt K n C → H a = some (.ins C dx gs) → H dx = some (.own a) → KsOk n (fs.map (·.1)) → FsRel K F H fs gs fp → CellRel K F H (.ins n fs) a (a :: dx :: fp)
section
variable {K : PySem.W.Frag} {F F' H H' : Hp}
theorem FsRel.up (s : Same F F') : ∀ {fs : List (Str × FV)} {gs : List (Str × V)} {fp : List Addr}, FsRel K F H fs gs fp → (∀ b ∈ fp, H' b = H b) → FsRel K F' H' fs gs fp
  | _, _, _, .nil, _ => .nil
  | _, _, _, .v r t, k => .v (Rep.up s r) (FsRel.up s t k)
  | _, _, _, .l e r t, k => .l ((k _ List.mem_cons_self).trans e) (Reps.up s r) (FsRel.up s t fun b hb => k b (List.mem_cons_of_mem _ hb))
  | _, _, _, .dK e r t, k => .dK ((k _ List.mem_cons_self).trans e) (RepK.up s r) (FsRel.up s t fun b hb => k b (List.mem_cons_of_mem _ hb))
  | _, _, _, .dT e r t, k => .dT ((k _ List.mem_cons_self).trans e) (RepT.up s r) (FsRel.up s t fun b hb => k b (List.mem_cons_of_mem _ hb))
theorem CellRel.up (s : Same F F') {c : Cell} {a : Addr} {fp : List Addr} (x : CellRel K F H c a fp) (k : ∀ b ∈ fp, H' b = H b) : CellRel K F' H' c a fp := by
  cases x with
  | lst e r => exact .lst ((k _ List.mem_cons_self).trans e) (Reps.up s r)
  | dK e r => exact .dK ((k _ List.mem_cons_self).trans e) (RepK.up s r)
  | dT e r => exact .dT ((k _ List.mem_cons_self).trans e) (RepT.up s r)
  | ins c e1 e2 ks r => exact .ins c ((k _ List.mem_cons_self).trans e1) ((k _ (List.mem_cons_of_mem _ List.mem_cons_self)).trans e2) ks (FsRel.up s r fun b hb => k b (List.mem_cons_of_mem _ (List.mem_cons_of_mem _ hb)))
theorem FsRel.there : ∀ {fs : List (Str × FV)} {gs : List (Str × V)} {fp : List Addr}, FsRel K F H fs gs fp → ∀ b ∈ fp, ∃ o, H b = some o
  | _, _, _, .nil, _, hb => nomatch hb
  | _, _, _, .v r t, b, hb => FsRel.there t b hb
  | _, _, _, .l e r t, b, hb => by
    rcases List.mem_cons.mp hb with rfl | hb
    · exact ⟨_, e⟩
    · exact FsRel.there t b hb
  | _, _, _, .dK e r t, b, hb => by
    rcases List.mem_cons.mp hb with rfl | hb
    · exact ⟨_, e⟩
    · exact FsRel.there t b hb
  | _, _, _, .dT e r t, b, hb => by
    rcases List.mem_cons.mp hb with rfl | hb
    · exact ⟨_, e⟩
    · exact FsRel.there t b hb
theorem CellRel.there {c : Cell} {a : Addr} {fp : List Addr} (x : CellRel K F H c a fp) : ∀ b ∈ fp, ∃ o, H b = some o := by
  intro b hb
  cases x with
  | lst e r => rw [List.mem_singleton.mp hb]; exact ⟨_, e⟩
  | dK e r => rw [List.mem_singleton.mp hb]; exact ⟨_, e⟩
  | dT e r => rw [List.mem_singleton.mp hb]; exact ⟨_, e⟩
  | ins c e1 e2 ks r =>
    rcases List.mem_cons.mp hb with rfl | hb
    · exact ⟨_, e1⟩
    · rcases List.mem_cons.mp hb with rfl | hb
      · exact ⟨_, e2⟩
      · exact FsRel.there r b hb
theorem CellRel.head {c : Cell} {a : Addr} {fp : List Addr} (x : CellRel K F H c a fp) : a ∈ fp := by
  cases x <;> exact List.mem_cons_self
end
structure Base where
  H : Hp
  F : Hp
  foot : List Addr
  home : Nat → Option Addr
structure Gh where
  F : Hp
  ow : Addr → Option Nat
def SlotRel (K : PySem.W.Frag) (B : Base) (g : Gh) (H : Hp) (i : Nat) (x : Option (Option V)) : Slot → Prop
  | .un => True
  | .v d => ∃ v, x = some (some v) ∧ Rep K g.F d v
  | .own c => ∃ a fp, x = some (some (.ref a)) ∧ CellRel K g.F H c a fp ∧ fp.Nodup ∧ ∀ b ∈ fp, g.ow b = some i
  | .bor c => ∃ a fp, x = some (some (.ref a)) ∧ B.home i = some a ∧ CellRel K g.F H c a fp ∧ fp.Nodup ∧ ∀ b ∈ fp, g.ow b = some i
/-- nothing is lost, and each tuple that is there is frozen -/
structure Dm (BH F H : Hp) : Prop where
  dom : ∀ a, H a = none → BH a = none
  tf : ∀ a xs, H a = some (.tup xs) → F a = some (.tup xs)
structure Rel (K : PySem.W.Frag) (B : Base) (g : Gh) (t : TSt) (σ : L2.St) (H : Hp) : Prop where
  base : Same B.F g.F
  sub : Same g.F H
  ff : ∀ a o, g.F a = some o → g.ow a = none
  old : ∀ a o, B.H a = some o → a ∉ B.foot → H a = some o ∧ g.ow a = none ∧ (B.F a = none → g.F a = none)
  ft : ∀ b ∈ B.foot, ∃ o, B.H b = some o
  dm : Dm B.H g.F H
  there : ∀ a i, g.ow a = some i → ∃ o, H a = some o
  len : t.length = σ.length
  slot : ∀ i s, t[i]? = some s → SlotRel K B g H i σ[i]? s
def ResRel (K : PySem.W.Frag) (B : Base) (g : Gh) (H : Hp) : R → V → Prop
  | .v d, v => Rep K g.F d v
  | .own c, v => ∃ a fp, v = .ref a ∧ CellRel K g.F H c a fp ∧ fp.Nodup ∧ ∀ b ∈ fp, g.ow b = none ∧ g.F b = none ∧ B.H b = none
section
variable {K : PySem.W.Frag} {B : Base} {g g' : Gh} {H H' : Hp} {t : TSt} {σ : L2.St}
theorem Rel.dom (r : Rel K B g t σ H) : ∀ a, H a = none → B.H a = none := r.dm.dom
theorem Rel.tf (r : Rel K B g t σ H) : ∀ a xs, H a = some (.tup xs) → g.F a = some (.tup xs) := r.dm.tf
theorem SlotRel.up {i : Nat} {x : Option (Option V)} {s : Slot} (h : SlotRel K B g H i x s) (sF : Same g.F g'.F) (k : ∀ b, g.ow b = some i → g'.ow b = some i ∧ H' b = H b) : SlotRel K B g' H' i x s := by
  cases s with
  | un => trivial
  | v d =>
    obtain ⟨v, e, r⟩ := h
    exact ⟨v, e, r.up sF⟩
  | own c =>
    obtain ⟨a, fp, e, r, n, o⟩ := h
    exact ⟨a, fp, e, r.up sF fun b hb => (k b (o b hb)).2, n, fun b hb => (k b (o b hb)).1⟩
  | bor c =>
    obtain ⟨a, fp, e, hm, r, n, o⟩ := h
    exact ⟨a, fp, e, hm, r.up sF fun b hb => (k b (o b hb)).2, n, fun b hb => (k b (o b hb)).1⟩
/-- a new frozen object -/
theorem Rel.newF {p : Addr} {o : HO} (r : Rel K B g t σ H) (hp : H p = none) : Same g.F (upd g.F p o) ∧ Rel K B ⟨upd g.F p o, g.ow⟩ t σ (upd H p o) := by
  have fp : g.F p = none := by
    cases q : g.F p with
    | none => rfl
    | some u => exact absurd (r.sub _ _ q) (by rw [hp]; exact nofun)
  have sF : Same g.F (upd g.F p o) := fun b u e => by
    rw [upd_ne (ne_of_none e fp)]; exact e
  have np : ∀ b i, g.ow b = some i → b ≠ p := fun b i e => by
    obtain ⟨u, hu⟩ := r.there b i e
    exact ne_of_none hu hp
  refine ⟨sF, ⟨fun b u e => sF _ _ (r.base _ _ e), fun b u e => ?_, fun b u e => ?_, fun b u e hb => ?_, r.ft, ⟨fun b e => ?_, fun b xs e => ?_⟩, fun b i e => ?_, r.len, fun i s e => ?_⟩⟩
  · have e' : upd g.F p o b = some u := e
    by_cases hb : b = p
    · subst hb; rw [upd_same] at e' ⊢; exact e'
    · rw [upd_ne hb] at e' ⊢; exact r.sub _ _ e'
  · by_cases hb : b = p
    · subst hb
      cases q : g.ow b with
      | none => rfl
      | some i => exact absurd rfl (np b i q)
    · have e' : upd g.F p o b = some u := e
      rw [upd_ne hb] at e'; exact r.ff _ _ e'
  · obtain ⟨h1, h2, h3⟩ := r.old b u e hb
    exact ⟨by rw [upd_ne (ne_of_none h1 hp)]; exact h1, h2, fun z => by show upd g.F p o b = none; rw [upd_ne (ne_of_none h1 hp)]; exact h3 z⟩
  · by_cases hb : b = p
    · subst hb; exact r.dom _ hp
    · rw [upd_ne hb] at e; exact r.dom _ e
  · show upd g.F p o b = _
    by_cases hb : b = p
    · subst hb; rw [upd_same] at e ⊢; exact e
    · rw [upd_ne hb] at e ⊢; exact r.tf _ _ e
  · obtain ⟨u, hu⟩ := r.there b i e
    exact ⟨u, by rw [upd_ne (np b i e)]; exact hu⟩
  · exact (r.slot i s e).up sF fun b q => ⟨q, upd_ne (np b i q)⟩
/-- a new object of nobody's -/
theorem Rel.newO {p : Addr} {o : HO} (r : Rel K B g t σ H) (hp : H p = none) (nt : ∀ xs, o ≠ .tup xs := by intro xs h; cases h) : Rel K B g t σ (upd H p o) ∧ g.ow p = none ∧ g.F p = none ∧ B.H p = none := by
  have fp : g.F p = none := by
    cases q : g.F p with
    | none => rfl
    | some u => exact absurd (r.sub _ _ q) (by rw [hp]; exact nofun)
  have np : ∀ b i, g.ow b = some i → b ≠ p := fun b i e => by
    obtain ⟨u, hu⟩ := r.there b i e
    exact ne_of_none hu hp
  refine ⟨⟨r.base, fun b u e => ?_, r.ff, fun b u e hb => ?_, r.ft, ⟨fun b e => ?_, fun b xs e => ?_⟩, fun b i e => ?_, r.len, fun i s e => ?_⟩, ?_, fp, r.dom _ hp⟩
  · rw [upd_ne (ne_of_none e fp)]; exact r.sub _ _ e
  · obtain ⟨h1, h2⟩ := r.old b u e hb
    exact ⟨by rw [upd_ne (ne_of_none h1 hp)]; exact h1, h2⟩
  · by_cases hb : b = p
    · subst hb; exact r.dom _ hp
    · rw [upd_ne hb] at e; exact r.dom _ e
  · by_cases hb : b = p
    · subst hb; rw [upd_same] at e; exact absurd (Option.some.inj e) (nt xs)
    · rw [upd_ne hb] at e; exact r.tf _ _ e
  · obtain ⟨u, hu⟩ := r.there b i e
    exact ⟨u, by rw [upd_ne (np b i e)]; exact hu⟩
  · exact (r.slot i s e).up (fun _ _ z => z) fun b q => ⟨q, upd_ne (np b i q)⟩
  · cases q : g.ow p with
    | none => rfl
    | some i => exact absurd rfl (np p i q)
theorem Rel.fnone {p : Addr} (r : Rel K B g t σ H) (hp : H p = none) : g.F p = none := by
  cases q : g.F p with
  | none => rfl
  | some u => exact absurd (r.sub _ _ q) (by rw [hp]; exact nofun)
/-- an object of nobody's is frozen as it stands -/
theorem Rel.freezeAt {p : Addr} {o : HO} (r : Rel K B g t σ H) (hp : H p = some o) (ho : g.ow p = none) (hf : g.F p = none) (hB : B.H p = none ∨ p ∈ B.foot) : Same g.F (upd g.F p o) ∧ Rel K B ⟨upd g.F p o, g.ow⟩ t σ H := by
  have sF : Same g.F (upd g.F p o) := fun b u e => by
    rw [upd_ne (ne_of_none e hf)]; exact e
  refine ⟨sF, ⟨fun b u e => sF _ _ (r.base _ _ e), fun b u e => ?_, fun b u e => ?_, fun b u e hb => ?_, r.ft, ⟨r.dom, fun b xs e => sF _ _ (r.tf _ _ e)⟩, r.there, r.len, fun i s e => (r.slot i s e).up sF fun b q => ⟨q, rfl⟩⟩⟩
  · have e' : upd g.F p o b = some u := e
    by_cases hb : b = p
    · subst hb; rw [upd_same] at e'; rw [← e']; exact hp
    · rw [upd_ne hb] at e'; exact r.sub _ _ e'
  · have e' : upd g.F p o b = some u := e
    by_cases hb : b = p
    · subst hb; exact ho
    · rw [upd_ne hb] at e'; exact r.ff _ _ e'
  · obtain ⟨h1, h2, h3⟩ := r.old b u e hb
    have ne : b ≠ p := by
      rintro rfl
      rcases hB with z | z
      · rw [z] at e; cases e
      · exact hb z
    exact ⟨h1, h2, fun z => by show upd g.F p o b = none; rw [upd_ne ne]; exact h3 z⟩
/-- the data of a cell that can be frozen -/
def Cell.d? : Cell → Option D
  | .lst l => some (.lst l)
  | .dct kk l => some (.dct kk l)
  | .ins n fs => some (.obj n (fsZ fs))
def R.d? : R → Option D
  | .v d => some d
  | .own c => c.d?
theorem freeze_fs : ∀ {fs : List (Str × FV)} {gs : List (Str × V)} {fp : List Addr} {g : Gh}, Rel K B g t σ H → FsRel K g.F H fs gs fp → fp.Nodup → (∀ b ∈ fp, g.ow b = none ∧ g.F b = none ∧ (B.H b = none ∨ b ∈ B.foot)) →
    ∃ F', Same g.F F' ∧ Rel K B ⟨F', g.ow⟩ t σ H ∧ RepF K F' (fsZ fs) gs ∧ ∀ b, b ∉ fp → F' b = g.F b
  | _, _, _, g, r, .nil, _, _ => ⟨g.F, fun _ _ z => z, r, .nil, fun _ _ => rfl⟩
  | _, _, _, g, r, .v x xs, nd, ho => by
    obtain ⟨F', s, r', q, e⟩ := freeze_fs r xs nd ho
    exact ⟨F', s, r', .cons (x.up s) q, e⟩
  | _, _, _, g, r, .l (a := a) h rs xs, nd, ho => by
    obtain ⟨n1, n2⟩ := List.nodup_cons.mp nd
    obtain ⟨h1, h2, h3⟩ := ho a List.mem_cons_self
    obtain ⟨s1, r1⟩ := r.freezeAt h h1 h2 h3
    obtain ⟨F', s, r', q, e⟩ := freeze_fs (g := ⟨upd g.F a _, g.ow⟩) r1 (xs.up s1 fun _ _ => rfl) n2 fun b hb => by
      obtain ⟨k1, k2, k3⟩ := ho b (List.mem_cons_of_mem _ hb)
      exact ⟨k1, (upd_ne fun z => n1 (by rw [← z]; exact hb)).trans k2, k3⟩
    refine ⟨F', s1.trans s, r', .cons (.lst (s _ _ upd_same) (rs.up (s1.trans s))) q, fun b hb => (e b fun z => hb (List.mem_cons_of_mem _ z)).trans (upd_ne fun z => hb (by rw [z]; exact List.mem_cons_self))⟩
  | _, _, _, g, r, .dK (a := a) h rs xs, nd, ho => by
    obtain ⟨n1, n2⟩ := List.nodup_cons.mp nd
    obtain ⟨h1, h2, h3⟩ := ho a List.mem_cons_self
    obtain ⟨s1, r1⟩ := r.freezeAt h h1 h2 h3
    obtain ⟨F', s, r', q, e⟩ := freeze_fs (g := ⟨upd g.F a _, g.ow⟩) r1 (xs.up s1 fun _ _ => rfl) n2 fun b hb => by
      obtain ⟨k1, k2, k3⟩ := ho b (List.mem_cons_of_mem _ hb)
      exact ⟨k1, (upd_ne fun z => n1 (by rw [← z]; exact hb)).trans k2, k3⟩
    refine ⟨F', s1.trans s, r', .cons (.dctK (s _ _ upd_same) (rs.up (s1.trans s))) q, fun b hb => (e b fun z => hb (List.mem_cons_of_mem _ z)).trans (upd_ne fun z => hb (by rw [z]; exact List.mem_cons_self))⟩
  | _, _, _, g, r, .dT (a := a) h rs xs, nd, ho => by
    obtain ⟨n1, n2⟩ := List.nodup_cons.mp nd
    obtain ⟨h1, h2, h3⟩ := ho a List.mem_cons_self
    obtain ⟨s1, r1⟩ := r.freezeAt h h1 h2 h3
    obtain ⟨F', s, r', q, e⟩ := freeze_fs (g := ⟨upd g.F a _, g.ow⟩) r1 (xs.up s1 fun _ _ => rfl) n2 fun b hb => by
      obtain ⟨k1, k2, k3⟩ := ho b (List.mem_cons_of_mem _ hb)
      exact ⟨k1, (upd_ne fun z => n1 (by rw [← z]; exact hb)).trans k2, k3⟩
    refine ⟨F', s1.trans s, r', .cons (.dctT (s _ _ upd_same) (rs.up (s1.trans s))) q, fun b hb => (e b fun z => hb (List.mem_cons_of_mem _ z)).trans (upd_ne fun z => hb (by rw [z]; exact List.mem_cons_self))⟩
theorem freeze_cell {c : Cell} {a : Addr} {fp : List Addr} {d : D} (r : Rel K B g t σ H) (x : CellRel K g.F H c a fp) (nd : fp.Nodup) (ho : ∀ b ∈ fp, g.ow b = none ∧ g.F b = none ∧ (B.H b = none ∨ b ∈ B.foot)) (hd : c.d? = some d) :
    ∃ F', Same g.F F' ∧ Rel K B ⟨F', g.ow⟩ t σ H ∧ Rep K F' d (.ref a) := by
  obtain ⟨h1, h2, h3⟩ := ho a x.head
  cases x with
  | lst e rs =>
    obtain ⟨sF, r'⟩ := r.freezeAt e h1 h2 h3
    cases hd
    exact ⟨_, sF, r', .lst upd_same (rs.up sF)⟩
  | dK e rs =>
    obtain ⟨sF, r'⟩ := r.freezeAt e h1 h2 h3
    cases hd
    exact ⟨_, sF, r', .dctK upd_same (rs.up sF)⟩
  | dT e rs =>
    obtain ⟨sF, r'⟩ := r.freezeAt e h1 h2 h3
    cases hd
    exact ⟨_, sF, r', .dctT upd_same (rs.up sF)⟩
  | @ins n C dx _ fs gs fp hc e1 e2 ks xs =>
    cases hd
    obtain ⟨n1, n2⟩ := List.nodup_cons.mp nd
    obtain ⟨n3, n4⟩ := List.nodup_cons.mp n2
    have ne : dx ≠ a := fun z => n1 (by rw [z]; exact List.mem_cons_self)
    obtain ⟨F1, s1, r1, q, e⟩ := freeze_fs r xs n4 fun b hb => ho b (List.mem_cons_of_mem _ (List.mem_cons_of_mem _ hb))
    obtain ⟨k1, k2, k3⟩ := ho dx (List.mem_cons_of_mem _ List.mem_cons_self)
    obtain ⟨s2, r2⟩ := r1.freezeAt (p := dx) e2 k1 ((e dx n3).trans k2) k3
    obtain ⟨s3, r3⟩ := r2.freezeAt (p := a) e1 h1 ((upd_ne ne.symm).trans ((e a fun z => n1 (List.mem_cons_of_mem _ z)).trans h2)) h3
    exact ⟨_, (s1.trans s2).trans s3, r3, .obj hc upd_same ((upd_ne ne).trans upd_same) (by unfold fsZ; rw [List.map_map]; exact ks) (q.up (Same.trans s2 s3))⟩
theorem ResRel.freeze {x : R} {v : V} {d : D} (r : Rel K B g t σ H) (h : ResRel K B g H x v) (hd : x.d? = some d) : ∃ F', Same g.F F' ∧ Rel K B ⟨F', g.ow⟩ t σ H ∧ Rep K F' d v := by
  cases x with
  | v e => cases hd; exact ⟨g.F, fun _ _ z => z, r, h⟩
  | own c =>
    obtain ⟨a, fp, rfl, x, nd, o⟩ := h
    exact freeze_cell r x nd (fun b hb => ⟨(o b hb).1, (o b hb).2.1, .inl (o b hb).2.2⟩) hd
/-- other owners alone -/
theorem Rel.owners {ow' : Addr → Option Nat} {t' : TSt} (r : Rel K B g t σ H) (h1 : ∀ a o, g.F a = some o → ow' a = none) (h2 : ∀ a o, B.H a = some o → a ∉ B.foot → ow' a = none) (h3 : ∀ a i, ow' a = some i → ∃ o, H a = some o)
    (hl : t'.length = σ.length) (hs : ∀ i s, t'[i]? = some s → SlotRel K B ⟨g.F, ow'⟩ H i σ[i]? s) : Rel K B ⟨g.F, ow'⟩ t' σ H :=
  ⟨r.base, r.sub, h1, fun a o e n => ⟨(r.old a o e n).1, h2 a o e n, (r.old a o e n).2.2⟩, r.ft, r.dm, h3, hl, hs⟩
theorem getElem?_set_cases {α : Type} {l : List α} {i j : Nat} {a b : α} (h : (l.set i a)[j]? = some b) : (j = i ∧ b = a ∧ i < l.length) ∨ (j ≠ i ∧ l[j]? = some b) := by
  by_cases e : j = i
  · subst e
    have hl : j < l.length := by
      have := (List.getElem?_eq_some_iff.mp h).1
      simpa using this
    rw [List.getElem?_set_self hl] at h
    exact .inl ⟨rfl, (Option.some.inj h).symm, hl⟩
  · rw [List.getElem?_set_ne (Ne.symm e)] at h
    exact .inr ⟨e, h⟩
theorem Rel.fNone {b : Addr} {i : Nat} (r : Rel K B g t σ H) (h : g.ow b = some i) : g.F b = none := by
  cases q : g.F b with
  | none => rfl
  | some u => have := r.ff b u q; rw [h] at this; cases this
theorem Rel.fresh {b : Addr} {i : Nat} (r : Rel K B g t σ H) (h : g.ow b = some i) : B.H b = none ∨ b ∈ B.foot := by
  cases q : B.H b with
  | none => exact .inl rfl
  | some u =>
    refine .inr (Classical.byContradiction fun z => ?_)
    have := (r.old b u q z).2.1
    rw [h] at this; cases this
/-- slot i's own cell is taken out of it -/
theorem Rel.disown {i : Nat} {s : Slot} (r : Rel K B g t σ H) (hb : ∀ c, t[i]? ≠ some (.bor c)) (hs : ∀ ow', SlotRel K B ⟨g.F, ow'⟩ H i σ[i]? s) :
    Rel K B ⟨g.F, fun a => if g.ow a = some i then none else g.ow a⟩ (t.set i s) σ H := by
  refine r.owners (fun a o e => ?_) (fun a o e n => ?_) (fun a j e => ?_) (by rw [List.length_set]; exact r.len) (fun j s' e => ?_)
  · rw [if_neg (by rw [r.ff a o e]; exact nofun)]; exact r.ff a o e
  · rw [if_neg (by rw [(r.old a o e n).2.1]; exact nofun)]; exact (r.old a o e n).2.1
  · split at e
    · cases e
    · exact r.there a j e
  · rcases getElem?_set_cases e with ⟨rfl, rfl, _⟩ | ⟨ne, e⟩
    · exact hs _
    · refine (r.slot j s' e).up (fun _ _ z => z) fun b q => ⟨?_, rfl⟩
      show (if g.ow b = some i then none else g.ow b) = some j
      rw [if_neg (by rw [q]; intro z; exact ne (Option.some.inj z))]; exact q
/-- a value is stored in slot i -/
theorem Rel.setV {i : Nat} {d : D} {v : V} (r : Rel K B g t σ H) (hi : i < t.length) (hb : ∀ c, t[i]? ≠ some (.bor c)) (h : Rep K g.F d v) :
    Rel K B g (t.set i (.v d)) (σ.set i (some v)) H := by
  refine ⟨r.base, r.sub, r.ff, r.old, r.ft, r.dm, r.there, by rw [List.length_set, List.length_set]; exact r.len, fun j s e => ?_⟩
  rcases getElem?_set_cases e with ⟨rfl, rfl, hl⟩ | ⟨ne, e⟩
  · exact ⟨v, by rw [List.getElem?_set_self (by rw [← r.len]; exact hi)], h⟩
  · rw [List.getElem?_set_ne (Ne.symm ne)]; exact r.slot j s e
theorem Rel.setUn {i : Nat} {x : Option V} (r : Rel K B g t σ H) : Rel K B g (t.set i .un) (σ.set i x) H := by
  refine ⟨r.base, r.sub, r.ff, r.old, r.ft, r.dm, r.there, by rw [List.length_set, List.length_set]; exact r.len, fun j s e => ?_⟩
  rcases getElem?_set_cases e with ⟨rfl, rfl, hl⟩ | ⟨ne, e⟩
  · trivial
  · rw [List.getElem?_set_ne (Ne.symm ne)]; exact r.slot j s e
/-- an object of nobody's is stored in slot i -/
theorem Rel.setO {i : Nat} {c : Cell} {v : V} (r : Rel K B g t σ H) (hi : i < t.length) (h : ResRel K B g H (.own c) v) :
    ∃ ow', Rel K B ⟨g.F, ow'⟩ (t.set i (.own c)) (σ.set i (some v)) H := by
  obtain ⟨a, fp, rfl, x, nd, o⟩ := h
  refine ⟨fun b => if b ∈ fp then some i else if g.ow b = some i then none else g.ow b, ⟨r.base, r.sub, fun b u e => ?_, fun b u e n => ⟨(r.old b u e n).1, ?_, (r.old b u e n).2.2⟩, r.ft, r.dm, fun b j e => ?_, by rw [List.length_set, List.length_set]; exact r.len, fun j s e => ?_⟩⟩
  · show (if b ∈ fp then some i else _) = none
    rw [if_neg (fun z => by rw [(o b z).2.1] at e; cases e), if_neg (by rw [r.ff b u e]; exact nofun)]; exact r.ff b u e
  · show (if b ∈ fp then some i else _) = none
    rw [if_neg (fun z => by rw [(o b z).2.2] at e; cases e), if_neg (by rw [(r.old b u e n).2.1]; exact nofun)]; exact (r.old b u e n).2.1
  · have e' : (if b ∈ fp then some i else if g.ow b = some i then none else g.ow b) = some j := e
    split at e'
    · rename_i hb; exact x.there b hb
    · split at e'
      · cases e'
      · exact r.there b j e'
  · rcases getElem?_set_cases e with ⟨rfl, rfl, hl⟩ | ⟨ne, e⟩
    · refine ⟨a, fp, by rw [List.getElem?_set_self (by rw [← r.len]; exact hi)], x, nd, fun b hb => ?_⟩
      show (if b ∈ fp then some j else _) = some j
      rw [if_pos hb]
    · rw [List.getElem?_set_ne (Ne.symm ne)]
      refine (r.slot j s e).up (fun _ _ z => z) fun b q => ⟨?_, rfl⟩
      show (if b ∈ fp then some i else if g.ow b = some i then none else g.ow b) = some j
      rw [if_neg (fun z => by rw [(o b z).1] at q; cases q), if_neg (by rw [q]; intro z; exact ne (Option.some.inj z))]; exact q
/-- slot i's own cell is frozen -/
theorem Rel.freezeSlot {i : Nat} {c : Cell} {d : D} (r : Rel K B g t σ H) (e : t[i]? = some (.own c)) (hd : c.d? = some d) :
    ∃ g' v, Same g.F g'.F ∧ Rel K B g' (t.set i (.v d)) σ H ∧ σ[i]? = some (some v) ∧ Rep K g'.F d v := by
  obtain ⟨a, fp, ea, x, nd, o⟩ := r.slot i _ e
  have r1 := r.disown (i := i) (s := .un) (fun c' z => by rw [e] at z; cases z) (fun _ => trivial)
  obtain ⟨F', sF, r2, rp⟩ := freeze_cell (g := ⟨g.F, fun a => if g.ow a = some i then none else g.ow a⟩) r1 x nd (fun b hb =>
    ⟨by show (if g.ow b = some i then none else g.ow b) = none; rw [if_pos (o b hb)], r.fNone (o b hb), r.fresh (o b hb)⟩) hd
  refine ⟨_, .ref a, sF, ⟨r2.base, r2.sub, r2.ff, r2.old, r2.ft, r2.dm, r2.there, by rw [List.length_set]; exact r.len, fun j s e' => ?_⟩, ea, rp⟩
  rcases getElem?_set_cases e' with ⟨rfl, rfl, hl⟩ | ⟨ne, e'⟩
  · exact ⟨_, ea, rp⟩
  · exact r2.slot j s (by rw [List.getElem?_set_ne (Ne.symm ne)]; exact e')
end
end TL
namespace TL
open PySem PySem.Spec PyProof.Rows L2
abbrev Pay := Option (List (Str × D))
/-- what is wanted of an exception: its class, its fields, the state -/
abbrev TX := String → Pay → TSt → Prop
abbrev noX : TX := fun _ _ _ => False
abbrev WE := TX → TSt → (R → TSt → Prop) → Prop
abbrev WT := TX → TSt → (Bool → TSt → Prop) → Prop
abbrev WA := TX → TSt → (List D → TSt → Prop) → Prop
structure TD where
  nx : TSt → Prop
  rt : R → TSt → Prop
  bk : TSt → Prop := fun _ => False
  ct : TSt → Prop := fun _ => False
abbrev WS := TX → TSt → TD → Prop
abbrev WG := D → TSt → (TSt → Prop) → Prop
inductive PayRel (K : PySem.W.Frag) (F : Hp) (H : Hp) : Pay → Option Addr → Prop
  | no : PayRel K F H none none
  | yes {a : Addr} {fs : List (Str × D)} {gs : List (Str × V)} : H a = some (.xd gs) → fs.map (·.1) = gs.map (·.1) → Reps K F (fs.map (·.2)) (gs.map (·.2)) → PayRel K F H (some fs) (some a)
def wxOf (K : PySem.W.Frag) (B : Base) (W : TX) : WX := fun cls d σ H => ∃ n, ClsN K n cls ∧ ∃ g t pay, Rel K B g t σ H ∧ PayRel K g.F H pay d ∧ W n pay t
def tOf (K : PySem.W.Frag) (B : Base) (m : TSt → (R → TSt → Prop) → Prop) : TE := fun σ H Q => ∃ g t P, Rel K B g t σ H ∧ m t P ∧
  ∀ r t', P r t' → ∀ g' v H', Same g.F g'.F → Rel K B g' t' σ H' → ResRel K B g' H' r v → Q v H'
def ttOf (K : PySem.W.Frag) (B : Base) (m : TSt → (Bool → TSt → Prop) → Prop) : TT := fun σ H Q => ∃ g t P, Rel K B g t σ H ∧ m t P ∧
  ∀ b t', P b t' → ∀ g' H', Same g.F g'.F → Rel K B g' t' σ H' → Q b H'
def taOf (K : PySem.W.Frag) (B : Base) (m : TSt → (List D → TSt → Prop) → Prop) : TA := fun σ H Q => ∃ g t P, Rel K B g t σ H ∧ m t P ∧
  ∀ ds t', P ds t' → ∀ g' vs H', Same g.F g'.F → Rel K B g' t' σ H' → Reps K g'.F ds vs → Q vs H'
def sOf (K : PySem.W.Frag) (B : Base) (m : TSt → TD → Prop) : TS := fun D σ H => ∃ g t P, Rel K B g t σ H ∧ m t P ∧
  (∀ t', P.nx t' → ∀ g' σ' H', Same g.F g'.F → Rel K B g' t' σ' H' → D.nx σ' H') ∧
  (∀ r t', P.rt r t' → ∀ g' σ' v H', Same g.F g'.F → Rel K B g' t' σ' H' → ResRel K B g' H' r v → D.rt v H') ∧
  (∀ t', P.bk t' → ∀ g' σ' H', Same g.F g'.F → Rel K B g' t' σ' H' → D.bk σ' H') ∧
  (∀ t', P.ct t' → ∀ g' σ' H', Same g.F g'.F → Rel K B g' t' σ' H' → D.ct σ' H')
/-- σ' is σ but for some slots -/
def Ag (gs : List Nat) (σ σ' : L2.St) : Prop := σ'.length = σ.length ∧ ∀ i, i ∉ gs → σ'[i]? = σ[i]?
theorem Ag.refl (gs : List Nat) (σ : L2.St) : Ag gs σ σ := ⟨rfl, fun _ _ => rfl⟩
theorem Ag.set {gs : List Nat} {σ : L2.St} {i : Nat} {x : Option V} (h : i ∈ gs) : Ag gs σ (σ.set i x) := ⟨List.length_set, fun j hj => List.getElem?_set_ne fun e => hj (by rw [← e]; exact h)⟩
theorem Ag.trans {gs hs : List Nat} {a b c : L2.St} (h : Ag gs a b) (k : Ag hs b c) : Ag (gs ++ hs) a c := ⟨k.1.trans h.1, fun i hi => (k.2 i fun z => hi (List.mem_append_right _ z)).trans (h.2 i fun z => hi (List.mem_append_left _ z))⟩
def gOf (K : PySem.W.Frag) (B : Base) (gs : List Nat) (m : WG) : TG := fun v σ H Q => ∃ g t d P, Rel K B g t σ H ∧ Rep K g.F d v ∧ m d t P ∧
  ∀ t', P t' → ∀ g' σ' H', Ag gs σ σ' → Same g.F g'.F → Rel K B g' t' σ' H' → Q σ' H'
def gsOf (K : PySem.W.Frag) (B : Base) (gs : List Nat) (m : List D → TSt → (TSt → Prop) → Prop) : TGs := fun vs σ H Q => ∃ g t ds P, Rel K B g t σ H ∧ Reps K g.F ds vs ∧ m ds t P ∧
  ∀ t', P t' → ∀ g' σ' H', Ag gs σ σ' → Same g.F g'.F → Rel K B g' t' σ' H' → Q σ' H'
def PET (B : Base) (X : Cx) (e : Expr) (w : WE) : Prop := ∀ W, L2N.Takes X (wxOf X.K B W) → PE X e (tOf X.K B (w W))
def PTT (B : Base) (X : Cx) (e : Expr) (w : WT) : Prop := ∀ W, L2N.Takes X (wxOf X.K B W) → PT X e (ttOf X.K B (w W))
def PWT (B : Base) (X : Cx) (e : Expr) (w : WT) : Prop := ∀ W, L2N.Takes X (wxOf X.K B W) → PW X e (ttOf X.K B (w W))
def PAT (B : Base) (X : Cx) (es : List Expr) (w : WA) : Prop := ∀ W, L2N.Takes X (wxOf X.K B W) → PA X es (taOf X.K B (w W))
def PST (B : Base) (X : Cx) (st : Stmt) (w : WS) : Prop := ∀ W, L2N.Takes X (wxOf X.K B W) → PS X st (sOf X.K B (w W))
def PSsT (B : Base) (X : Cx) (st : List Stmt) (w : WS) : Prop := ∀ W, L2N.Takes X (wxOf X.K B W) → PSs X st (sOf X.K B (w W))
def PGT (B : Base) (X : Cx) (e : Expr) (gs : List Nat) (w : WG) : Prop := PG X e (gOf X.K B gs w)
def PGsT (B : Base) (X : Cx) (es : List Expr) (gs : List Nat) (w : List D → TSt → (TSt → Prop) → Prop) : Prop := PGs X es (gsOf X.K B gs w)
theorem PE.imp {X : Cx} {e : Expr} {t t' : TE} (h : PE X e t) (i : ∀ σ H Q, t' σ H Q → t σ H Q) : PE X e t' := ⟨fun pins s σ H Q I q => h.run pins s σ H Q I (i σ H Q q)⟩
theorem PT.imp {X : Cx} {e : Expr} {t t' : TT} (h : PT X e t) (i : ∀ σ H Q, t' σ H Q → t σ H Q) : PT X e t' := ⟨fun pins s σ H Q I q => h.run pins s σ H Q I (i σ H Q q)⟩
theorem PW.imp {X : Cx} {e : Expr} {t t' : TT} (h : PW X e t) (i : ∀ σ H Q, t' σ H Q → t σ H Q) : PW X e t' := ⟨fun wh pins s σ H Q I q => h.run wh pins s σ H Q I (i σ H Q q)⟩
theorem PA.imp {X : Cx} {e : List Expr} {t t' : TA} (h : PA X e t) (i : ∀ σ H Q, t' σ H Q → t σ H Q) : PA X e t' := ⟨fun p pins s σ H Q I q => h.run p pins s σ H Q I (i σ H Q q)⟩
theorem PS.imp {X : Cx} {e : Stmt} {t t' : TS} (h : PS X e t) (i : ∀ D σ H, t' D σ H → t D σ H) : PS X e t' := ⟨fun pins s σ H D I q => h.run pins s σ H D I (i D σ H q)⟩
theorem PSs.imp {X : Cx} {e : List Stmt} {t t' : TS} (h : PSs X e t) (i : ∀ D σ H, t' D σ H → t D σ H) : PSs X e t' := ⟨fun pins s σ H D I q => h.run pins s σ H D I (i D σ H q)⟩
theorem PG.imp {X : Cx} {e : Expr} {t t' : TG} (h : PG X e t) (i : ∀ v σ H Q, t' v σ H Q → t v σ H Q) : PG X e t' := ⟨fun pins s σ H v u Q I r q => h.run pins s σ H v u Q I r (i v σ H Q q)⟩
theorem PGs.imp {X : Cx} {e : List Expr} {t t' : TGs} (h : PGs X e t) (i : ∀ v σ H Q, t' v σ H Q → t v σ H Q) : PGs X e t' := ⟨fun pins s σ H v u Q I r q => h.run pins s σ H v u Q I r (i v σ H Q q)⟩
theorem sRefl {H : Hp} : Same H H := fun _ _ z => z
def wVar (i : Nat) : WE := fun _ t Q => match t[i]? with
  | some (.v d) => Q (.v d) t
  | some (.own c) => match c.d? with
    | some d => Q (.v d) (t.set i (.v d))
    | none => False
  | _ => False
def wC (d : D) : WE := fun _ t Q => Q (.v d) t
/-- what a reading of a result as data is -/
def fz (r : R) (k : D → Prop) : Prop := match r.d? with
  | some d => k d
  | none => False
section
variable {B : Base} {X : Cx}
theorem T_var (i : Nat) {x : Str} {pos : Pos} (hN : X.N[i]? = some x := by rfl) (hv : Vis X.env.scope x := by first | exact Or.inl rfl | exact Or.inr (Or.inl rfl) | exact Or.inr (Or.inr rfl)) (hd : (x == ("__debug__" : Str)) = false := by rfl) (hcd : (x == ("__classdict__" : Str)) = false := by rfl) : PET B X (.Name x pos) (wVar i) := by
  refine fun W _ => PE.imp (pe_var hN hv hd hcd) fun σ H Q h => ?_
  obtain ⟨g, t, P, r, m, k⟩ := h
  unfold wVar at m
  split at m
  · rename_i d e
    obtain ⟨v, ev, rp⟩ := r.slot i _ e
    exact ⟨v, ev, k _ _ m g v H sRefl r rp⟩
  · rename_i c e
    split at m
    · rename_i d hd
      obtain ⟨g', v, sF, r', ev, rp⟩ := r.freezeSlot e hd
      exact ⟨v, ev, k _ _ m g' v H sF r' rp⟩
    · exact m.elim
  · exact m.elim
theorem T_c {e : Expr} {d : D} {v : V} (h : PE X e (tC v)) (r : ∀ F, Rep X.K F d v) : PET B X e (wC d) := by
  refine fun W _ => PE.imp h fun σ H Q h => ?_
  obtain ⟨g, t, P, r', m, k⟩ := h
  exact k _ _ m g v H sRefl r' (r _)
theorem T_int {i j pos} : PET B X (.Constant (.int i) j pos) (wC (.int i)) := T_c pe_int fun _ => .int _
theorem T_bl {i j pos} : PET B X (.Constant (.bool i) j pos) (wC (.bl i)) := T_c pe_bl fun _ => .bl _
theorem T_non {j pos} : PET B X (.Constant .none j pos) (wC .non) := T_c pe_non fun _ => .non
/-- a constant of the module -/
theorem T_glob {x : Str} {d : D} {v : V} {u : Value} {pos : Pos} (hg : Gl X x) (hm : X.mg x = some u) (r : RelV v u) (rp : ∀ F, Rep X.K F d v) (hd : (x == ("__debug__" : Str)) = false := by rfl) : PET B X (.Name x pos) (wC d) := T_c (pe_glob hg hm r hd) rp
end
def wBin (o : D → D → (R → Prop) → Prop) (a b : WE) : WE := fun W t Q => a W t fun r t1 => fz r fun x => b W t1 fun r' t2 => fz r' fun y => o x y fun z => Q z t2
/-- an operation on data, by what it does on values -/
def OpT (B : Base) (X : Cx) (f : Value → Value → Sem Value) (o : D → D → (R → Prop) → Prop) : Prop :=
  OpR X f fun x y H Q => ∃ g t σ dx dy P, Rel X.K B g t σ H ∧ RepH X.K g.F H dx x ∧ RepH X.K g.F H dy y ∧ o dx dy P ∧ ∀ r, P r → ∀ g' v H', Same g.F g'.F → Rel X.K B g' t σ H' → ResRel X.K B g' H' r v → Q v H'
section
variable {B : Base} {X : Cx} {a b : Expr} {wa wb : WE}
/-- the reading of two expressions in a row -/
theorem two {W : TX} {o : D → D → (R → Prop) → Prop} {r : R2} {σ : L2.St} {H : Hp} {Q : VK}
    (h : tOf X.K B (wBin o wa wb W) σ H Q)
    (ho : ∀ x y H Q g t dx dy P, Rel X.K B g t σ H → Rep X.K g.F dx x → Rep X.K g.F dy y → o dx dy P → (∀ r, P r → ∀ g' v H', Same g.F g'.F → Rel X.K B g' t σ H' → ResRel X.K B g' H' r v → Q v H') → r x y H Q) :
    tOp r (tOf X.K B (wa W)) (tOf X.K B (wb W)) σ H Q := by
  obtain ⟨g, t, P, rl, m, k⟩ := h
  refine ⟨g, t, _, rl, m, fun r1 t1 m1 g1 v1 H1 s1 rl1 rr1 => ?_⟩
  unfold fz at m1
  split at m1
  · rename_i dx hx
    obtain ⟨F2, s2, rl2, rp⟩ := rr1.freeze rl1 hx
    refine ⟨⟨F2, g1.ow⟩, t1, _, rl2, m1, fun r3 t3 m3 g3 v3 H3 s3 rl3 rr3 => ?_⟩
    split at m3
    · rename_i dy hy
      obtain ⟨F4, s4, rl4, rp4⟩ := rr3.freeze rl3 hy
      refine ho v1 v3 H3 Q ⟨F4, g3.ow⟩ t3 dx dy _ rl4 ((rp.up s3).up s4) rp4 m3 fun r5 m5 g5 v5 H5 s5 rl5 rr5 => ?_
      exact k _ _ m5 g5 v5 H5 (((s1.trans s2).trans (Same.trans s3 s4)).trans s5) rl5 rr5
    · exact m3.elim
  · exact m1.elim
theorem T_bin {op : Operator} {pos : Pos} {o : D → D → (R → Prop) → Prop} (ho : OpT B X (binaryOp op) o) (ha : PET B X a wa) (hb : PET B X b wb) : PET B X (.BinOp a op b pos) (wBin o wa wb) :=
  fun W tk => PE.imp (pe_op ho (ha W tk) (hb W tk)) fun σ H Q h => two h fun x y H Q g t dx dy P rl r1 r2 m k => ⟨g, t, σ, dx, dy, P, rl, .rep r1, .rep r2, m, k⟩
theorem T_cmp {op : CmpOp} {pos : Pos} {o : D → D → (R → Prop) → Prop} (ho : OpT B X (compareOp op) o) (ha : PET B X a wa) (hb : PET B X b wb) (hm : behindInMarks op b = false) : PET B X (.Compare a [op] [b] pos) (wBin o wa wb) :=
  fun W tk => PE.imp (pe_cmpR ho (ha W tk) (hb W tk) hm) fun σ H Q h => two h fun x y H Q g t dx dy P rl r1 r2 m k => ⟨g, t, σ, dx, dy, P, rl, .rep r1, .rep r2, m, k⟩
end
def rB (k : Bool → Prop) (r : R) : Prop := match r with
  | .v (.bl b) => k b
  | _ => False
/-- an expression whose value is True or False, as a test -/
def wTB (w : WE) : WT := fun W t Q => w W t fun r t1 => rB (fun b => Q b t1) r
section
variable {B : Base} {X : Cx} {a b : Expr} {wa wb : WE}
theorem rB_get {k : Bool → Prop} {r : R} (h : rB k r) : ∃ b, r = .v (.bl b) ∧ k b := by
  unfold rB at h
  split at h
  · exact ⟨_, rfl, h⟩
  · exact h.elim
theorem TT_cmp {op : CmpOp} {pos : Pos} {o : D → D → (R → Prop) → Prop} (ho : OpT B X (compareOp op) o) (ha : PET B X a wa) (hb : PET B X b wb) (hm : behindInMarks op b = false) : PTT B X (.Compare a [op] [b] pos) (wTB (wBin o wa wb)) := by
  refine fun W tk => PT.imp (pt_cmpR ho (ha W tk) (hb W tk) hm) fun σ H Q h => ?_
  obtain ⟨g, t, P, rl, m, k⟩ := h
  refine two (W := W) (o := o) ⟨g, t, _, rl, m, fun r1 t1 m1 g1 v1 H1 s1 rl1 rr1 => ?_⟩ fun x y H Q g t dx dy P rl r1 r2 m k => ⟨g, t, σ, dx, dy, P, rl, .rep r1, .rep r2, m, k⟩
  obtain ⟨b, rfl, m1⟩ := rB_get m1
  cases (show Rep X.K g1.F (.bl b) v1 from rr1)
  exact ⟨b, rfl, k _ _ m1 g1 H1 s1 rl1⟩
end
def Cell.p? : Cell → Option D
  | .lst l => some (.lst l)
  | .dct kk l => some (.dct kk l)
  | .ins _ _ => none
def peek (t : TSt) (i : Nat) : Option D := match t[i]? with
  | some (.v d) => some d
  | some (.own c) => c.p?
  | some (.bor c) => c.p?
  | _ => none
theorem cell_repH {K : PySem.W.Frag} {F H : Hp} {c : Cell} {a : Addr} {fp : List Addr} {d : D} (h : CellRel K F H c a fp) (e : c.p? = some d) : RepH K F H d (.ref a) := by
  cases h with
  | lst e' r => cases e; exact .lst e' r
  | dK e' r => cases e; exact .dctK e' r
  | dT e' r => cases e; exact .dctT e' r
  | ins _ _ _ _ _ => cases e
theorem peek_at {K : PySem.W.Frag} {B : Base} {g : Gh} {t : TSt} {σ : L2.St} {H : Hp} {i : Nat} {d : D} (rl : Rel K B g t σ H) (h : peek t i = some d) : ∃ v, σ[i]? = some (some v) ∧ RepH K g.F H d v := by
  unfold peek at h
  split at h
  · rename_i d' e
    cases h
    obtain ⟨v, ev, r⟩ := rl.slot i _ e
    exact ⟨v, ev, .rep r⟩
  · rename_i c e
    obtain ⟨a, fp, ev, cr, _⟩ := rl.slot i _ e
    exact ⟨_, ev, cell_repH cr h⟩
  · rename_i c e
    obtain ⟨a, fp, ev, _, cr, _⟩ := rl.slot i _ e
    exact ⟨_, ev, cell_repH cr h⟩
  · cases h
def pk (t : TSt) (i : Nat) (k : D → Prop) : Prop := match peek t i with
  | some d => k d
  | none => False
def wBinK (o : D → D → (R → Prop) → Prop) (a : WE) (i : Nat) : WE := fun W t Q => a W t fun r t1 => fz r fun x => pk t1 i fun y => o x y fun z => Q z t1
section
variable {B : Base} {X : Cx} {a b : Expr} {wa wb : WE}
end
end TL
namespace TL
open PySem PySem.Spec PyProof.Rows L2
def truD (k : Bool → Prop) : D → Prop
  | .non => k false
  | .bl b => k b
  | .int i => k (i != 0)
  | .str x => x.length ≤ sizeLine ∧ k ((x.length : Int) != 0)
  | .tup l => k (!l.isEmpty)
  | .lst l => k (!l.isEmpty)
  | .scr l => k (!l.isEmpty)
  | _ => False
/-- any expression as a test -/
def wTru (w : WE) : WT := fun W t Q => w W t fun r t1 => fz r fun d => truD (fun b => Q b t1) d
theorem Reps.isEmpty {K : PySem.W.Frag} {F : Hp} {ds : List D} {vs : List V} (r : Reps K F ds vs) : vs.isEmpty = ds.isEmpty := by cases r <;> rfl
theorem Reps.length {K : PySem.W.Frag} {F : Hp} : ∀ {ds : List D} {vs : List V}, Reps K F ds vs → vs.length = ds.length
  | _, _, .nil => rfl
  | _, _, .cons _ r => congrArg (· + 1) (Reps.length r)
section
variable {B : Base} {X : Cx} {a b c e : Expr} {wa wb we : WE} {wc wd : WT} {pos : Pos} {rest : List Expr}
theorem truV_of {g : Gh} {t : TSt} {σ : L2.St} {H : Hp} {d : D} {v : V} {k : Bool → Prop} (rl : Rel X.K B g t σ H) (rp : Rep X.K g.F d v) (h : truD k d) : ∃ q, TruV X.K v H q ∧ k q := by
  cases rp with
  | non => exact ⟨_, rfl, h⟩
  | bl b => exact ⟨_, rfl, h⟩
  | int i => exact ⟨_, rfl, h⟩
  | str x => exact ⟨_, ⟨h.1, rfl⟩, h.2⟩
  | tup s r => exact ⟨_, .inr (.inl ⟨_, .inl (.inl (rl.sub _ _ s)), rfl⟩), by rw [r.isEmpty]; exact h⟩
  | lst s r => exact ⟨_, .inl ⟨_, .inl (.inl (rl.sub _ _ s)), rfl⟩, by rw [r.isEmpty]; exact h⟩
  | scr s r => exact ⟨_, .inl ⟨_, SqL.up rl.sub s, rfl⟩, by rw [r.isEmpty]; exact h⟩
  | ty _ => exact h.elim
  | ref _ => exact h.elim
  | exc _ _ => exact h.elim
  | cl _ => exact h.elim
  | obj _ _ _ _ _ => exact h.elim
  | dctK _ _ => exact h.elim
  | dctT _ _ => exact h.elim
theorem TT_tru (ha : PET B X a wa) (he : ∀ whole, isTrue a X.env whole = (do let v ← whole; standAt a.pos; holding [v] (truthy v)) := by intro _; rfl) : PTT B X a (wTru wa) := by
  refine fun W tk => PT.imp (pt_truth (ha W tk) he) fun σ H Q h => ?_
  obtain ⟨g, t, P, rl, m, k⟩ := h
  refine ⟨g, t, _, rl, m, fun r1 t1 m1 g1 v1 H1 s1 rl1 rr1 => ?_⟩
  unfold fz at m1
  split at m1
  · rename_i dx hx
    obtain ⟨F2, s2, rl2, rp⟩ := rr1.freeze rl1 hx
    obtain ⟨q, e1, e2⟩ := truV_of rl2 rp m1
    exact ⟨q, e1, k _ _ e2 ⟨F2, g1.ow⟩ H1 (s1.trans s2) rl2⟩
  · exact m1.elim
def wAnd (c d : WT) : WT := fun W t Q => c W t fun b t1 => if b = true then d W t1 Q else Q false t1
def wOr (c d : WT) : WT := fun W t Q => c W t fun b t1 => if b = true then Q true t1 else d W t1 Q
def wNot (c : WT) : WT := fun W t Q => c W t fun b t1 => Q (!b) t1
theorem TW_and1 (ha : PTT B X a wc) : PWT B X (.BoolOp .And [a] pos) wc := fun W tk => pw_and1 (ha W tk)
theorem TW_or1 (ha : PTT B X a wc) : PWT B X (.BoolOp .Or [a] pos) wc := fun W tk => pw_or1 (ha W tk)
theorem TW_and (ha : PTT B X a wc) (hb : PWT B X (.BoolOp .And (b :: rest) pos) wd) : PWT B X (.BoolOp .And (a :: b :: rest) pos) (wAnd wc wd) := by
  refine fun W tk => PW.imp (pw_and (ha W tk) (hb W tk)) fun σ H Q h => ?_
  obtain ⟨g, t, P, rl, m, k⟩ := h
  refine ⟨g, t, _, rl, m, fun r1 t1 m1 g1 H1 s1 rl1 => ?_⟩
  cases r1 with
  | true => exact iteT ⟨g1, t1, P, rl1, (show wd W t1 P from m1), fun b t2 m2 g2 H2 s2 rl2 => k b t2 m2 g2 H2 (s1.trans s2) rl2⟩
  | false => exact iteF (k _ _ (show P false t1 from m1) g1 H1 s1 rl1)
theorem TW_or (ha : PTT B X a wc) (hb : PWT B X (.BoolOp .Or (b :: rest) pos) wd) : PWT B X (.BoolOp .Or (a :: b :: rest) pos) (wOr wc wd) := by
  refine fun W tk => PW.imp (pw_or (ha W tk) (hb W tk)) fun σ H Q h => ?_
  obtain ⟨g, t, P, rl, m, k⟩ := h
  refine ⟨g, t, _, rl, m, fun r1 t1 m1 g1 H1 s1 rl1 => ?_⟩
  cases r1 with
  | true => exact iteT (k _ _ (show P true t1 from m1) g1 H1 s1 rl1)
  | false => exact iteF ⟨g1, t1, P, rl1, (show wd W t1 P from m1), fun b t2 m2 g2 H2 s2 rl2 => k b t2 m2 g2 H2 (s1.trans s2) rl2⟩
theorem TT_w (h : PWT B X a wc) : PTT B X a wc := fun W tk => (h W tk).pt
theorem TT_not (ha : PTT B X a wc) : PTT B X (.UnaryOp .Not a pos) (wNot wc) := by
  refine fun W tk => PT.imp (pt_not (ha W tk)) fun σ H Q h => ?_
  obtain ⟨g, t, P, rl, m, k⟩ := h
  exact ⟨g, t, _, rl, m, fun r1 t1 m1 g1 H1 s1 rl1 => k _ _ m1 g1 H1 s1 rl1⟩
/-- .. as values: what is not the last is True or False -/
def wAndV (a b : WE) : WE := fun W t Q => a W t fun r t1 => rB (fun c => if c = true then b W t1 Q else Q (.v (.bl false)) t1) r
def wOrV (a b : WE) : WE := fun W t Q => a W t fun r t1 => rB (fun c => if c = true then Q (.v (.bl true)) t1 else b W t1 Q) r
theorem T_one {op : BoolOp} (ha : PET B X a wa) : PET B X (.BoolOp op [a] pos) wa := fun W tk => pe_one (ha W tk)
theorem T_and (ha : PET B X a wa) (hb : PET B X (.BoolOp .And (b :: rest) pos) wb) : PET B X (.BoolOp .And (a :: b :: rest) pos) (wAndV wa wb) := by
  refine fun W tk => PE.imp (pe_and (ha W tk) (hb W tk)) fun σ H Q h => ?_
  obtain ⟨g, t, P, rl, m, k⟩ := h
  refine ⟨g, t, _, rl, m, fun r1 t1 m1 g1 v1 H1 s1 rl1 rr1 => ?_⟩
  obtain ⟨b, rfl, m1⟩ := rB_get m1
  cases (show Rep X.K g1.F (.bl b) v1 from rr1)
  cases b with
  | true => exact ⟨true, rfl, iteT ⟨g1, t1, P, rl1, (show wb W t1 P from m1), fun r t2 m2 g2 v2 H2 s2 rl2 rr2 => k r t2 m2 g2 v2 H2 (s1.trans s2) rl2 rr2⟩⟩
  | false => exact ⟨false, rfl, iteF (k _ _ (show P (.v (.bl false)) t1 from m1) g1 _ H1 s1 rl1 (.bl false))⟩
/-- not of any value -/
def wNotT (a : WE) : WE := fun W t Q => a W t fun r t1 => fz r fun d => truD (fun c => Q (.v (.bl (!c))) t1) d
def wIte (c : WT) (a b : WE) : WE := fun W t Q => c W t fun k t1 => if k = true then a W t1 Q else b W t1 Q
end
def wNext : WS := fun _ t D => D.nx t
def wSeq (a b : WS) : WS := fun W t D => a W t { D with nx := fun t1 => b W t1 D }
def wDrop (a : WE) : WS := fun W t D => a W t fun _ t1 => D.nx t1
def wRet (a : WE) : WS := fun W t D => a W t D.rt
def wBrk : WS := fun _ t D => D.bk t
def wCnt : WS := fun _ t D => D.ct t
def wIf (c : WT) (a b : WS) : WS := fun W t D => c W t fun k t1 => if k = true then a W t1 D else b W t1 D
def wNever : WS := fun _ _ _ => False
/-- the value goes into slot i -/
def stR (i : Nat) (r : R) (t : TSt) (k : TSt → Prop) : Prop := match t[i]? with
  | some (.bor _) => False
  | none => False
  | _ => match r with
    | .v d => k (t.set i (.v d))
    | .own c => k (t.set i (.own c))
def wSet (i : Nat) (a : WE) : WS := fun W t D => a W t fun r t1 => stR i r t1 D.nx
/-- name op= e -/
def wAug (i : Nat) (o : D → D → (R → Prop) → Prop) (a : WE) : WS := fun W t D => match t[i]? with
  | some (.v x) => a W t fun r t1 => fz r fun y => o x y fun z => stR i z t1 D.nx
  | _ => False
section
variable {B : Base} {X : Cx} {e c : Expr} {w : WE} {wc : WT} {st : Stmt} {sts sts' : List Stmt} {u v : WS} {pos : Pos}
theorem Rel.set {K : PySem.W.Frag} {g : Gh} {t : TSt} {σ : L2.St} {H : Hp} {i : Nat} {r : R} {x : V} {k : TSt → Prop} (rl : Rel K B g t σ H) (rr : ResRel K B g H r x) (h : stR i r t k) :
    ∃ ow' t', k t' ∧ Rel K B ⟨g.F, ow'⟩ t' (σ.set i (some x)) H := by
  have hi : i < t.length ∧ ∀ c, t[i]? ≠ some (.bor c) := by
    unfold stR at h
    split at h
    · exact h.elim
    · exact h.elim
    · rename_i h1 h2
      constructor
      · rcases Nat.lt_or_ge i t.length with z | z
        · exact z
        · exact absurd (List.getElem?_eq_none z) h2
      · intro c e; exact h1 c e
  cases r with
  | v d =>
    have h' : k (t.set i (.v d)) := by
      unfold stR at h
      split at h
      · exact h.elim
      · exact h.elim
      · exact h
    exact ⟨g.ow, _, h', rl.setV hi.1 hi.2 rr⟩
  | own c =>
    have h' : k (t.set i (.own c)) := by
      unfold stR at h
      split at h
      · exact h.elim
      · exact h.elim
      · exact h
    obtain ⟨ow', r'⟩ := rl.setO hi.1 rr
    exact ⟨ow', _, h', r'⟩
theorem S_nil : PSsT B X [] wNext := fun W tk => PSs.imp pss_nil fun D σ H h => by
  obtain ⟨g, t, P, rl, m, k, _⟩ := h
  exact k _ m g σ H sRefl rl
theorem S_never : PST B X st wNever := fun W tk => PS.imp ps_never fun D σ H h => by
  obtain ⟨_, _, _, _, m, _⟩ := h
  exact m
theorem S_one (h : PST B X st u) : PSsT B X [st] u := fun W tk => pss_one (h W tk)
theorem S_seq (h1 : PST B X st u) (h2 : PSsT B X sts v) : PSsT B X (st :: sts) (wSeq u v) := fun W tk => PSs.imp (pss_cons (h1 W tk) (h2 W tk)) fun D σ H h => by
  obtain ⟨g, t, P, rl, m, k1, k2, k3, k4⟩ := h
  refine ⟨g, t, _, rl, m, fun t1 m1 g1 σ1 H1 s1 rl1 => ?_, k2, k3, k4⟩
  exact ⟨g1, t1, P, rl1, m1, fun t2 m2 g2 σ2 H2 s2 rl2 => k1 t2 m2 g2 σ2 H2 (s1.trans s2) rl2, fun r t2 m2 g2 σ2 v2 H2 s2 rl2 rr2 => k2 r t2 m2 g2 σ2 v2 H2 (s1.trans s2) rl2 rr2,
    fun t2 m2 g2 σ2 H2 s2 rl2 => k3 t2 m2 g2 σ2 H2 (s1.trans s2) rl2, fun t2 m2 g2 σ2 H2 s2 rl2 => k4 t2 m2 g2 σ2 H2 (s1.trans s2) rl2⟩
theorem S_drop (h : PET B X e w) (hs : swapsWith e none pos.line X.env = pure false := by rfl) : PST B X (.Expr e pos) (wDrop w) := fun W tk => PS.imp (ps_expr (h W tk) hs) fun D σ H h => by
  obtain ⟨g, t, P, rl, m, k, _⟩ := h
  exact ⟨g, t, _, rl, m, fun r1 t1 m1 g1 v1 H1 s1 rl1 _ => k _ m1 g1 σ H1 s1 rl1⟩
theorem S_if (hc : PTT B X c wc) (ha : PSsT B X sts u) (hb : PSsT B X sts' v) : PST B X (.If c sts sts' pos) (wIf wc u v) := fun W tk => PS.imp (ps_if (hc W tk) (ha W tk) (hb W tk)) fun D σ H h => by
  obtain ⟨g, t, P, rl, m, k1, k2, k3, k4⟩ := h
  refine ⟨g, t, _, rl, m, fun b t1 m1 g1 H1 s1 rl1 => ?_⟩
  have kk : ∀ w : WS, w W t1 P → sOf X.K B (w W) D σ H1 := fun w m1 => ⟨g1, t1, P, rl1, m1, fun t2 m2 g2 σ2 H2 s2 rl2 => k1 t2 m2 g2 σ2 H2 (s1.trans s2) rl2, fun r t2 m2 g2 σ2 v2 H2 s2 rl2 rr2 => k2 r t2 m2 g2 σ2 v2 H2 (s1.trans s2) rl2 rr2,
    fun t2 m2 g2 σ2 H2 s2 rl2 => k3 t2 m2 g2 σ2 H2 (s1.trans s2) rl2, fun t2 m2 g2 σ2 H2 s2 rl2 => k4 t2 m2 g2 σ2 H2 (s1.trans s2) rl2⟩
  cases b with
  | true => exact iteT (kk u m1)
  | false => exact iteF (kk v m1)
theorem S_set (i : Nat) {x : Str} {pos' : Pos} (hN : X.N.Nodup) (h : PET B X e w) (hi : X.N[i]? = some x := by rfl) (hx : Loc X.env.scope x := by first | exact Or.inl rfl | exact Or.inr rfl) (hs : swapsWith e (some (.Name x pos')) pos.line X.env = pure false := by rfl)
    (hf : X.fn x = true ∨ X.env.scope.names.lookup x = some .local := by first | exact .inl rfl | exact .inr rfl) : PST B X (.Assign [.Name x pos'] e pos) (wSet i w) := fun W tk => PS.imp (ps_set hN hi hx (h W tk) hs hf) fun D σ H h => by
  obtain ⟨g, t, P, rl, m, k, _⟩ := h
  refine ⟨g, t, _, rl, m, fun r1 t1 m1 g1 v1 H1 s1 rl1 rr1 => ?_⟩
  obtain ⟨ow', t', m2, rl2⟩ := rl1.set rr1 m1
  exact k _ m2 ⟨g1.F, ow'⟩ _ H1 s1 rl2
theorem S_aug (i : Nat) {x : Str} {op : Operator} {pos' : Pos} {o : D → D → (R → Prop) → Prop} (hN : X.N.Nodup) (ho : OpT B X (inplaceOp op) o) (h : PET B X e w) (hi : X.N[i]? = some x := by rfl) (hx : Loc X.env.scope x := by first | exact Or.inl rfl | exact Or.inr rfl)
    (hf : X.fn x = true ∨ X.env.scope.names.lookup x = some .local := by first | exact .inl rfl | exact .inr rfl) : PST B X (.AugAssign (.Name x pos') op e pos) (wAug i o w) := fun W tk => PS.imp (ps_aug hN hi hx (h W tk) (ti := _) ho hf) fun D σ H h => by
  obtain ⟨g, t, P, rl, m, k, _⟩ := h
  unfold wAug at m
  split at m
  · rename_i dx e1
    obtain ⟨v, ev, rp⟩ := rl.slot i _ e1
    refine ⟨v, ev, g, t, _, rl, m, fun r1 t1 m1 g1 v1 H1 s1 rl1 rr1 => ?_⟩
    unfold fz at m1
    split at m1
    · rename_i dy hy
      obtain ⟨F2, s2, rl2, rp2⟩ := rr1.freeze rl1 hy
      refine ⟨⟨F2, g1.ow⟩, t1, σ, dx, dy, _, rl2, .rep ((rp.up s1).up s2), .rep rp2, m1, fun r3 m3 g3 v3 H3 s3 rl3 rr3 => ?_⟩
      obtain ⟨ow', t', m4, rl4⟩ := rl3.set rr3 m3
      exact k _ m4 ⟨g3.F, ow'⟩ _ H3 ((s1.trans s2).trans s3) rl4
    · exact m1.elim
  · exact m.elim
end
end TL
namespace TL
open PySem PySem.Spec PyProof.Rows L2
/-- the turns give the data ds one by one -/
structure Follows (K : PySem.W.Frag) (F0 : Hp) (J : It) (ds : List D) : Prop where
  go : ∀ (B : Base) (i : Nat) (g : Gh) (t : TSt) (σ : L2.St) (H : Hp), i < ds.length → Same F0 g.F → Rel K B g t σ H → J.go i H
  yld : ∀ (B : Base) (i : Nat) (d : D) (g : Gh) (t : TSt) (σ : L2.St) (H : Hp) (x : V) (H' : Hp), ds[i]? = some d → Same F0 g.F → Rel K B g t σ H → J.yld i H x H' → ∃ g', Same g.F g'.F ∧ Rel K B g' t σ H' ∧ Rep K g'.F d x
  stop : ∀ (B : Base) (i : Nat) (g : Gh) (t : TSt) (σ : L2.St) (H : Hp), ds.length ≤ i → Same F0 g.F → Rel K B g t σ H → J.stop i H
abbrev WI := TX → TSt → (List D → TSt → Prop) → Prop
def iOf (K : PySem.W.Frag) (B : Base) (m : TSt → (List D → TSt → Prop) → Prop) : TI := fun σ H R => ∃ g t P, Rel K B g t σ H ∧ m t P ∧
  ∀ ds t', P ds t' → ∀ g' H' J, Same g.F g'.F → Rel K B g' t' σ H' → Follows K g'.F J ds → R J H'
def PIT (B : Base) (X : Cx) (tg iter : Expr) (w : WI) : Prop := ∀ W, L2N.Takes X (wxOf X.K B W) → PI X tg iter (iOf X.K B (w W))
theorem PI.imp {X : Cx} {tg e : Expr} {t t' : TI} (h : PI X tg e t) (i : ∀ σ H Q, t' σ H Q → t σ H Q) : PI X tg e t' := ⟨fun pins s σ H Q I q => h.run pins s σ H Q I (i σ H Q q)⟩
/-- the items of a list or tuple -/
def signs (x : Str) : List D := x.cps.toList.map fun c => .str ⟨#[c]⟩
def itD (k : List D → Prop) : D → Prop
  | .tup l => k l
  | .lst l => k l
  | .scr l => k l
  | .str x => k (signs x)
  | _ => False
def wItS (a : WE) : WI := fun W t Q => a W t fun r t1 => fz r fun d => itD (fun l => Q l t1) d
theorem Reps.get {K : PySem.W.Frag} {F : Hp} : ∀ {ds : List D} {vs : List V} {i : Nat} {d : D}, Reps K F ds vs → ds[i]? = some d → ∃ v, vs[i]? = some v ∧ Rep K F d v
  | _, _, _, _, .nil, e => by simp at e
  | _, _, 0, _, .cons r _, e => by simp at e; subst e; exact ⟨_, rfl, r⟩
  | _, _, i + 1, d, .cons _ t, e => by
    obtain ⟨u, h1, h2⟩ := Reps.get (i := i) (d := d) t (by simpa using e)
    exact ⟨u, by simpa using h1, h2⟩
section
variable {B : Base} {X : Cx} {tg e : Expr} {w : WE} {pos p : Pos}
theorem follows_list {K : PySem.W.Frag} {F0 : Hp} {a : Addr} {ds : List D} {vs : List V} (h : SqL K F0 a vs) (r : Reps K F0 ds vs) : Follows K F0 (Itl K a) ds where
  go := fun B i g t σ H hi s rl => by
    obtain ⟨v, hv, _⟩ := r.get (List.getElem?_eq_getElem hi)
    exact ⟨vs, v, SqL.up rl.sub (SqL.up s h), hv⟩
  yld := fun B i d g t σ H x H' hi s rl hy => by
    obtain ⟨rfl, hx⟩ := hy
    obtain ⟨v, hv, rv⟩ := r.get hi
    have := (hx vs (SqL.up rl.sub (SqL.up s h))).symm.trans hv
    cases this
    exact ⟨g, sRefl, rl, rv.up s⟩
  stop := fun B i g t σ H hi s rl => ⟨vs, SqL.up rl.sub (SqL.up s h), by rw [r.length]; exact hi⟩
theorem follows_tup {K : PySem.W.Frag} {F0 : Hp} {a : Addr} {ds : List D} {vs : List V} (h : SqT K F0 a vs) (r : Reps K F0 ds vs) : Follows K F0 (Itt K a) ds where
  go := fun B i g t σ H hi s rl => by
    obtain ⟨v, hv, _⟩ := r.get (List.getElem?_eq_getElem hi)
    exact ⟨vs, v, SqT.up rl.sub (SqT.up s h), hv⟩
  yld := fun B i d g t σ H x H' hi s rl hy => by
    obtain ⟨rfl, hx⟩ := hy
    obtain ⟨v, hv, rv⟩ := r.get hi
    have := (hx vs (SqT.up rl.sub (SqT.up s h))).symm.trans hv
    cases this
    exact ⟨g, sRefl, rl, rv.up s⟩
  stop := fun B i g t σ H hi s rl => ⟨vs, SqT.up rl.sub (SqT.up s h), by rw [r.length]; exact hi⟩
/-- the object at which a value stands, walked: a list, a tuple, a text -/
def iSeq (K : PySem.W.Frag) (te : TE) : TI := fun σ H R => te σ H fun x H1 => (∃ a xs, x = .ref a ∧ SqL K H1 a xs ∧ R (Itl K a) H1) ∨ (∃ a xs, x = .ref a ∧ SqT K H1 a xs ∧ R (Itt K a) H1) ∨ ∃ y, x = .str y ∧ R (Its y) H1
theorem fp_new {pins : List (Addr × Obj)} {σ : L2.St} {H : Hp} {s : Shared} (I : Inv X pins σ H s) : ∀ b ∈ [s.heap.objs.size], FpOk X pins H b := fun b hb => by
  rw [List.mem_singleton.mp hb]
  exact I.fpOk (Nat.le_refl _) (I.hok.fresh (Nat.le_refl _))
theorem pi_seq {te : TE} (h : PE X e te) : PI X tg e (iSeq X.K te) := by
  refine ⟨fun pins s σ H R I q => ?_⟩
  refine thn (h.run pins s σ H _ I q) ?_
  rintro v s1 ⟨x, H1, I1, r1, ⟨a, xs, rfl, hx, q1⟩ | ⟨a, xs, rfl, hx, q1⟩ | ⟨y, rfl, q1⟩⟩
  · cases r1
    obtain ⟨its, _, pl, _⟩ := I1.list hx
    exact wpAny_pyIter_list pl.isList ⟨_, _, _, _, H1, rfl, I1.kept (t' := s1.toks) fun b o z => Heap.get?_push_of_some _ z, turn_list a _, ⟨_, Heap.get?_push_size _ rfl, rfl, rfl⟩, fp_new I1, q1⟩
  · cases r1
    obtain ⟨its, _, pl, _⟩ := I1.tuple hx
    exact wpAny_pyIter_tuple (show s1.heap.IsTuple a its.toArray from pl) ⟨_, _, _, _, H1, rfl, I1.kept (t' := s1.toks) fun b o z => Heap.get?_push_of_some _ z, turn_tuple a _, ⟨_, Heap.get?_push_size _ rfl, rfl, rfl⟩, fp_new I1, q1⟩
  · obtain ⟨t, rfl⟩ := r1
    by_cases ha : y.cps.all (· < 128) = true
    · exact wpAny_pyIter_ascii ha (pi_one (tk := s1.toks) I1 _ (turn_str _ y t _ (.inl rfl)) ⟨_, Heap.get?_push_size _ rfl, rfl, rfl⟩ q1)
    · exact wpAny_pyIter_wide (by simpa using ha) (pi_one (tk := s1.toks) I1 _ (turn_str _ y t _ (.inr rfl)) ⟨_, Heap.get?_push_size _ rfl, rfl, rfl⟩ q1)
theorem follows_str {K : PySem.W.Frag} {F0 : Hp} {x : Str} : Follows K F0 (Its x) (signs x) where
  go := fun B i g t σ H hi s rl => by
    have h2 : i < x.cps.size := by simpa [signs] using hi
    exact h2
  yld := fun B i d g t σ H y H' hi s rl hy => by
    obtain ⟨rfl, c, hc, rfl⟩ := hy
    refine ⟨g, sRefl, rl, ?_⟩
    unfold signs at hi
    rw [List.getElem?_map, Array.getElem?_toList, hc] at hi
    cases hi
    exact .str _
  stop := fun B i g t σ H hi s rl => by
    have h2 : x.cps.size ≤ i := by simpa [signs] using hi
    exact h2
theorem IT_seq (h : PET B X e w) : PIT B X tg e (wItS w) := by
  refine fun W tk => PI.imp (pi_seq (h W tk)) fun σ H R q => ?_
  obtain ⟨g, t, P, rl, m, k⟩ := q
  refine ⟨g, t, _, rl, m, fun r1 t1 m1 g1 v1 H1 s1 rl1 rr1 => ?_⟩
  unfold fz at m1
  split at m1
  · rename_i dx hx
    obtain ⟨F2, s2, rl2, rp⟩ := rr1.freeze rl1 hx
    cases rp with
    | tup hs rs => exact .inr (.inl ⟨_, _, rfl, .inl (.inl (rl2.sub _ _ hs)), k _ _ m1 ⟨F2, g1.ow⟩ H1 _ (s1.trans s2) rl2 (follows_tup (.inl (.inl hs)) rs)⟩)
    | lst hs rs => exact .inl ⟨_, _, rfl, .inl (.inl (rl2.sub _ _ hs)), k _ _ m1 ⟨F2, g1.ow⟩ H1 _ (s1.trans s2) rl2 (follows_list (.inl (.inl hs)) rs)⟩
    | scr hs rs => exact .inl ⟨_, _, rfl, SqL.up rl2.sub hs, k _ _ m1 ⟨F2, g1.ow⟩ H1 _ (s1.trans s2) rl2 (follows_list hs rs)⟩
    | str x => exact .inr (.inr ⟨x, rfl, k _ _ m1 ⟨F2, g1.ow⟩ H1 _ (s1.trans s2) rl2 follows_str⟩)
    | non => exact m1.elim
    | bl _ => exact m1.elim
    | int _ => exact m1.elim
    | ty _ => exact m1.elim
    | ref _ => exact m1.elim
    | exc _ _ => exact m1.elim
    | cl _ => exact m1.elim
    | obj _ _ _ _ _ => exact m1.elim
    | dctK _ _ => exact m1.elim
    | dctT _ _ => exact m1.elim
  · exact m1.elim
end
def wNil : WA := fun _ t Q => Q [] t
def wCons (a : WE) (b : WA) : WA := fun W t Q => a W t fun r t1 => fz r fun d => b W t1 fun ds t2 => Q (d :: ds) t2
section
variable {B : Base} {X : Cx} {tg e : Expr} {es : List Expr} {w : WE} {wa : WA} {pos p : Pos}
theorem A_nil : PAT B X [] wNil := fun W tk => PA.imp pa_nil fun σ H Q q => by
  obtain ⟨g, t, P, rl, m, k⟩ := q
  exact k _ _ m g [] H sRefl rl .nil
theorem A_cons (h : PET B X e w) (h2 : PAT B X es wa) (hs : starEach (e :: es) X.env = (false, eval e X.env) :: starEach es X.env := by rfl) : PAT B X (e :: es) (wCons w wa) := fun W tk => PA.imp (pa_cons (h W tk) (h2 W tk) hs) fun σ H Q q => by
  obtain ⟨g, t, P, rl, m, k⟩ := q
  refine ⟨g, t, _, rl, m, fun r1 t1 m1 g1 v1 H1 s1 rl1 rr1 => ?_⟩
  unfold fz at m1
  split at m1
  · rename_i dx hx
    obtain ⟨F2, s2, rl2, rp⟩ := rr1.freeze rl1 hx
    refine ⟨⟨F2, g1.ow⟩, t1, _, rl2, m1, fun ds t3 m3 g3 vs H3 s3 rl3 rs3 => ?_⟩
    exact k _ _ m3 g3 _ H3 ((s1.trans s2).trans s3) rl3 (.cons (rp.up s3) rs3)
  · exact m1.elim
theorem Reps.one {K : PySem.W.Frag} {F : Hp} {d : D} {vs : List V} (h : Reps K F [d] vs) : ∃ v, vs = [v] ∧ Rep K F d v := by
  cases h with
  | cons a b => cases b; exact ⟨_, rfl, a⟩
theorem Reps.two {K : PySem.W.Frag} {F : Hp} {d e : D} {vs : List V} (h : Reps K F [d, e] vs) : ∃ v u, vs = [v, u] ∧ Rep K F d v ∧ Rep K F e u := by
  cases h with
  | cons a b => obtain ⟨u, rfl, r⟩ := b.one; exact ⟨_, _, rfl, a, r⟩
theorem Reps.three {K : PySem.W.Frag} {F : Hp} {d e f : D} {vs : List V} (h : Reps K F [d, e, f] vs) : ∃ v u w, vs = [v, u, w] ∧ Rep K F d v ∧ Rep K F e u ∧ Rep K F f w := by
  cases h with
  | cons a b => obtain ⟨u, w, rfl, r⟩ := b.two; exact ⟨_, _, _, rfl, a, r⟩
end
def small (i : Int) : Prop := -(2 ^ 62) ≤ i ∧ i < 2 ^ 62
def rangeD (lo c : Int) (n : Nat) : List D := (List.range n).map fun (i : Nat) => D.int (lo + (i : Int) * c)
theorem rangeD_len (lo c : Int) (n : Nat) : (rangeD lo c n).length = n := by simp [rangeD]
theorem rangeD_get {lo c : Int} {n i : Nat} {d : D} (h : (rangeD lo c n)[i]? = some d) : i < n ∧ d = .int (lo + (i : Int) * c) := by
  unfold rangeD at h
  rw [List.getElem?_map] at h
  cases q : (List.range n)[i]? with
  | none => rw [q] at h; cases h
  | some j =>
    rw [q] at h
    obtain ⟨h1, h2⟩ := List.getElem?_eq_some_iff.mp q
    rw [List.getElem_range] at h2
    rw [List.length_range] at h1
    subst h2
    exact ⟨h1, (Option.some.inj h).symm⟩
def wR1 (a : WA) : WI := fun W t Q => a W t fun ds t1 => match ds with
  | [.int j] => small j ∧ Q (rangeD 0 1 j.toNat) t1
  | _ => False
def wR2 (a : WA) : WI := fun W t Q => a W t fun ds t1 => match ds with
  | [.int i, .int j] => small i ∧ small j ∧ Q (rangeD i 1 (j - i).toNat) t1
  | _ => False
/-- a step below 0 or above, written -/
def wR3 (a : WA) : WI := fun W t Q => a W t fun ds t1 => match ds with
  | [.int i, .int j, .int c] => ∃ n, RgC i j c n ∧ Q (rangeD i c n) t1
  | _ => False
section
variable {B : Base} {X : Cx} {tg a b c : Expr} {wa : WA} {pos p : Pos}
theorem follows_rng {K : PySem.W.Frag} {F0 : Hp} {lo : Int} {n : Nat} : Follows K F0 (Itr lo n) (rangeD lo 1 n) where
  go := fun B i g t σ H hi s rl => by
    have h2 : i < n := by rw [rangeD_len] at hi; exact hi
    exact h2
  yld := fun B i d g t σ H y H' hi s rl hy => by
    obtain ⟨rfl, rfl⟩ := hy
    obtain ⟨h1, rfl⟩ := rangeD_get hi
    refine ⟨g, sRefl, rl, ?_⟩
    rw [Int.mul_one]
    exact .int _
  stop := fun B i g t σ H hi s rl => by
    have h2 : n ≤ i := by rw [rangeD_len] at hi; exact hi
    exact h2
theorem follows_rngC {K : PySem.W.Frag} {F0 : Hp} {lo c : Int} {n : Nat} : Follows K F0 (Itc lo c n) (rangeD lo c n) where
  go := fun B i g t σ H hi s rl => by
    have h2 : i < n := by rw [rangeD_len] at hi; exact hi
    exact h2
  yld := fun B i d g t σ H y H' hi s rl hy => by
    obtain ⟨rfl, rfl⟩ := hy
    obtain ⟨h1, rfl⟩ := rangeD_get hi
    exact ⟨g, sRefl, rl, .int _⟩
  stop := fun B i g t σ H hi s rl => by
    have h2 : n ≤ i := by rw [rangeD_len] at hi; exact hi
    exact h2
theorem IT_r1 (hm : X.mg "range" = none) (h : PAT B X [a] wa) (hg : Gl X "range" := by rfl) (hs : starEach [a] X.env = [(false, eval a X.env)] := by rfl) : PIT B X tg (.Call (.Name "range" p) [a] [] pos) (wR1 wa) := by
  refine fun W tk => PI.imp (pi_range1 hg hm (h W tk) hs) fun σ H R q => ?_
  obtain ⟨g, t, P, rl, m, k⟩ := q
  refine ⟨g, t, _, rl, m, fun ds t1 m1 g1 vs H1 s1 rl1 rs1 => ?_⟩
  split at m1
  · rename_i j
    obtain ⟨v, rfl, r⟩ := rs1.one
    cases r
    exact ⟨j, rfl, m1.1.1, m1.1.2, k _ _ m1.2 g1 H1 _ s1 rl1 follows_rng⟩
  · exact m1.elim
theorem IT_r2 (hm : X.mg "range" = none) (h : PAT B X [a, b] wa) (hg : Gl X "range" := by rfl) (hs : starEach [a, b] X.env = [(false, eval a X.env), (false, eval b X.env)] := by rfl) (hs2 : starEach [b] X.env = [(false, eval b X.env)] := by rfl) : PIT B X tg (.Call (.Name "range" p) [a, b] [] pos) (wR2 wa) := by
  refine fun W tk => PI.imp (pi_range2 hg hm (h W tk) hs hs2) fun σ H R q => ?_
  obtain ⟨g, t, P, rl, m, k⟩ := q
  refine ⟨g, t, _, rl, m, fun ds t1 m1 g1 vs H1 s1 rl1 rs1 => ?_⟩
  split at m1
  · rename_i i j
    obtain ⟨v, u, rfl, r, r'⟩ := rs1.two
    cases r
    cases r'
    exact ⟨i, j, rfl, ⟨m1.1.1, m1.1.2, m1.2.1.1, m1.2.1.2⟩, k _ _ m1.2.2 g1 H1 _ s1 rl1 follows_rng⟩
  · exact m1.elim
theorem IT_r3 (hm : X.mg "range" = none) (h : PAT B X [a, b, c] wa) (hg : Gl X "range" := by rfl) (hs : starEach [a, b, c] X.env = (false, eval a X.env) :: starEach [b, c] X.env := by rfl) (hpl : (backTo pos (starEach [b, c] X.env)).any (·.1) = false := by rfl) : PIT B X tg (.Call (.Name "range" p) [a, b, c] [] pos) (wR3 wa) := by
  refine fun W tk => PI.imp (pi_range3 hg hm (h W tk) hs hpl) fun σ H R q => ?_
  obtain ⟨g, t, P, rl, m, k⟩ := q
  refine ⟨g, t, _, rl, m, fun ds t1 m1 g1 vs H1 s1 rl1 rs1 => ?_⟩
  split at m1
  · rename_i i j c
    obtain ⟨v, u, w, rfl, r, r', r''⟩ := rs1.three
    cases r
    cases r'
    cases r''
    obtain ⟨n, h1, h2⟩ := m1
    exact ⟨i, j, c, n, rfl, h1, k _ _ h2 g1 H1 _ s1 rl1 follows_rngC⟩
  · exact m1.elim
end
end TL
namespace TL
open PySem PySem.Spec PyProof.Rows L2
def gN (i : Nat) : WG := fun d t k => stR i (.v d) t k
abbrev WGs := List D → TSt → (TSt → Prop) → Prop
def gsNil : WGs := fun ds t k => match ds with
  | [] => k t
  | _ => False
def gsCons (a : WG) (b : WGs) : WGs := fun ds t k => match ds with
  | d :: r => a d t fun t1 => b r t1 k
  | _ => False
def gT (n : Nat) (a : WGs) : WG := fun d t k => match d with
  | .tup l => l.length = n ∧ a l t k
  | _ => False
section
variable {B : Base} {X : Cx} {tg e : Expr} {es : List Expr} {gs hs : List Nat} {w : WE} {a : WG} {b : WGs} {pos p : Pos}
theorem takes_noX {K : PySem.W.Frag} : L2N.Takes X (wxOf K B noX) := fun u s' ⟨_, _, _, _, _, _, _, _, _, _, _, _, _, _, _, _, h⟩ => by
  obtain ⟨_, _, _, _, _, _, _, z⟩ := h
  exact z.elim
theorem G_name (i : Nat) {x : Str} (hN : X.N.Nodup) (hi : X.N[i]? = some x := by rfl) (hx : Loc X.env.scope x := by first | exact Or.inl rfl | exact Or.inr rfl) (hf : X.fn x = true ∨ X.env.scope.names.lookup x = some .local := by first | exact .inl rfl | exact .inr rfl) :
    PGT B X (.Name x pos) [i] (gN i) := PG.imp (pg_name hN hi hx hf) fun v σ H Q q => by
  obtain ⟨g, t, d, P, rl, rp, m, k⟩ := q
  obtain ⟨ow', t', m2, rl2⟩ := rl.set (r := .v d) rp m
  exact k _ m2 ⟨g.F, ow'⟩ _ H (.set List.mem_cons_self) sRefl rl2
theorem G_nil : PGsT B X [] [] gsNil := PGs.imp pgs_nil fun v σ H Q q => by
  obtain ⟨g, t, d, P, rl, rp, m, k⟩ := q
  unfold gsNil at m
  split at m
  · cases rp
    exact ⟨rfl, k _ m g σ H (.refl _ _) sRefl rl⟩
  · exact m.elim
theorem G_cons (h1 : PGT B X e gs a) (h2 : PGsT B X es hs b) (he : (assignEach (e :: es) X.env).map (·.2) = assign e X.env :: (assignEach es X.env).map (·.2) := by rfl) : PGsT B X (e :: es) (gs ++ hs) (gsCons a b) := PGs.imp (pgs_cons h1 h2 he) fun v σ H Q q => by
  obtain ⟨g, t, d, P, rl, rp, m, k⟩ := q
  unfold gsCons at m
  split at m
  · rename_i d1 dr
    cases rp with
    | cons r1 rr =>
      refine ⟨_, _, rfl, g, t, d1, _, rl, r1, m, fun t1 m1 g1 σ1 H1 a1 s1 rl1 => ?_⟩
      exact ⟨g1, t1, dr, P, rl1, rr.up s1, m1, fun t2 m2 g2 σ2 H2 a2 s2 rl2 => k t2 m2 g2 σ2 H2 (a1.trans a2) (s1.trans s2) rl2⟩
  · exact m.elim
theorem G_tup {k n : Nat} (h : PGsT B X es gs b) (hc : X.calm = true := by rfl) (hn : (assignEach es X.env).length = n := by rfl) (hst : (assignEach es X.env).findIdx? (·.1) = none := by rfl) : PGT B X (.Tuple es k pos) gs (gT n b) := PG.imp (pg_tup hc h hn hst) fun v σ H Q q => by
  obtain ⟨g, t, d, P, rl, rp, m, k⟩ := q
  unfold gT at m
  split at m
  · cases rp with
    | tup hs rs => exact ⟨_, _, rfl, .inl (.inl (rl.sub _ _ hs)), by rw [rs.length]; exact m.1, g, t, _, P, rl, rs, m.2, k⟩
  · exact m.elim
/-- a, b = e -/
def wAsg (a : WE) (g : WG) : WS := fun W t D => a W t fun r t1 => fz r fun d => g d t1 D.nx
theorem S_asg (h : PET B X e w) (hg : PGT B X tg gs a) (hs : swapsWithSole [tg] e pos.line X.env = pure false := by rfl) (hw : swappedStores [tg] e X.env = pure none := by rfl)
    (h1 : (assignEach [tg] X.env).map (·.2) = [assign tg X.env] := by rfl) : PST B X (.Assign [tg] e pos) (wAsg w a) := fun W tk => PS.imp (ps_asg (h W tk) hg hs hw h1) fun D σ H q => by
  obtain ⟨g, t, P, rl, m, k, _⟩ := q
  refine ⟨g, t, _, rl, m, fun r1 t1 m1 g1 v1 H1 s1 rl1 rr1 => ?_⟩
  unfold fz at m1
  split at m1
  · rename_i dx hx
    obtain ⟨F2, s2, rl2, rp⟩ := rr1.freeze rl1 hx
    exact ⟨⟨F2, g1.ow⟩, t1, dx, _, rl2, rp, m1, fun t3 m3 g3 σ3 H3 _ s3 rl3 => k t3 m3 g3 σ3 H3 ((s1.trans s2).trans s3) rl3⟩
  · exact m1.elim
end
section
variable {B : Base} {X : Cx}
/-- a, b = x, y (two different local names) -/
def wPar (i j : Nat) (a : WA) : WS := fun W t D => a W t fun ds t1 => match ds with
  | [d, e] => stR i (.v d) t1 fun t2 => stR j (.v e) t2 D.nx
  | _ => False
theorem S_par (i j : Nat) {x y : Str} {a b : Expr} {wa : WA} {px py pt pos : Pos} {kt k2 : Nat} {pt2 : Pos} (hN : X.N.Nodup) (ha : PAT B X [a, b] wa) (hi : X.N[i]? = some x := by rfl) (hj : X.N[j]? = some y := by rfl) (hij : i ≠ j := by decide)
    (hx : X.env.scope.names.lookup x = some .local := by rfl) (hy : X.env.scope.names.lookup y = some .local := by rfl) (hc : X.calm = true := by rfl)
    (hw : swappedStores [.Tuple [.Name x px, .Name y py] kt pt] (.Tuple [a, b] k2 pt2) X.env = pure (some [x, y]) := by rfl)
    (hs : swapsWithSole [.Tuple [.Name x px, .Name y py] kt pt] (.Tuple [a, b] k2 pt2) pos.line X.env = pure false := by rfl) :
    PST B X (.Assign [.Tuple [.Name x px, .Name y py] kt pt] (.Tuple [a, b] k2 pt2) pos) (wPar i j wa) := fun W tk => PS.imp (ps_par hc hN hi hj hij hx hy (ha W tk) hw hs) fun D σ H q => by
  obtain ⟨g, t, P, rl, m, k, _⟩ := q
  refine ⟨g, t, _, rl, m, fun ds t1 m1 g1 vs H1 s1 rl1 rs1 => ?_⟩
  split at m1
  · obtain ⟨v, u, rfl, r, r'⟩ := rs1.two
    obtain ⟨ow1, t2, m2, rl2⟩ := rl1.set (r := .v _) r m1
    obtain ⟨ow2, t3, m3, rl3⟩ := rl2.set (r := .v _) (show Rep _ _ _ _ from r') m2
    exact ⟨v, u, rfl, k _ m3 ⟨g1.F, ow2⟩ _ H1 s1 rl3⟩
  · exact m1.elim
end
def wWhile (c : WT) (b : WS) : WS := fun W t D => ∃ I : Nat → TSt → Prop, (∃ m, I m t) ∧ ∀ m t, I m t → c W t fun k t1 =>
  if k = true then b W t1 ⟨fun t2 => ∃ m', m' < m ∧ I m' t2, D.rt, D.nx, fun t2 => ∃ m', m' < m ∧ I m' t2⟩ else D.nx t1
section
variable {B : Base} {X : Cx} {c : Expr} {body : List Stmt} {wc : WT} {wb : WS} {pos : Pos}
theorem S_while (hc : PTT B X c wc) (hb : PSsT B X body wb) (hp : PassesOwn (model X.prog X.w) X.A X.env X.xe := by first | exact PassesOwn.never | exact passes_of rfl) : PST B X (.While c body [] pos) (wWhile wc wb) := fun W tk => PS.imp (ps_while hp (hc W tk) (hb W tk)) fun D σ H q => by
  obtain ⟨g0, t0, P, rl0, ⟨I, ⟨m0, i0⟩, turn⟩, k1, k2, k3, k4⟩ := q
  refine ⟨fun m σ H => ∃ g t, Same g0.F g.F ∧ Rel X.K B g t σ H ∧ I m t, ⟨m0, g0, t0, sRefl, rl0, i0⟩, fun m σ H w => ?_⟩
  obtain ⟨g, t, s, rl, i⟩ := w
  refine ⟨g, t, _, rl, turn m t i, fun b t1 m1 g1 H1 s1 rl1 => ?_⟩
  cases b with
  | false => exact iteF (k1 _ (show P.nx t1 from m1) g1 _ H1 (s.trans s1) rl1)
  | true =>
    refine iteT ⟨fun σ' H' => ∃ m', m' < m ∧ ∃ g t, Same g0.F g.F ∧ Rel X.K B g t σ' H' ∧ I m' t, fun σ' H' h => h, g1, t1, _, rl1, m1, fun t2 m2 g2 σ2 H2 s2 rl2 => ?_, fun r t2 m2 g2 σ2 v2 H2 s2 rl2 rr2 => ?_, fun t2 m2 g2 σ2 H2 s2 rl2 => ?_, fun t2 m2 g2 σ2 H2 s2 rl2 => ?_⟩
    · obtain ⟨m', h1, h2⟩ := m2
      exact ⟨m', h1, g2, t2, (s.trans s1).trans s2, rl2, h2⟩
    · exact k2 _ _ m2 g2 σ2 v2 H2 ((s.trans s1).trans s2) rl2 rr2
    · exact k1 _ m2 g2 σ2 H2 ((s.trans s1).trans s2) rl2
    · obtain ⟨m', h1, h2⟩ := m2
      exact ⟨m', h1, g2, t2, (s.trans s1).trans s2, rl2, h2⟩
end
def forL (g : WG) (b : WS) (W : TX) : List D → TSt → TD → Prop
  | [], t, D => D.nx t
  | d :: ds, t, D => g d t fun t1 => b W t1 ⟨fun t2 => forL g b W ds t2 D, D.rt, D.nx, fun t2 => forL g b W ds t2 D⟩
def wFor (i : WI) (g : WG) (b : WS) : WS := fun W t D => i W t fun ds t1 => forL g b W ds t1 D
section
variable {B : Base} {X : Cx} {tg iter : Expr} {body : List Stmt} {gs : List Nat} {wi : WI} {wg : WG} {wb : WS} {pos : Pos}
theorem S_for (hi : PIT B X tg iter wi) (hg : PGT B X tg gs wg) (hb : PSsT B X body wb) (hp : PassesOwn (model X.prog X.w) X.A X.env X.xe := by first | exact PassesOwn.never | exact passes_of rfl) (hc : X.calm = true := by rfl)
    (hs : ∀ x, foldedSetIterable iter X.env x = pure x := by intro _; rfl) : PST B X (.For tg iter body [] pos) (wFor wi wg wb) := fun W tk => PS.imp (ps_for hp hc (hi W tk) hg (hb W tk) hs) fun D σ H q => by
  obtain ⟨g0, t0, P, rl0, m0, k1, k2, k3, k4⟩ := q
  refine ⟨g0, t0, _, rl0, m0, fun ds t1 m1 g1 H1 J s1 rl1 fl => ?_⟩
  refine ⟨fun i m σ H => i + m = ds.length ∧ ∃ g t, Same g1.F g.F ∧ Rel X.K B g t σ H ∧ forL wg wb W (ds.drop i) t P, ⟨ds.length, by omega, g1, t1, sRefl, rl1, m1⟩, fun i m σ H w => ?_⟩
  obtain ⟨em, g, t, s, rl, f⟩ := w
  by_cases hlt : i < ds.length
  · rw [List.drop_eq_getElem_cons hlt] at f
    refine .inr ⟨fl.go _ i g t σ H hlt s rl, fun σ' H' => ∃ g t, Same g1.F g.F ∧ Rel X.K B g t σ' H' ∧ forL wg wb W (ds.drop (i + 1)) t P, fun σ' H' h => ⟨m - 1, by omega, by omega, h⟩, fun x H' hy => ?_⟩
    obtain ⟨g2, s2, rl2, rp⟩ := fl.yld _ i ds[i] g t σ H x H' (List.getElem?_eq_getElem hlt) s rl hy
    refine ⟨g2, t, ds[i], _, rl2, rp, f, fun t3 m3 g3 σ3 H3 _ s3 rl3 => ?_⟩
    have ss : Same g1.F g3.F := (s.trans s2).trans s3
    refine ⟨g3, t3, _, rl3, m3, fun t4 m4 g4 σ4 H4 s4 rl4 => ⟨g4, t4, ss.trans s4, rl4, m4⟩, fun r t4 m4 g4 σ4 v4 H4 s4 rl4 rr4 => ?_, fun t4 m4 g4 σ4 H4 s4 rl4 => ?_, fun t4 m4 g4 σ4 H4 s4 rl4 => ⟨g4, t4, ss.trans s4, rl4, m4⟩⟩
    · exact k2 _ _ m4 g4 σ4 v4 H4 ((s1.trans ss).trans s4) rl4 rr4
    · exact k1 _ m4 g4 σ4 H4 ((s1.trans ss).trans s4) rl4
  · rw [List.drop_eq_nil_of_le (by omega)] at f
    exact .inl ⟨fl.stop _ i g t σ H (by omega) s rl, k1 _ f g σ H (s1.trans s) rl⟩
end
def wipeT (t : TSt) : List Nat → TSt
  | [] => t
  | v :: vs => (wipeT t vs).set v .un
def wYes : WT := fun _ t Q => Q true t
def lcL (g : WG) (c : WT) (e : WE) (vs : List Nat) : List D → List D → TSt → (List D → TSt → Prop) → Prop
  | [], acc, t, Q => Q acc t
  | d :: ds, acc, t, Q => g d t fun t1 => c noX t1 fun k t2 => if k = true then e noX t2 fun r t3 => fz r fun y => acc.length < sizeLine ∧ lcL g c e vs ds (acc ++ [y]) (wipeT t3 vs) Q else lcL g c e vs ds acc (wipeT t2 vs) Q
def wLc (i : WI) (g : WG) (c : WT) (e : WE) (vs : List Nat) : WE := fun W t Q => i W t fun ds t1 => lcL g c e vs ds [] (wipeT t1 vs) fun acc t2 => Q (.own (.lst acc)) t2
theorem wipeT_len (t : TSt) : ∀ vs : List Nat, (wipeT t vs).length = t.length
  | [] => rfl
  | v :: vs => by show ((wipeT t vs).set v .un).length = _; rw [List.length_set, wipeT_len t vs]
theorem wipeT_get {t : TSt} {i : Nat} {s : Slot} : ∀ {vs : List Nat}, (wipeT t vs)[i]? = some s → s = .un ∨ (i ∉ vs ∧ t[i]? = some s)
  | [], h => .inr ⟨by simp, h⟩
  | v :: vs, h => by
    rcases getElem?_set_cases (show ((wipeT t vs).set v .un)[i]? = some s from h) with ⟨rfl, rfl, _⟩ | ⟨ne, h⟩
    · exact .inl rfl
    · rcases wipeT_get h with z | ⟨z1, z2⟩
      · exact .inl z
      · exact .inr ⟨by simp [ne, z1], z2⟩
/-- the block's own names forgotten, both ways -/
theorem Rel.wiped {K : PySem.W.Frag} {B : Base} {g : Gh} {t : TSt} {σ σ' : L2.St} {H : Hp} {vs : List Nat} (rl : Rel K B g t σ H) (e : ∀ i, i ∉ vs → σ'[i]? = σ[i]?) (hl : σ'.length = σ.length) : Rel K B g (wipeT t vs) σ' H := by
  refine ⟨rl.base, rl.sub, rl.ff, rl.old, rl.ft, rl.dm, rl.there, by rw [wipeT_len, hl]; exact rl.len, fun i s h => ?_⟩
  rcases wipeT_get h with rfl | ⟨h1, h2⟩
  · trivial
  · rw [e i h1]; exact rl.slot i s h2
theorem Reps.append {K : PySem.W.Frag} {F : Hp} : ∀ {ds es : List D} {vs us : List V}, Reps K F ds vs → Reps K F es us → Reps K F (ds ++ es) (vs ++ us)
  | _, _, _, _, .nil, h => h
  | _, _, _, _, .cons a b, h => .cons a (Reps.append b h)
/-- an object of nobody's is written -/
theorem Rel.writeO {K : PySem.W.Frag} {B : Base} {g : Gh} {t : TSt} {σ : L2.St} {H : Hp} {p : Addr} {o u : HO} (rl : Rel K B g t σ H) (h : H p = some o) (h1 : g.ow p = none) (h2 : g.F p = none) (h3 : B.H p = none) (nt : ∀ xs, u ≠ .tup xs := by intro xs h; cases h) : Rel K B g t σ (upd H p u) := by
  have np : ∀ b i, g.ow b = some i → b ≠ p := fun b i e z => by rw [z, h1] at e; cases e
  refine ⟨rl.base, fun b w e => ?_, rl.ff, fun b w e n => ?_, rl.ft, ⟨fun b e => ?_, fun b xs e => ?_⟩, fun b i e => ?_, rl.len, fun i s e => ?_⟩
  · rw [upd_ne (ne_of_none e h2)]; exact rl.sub _ _ e
  · obtain ⟨z1, z2, z3⟩ := rl.old b w e n
    exact ⟨by rw [upd_ne (ne_of_none e h3)]; exact z1, z2, z3⟩
  · by_cases hb : b = p
    · subst hb; exact h3
    · rw [upd_ne hb] at e; exact rl.dom b e
  · by_cases hb : b = p
    · subst hb; rw [upd_same] at e; exact absurd (Option.some.inj e) (nt xs)
    · rw [upd_ne hb] at e; exact rl.tf _ _ e
  · obtain ⟨w, hw⟩ := rl.there b i e
    exact ⟨w, by rw [upd_ne (np b i e)]; exact hw⟩
  · exact (rl.slot i s e).up sRefl fun b q => ⟨q, upd_ne (np b i q)⟩
/-- one object more that stood at the entry -/
def Base.add (B : Base) (p : Addr) (o : HO) : Base := { B with H := upd B.H p o }
section
variable {K : PySem.W.Frag} {B : Base} {g : Gh} {t : TSt} {σ : L2.St} {H : Hp} {p : Addr} {o : HO}
theorem Rel.addB (rl : Rel K B g t σ H) (h : H p = some o) (h1 : g.ow p = none) (h2 : g.F p = none) (h3 : B.H p = none) : Rel K (B.add p o) g t σ H := by
  have nf : p ∉ B.foot := fun z => by obtain ⟨u, hu⟩ := rl.ft p z; rw [h3] at hu; cases hu
  refine ⟨rl.base, rl.sub, rl.ff, fun b u e n => ?_, fun b hb => ?_, ⟨fun b e => ?_, rl.tf⟩, rl.there, rl.len, fun i s e => ?_⟩
  · have e' : upd B.H p o b = some u := e
    by_cases hb : b = p
    · subst hb; rw [upd_same] at e'; rw [← e']; exact ⟨h, h1, fun _ => h2⟩
    · rw [upd_ne hb] at e'; exact rl.old b u e' n
  · obtain ⟨u, hu⟩ := rl.ft b hb
    exact ⟨u, by show upd B.H p o b = some u; rw [upd_ne (ne_of_none hu h3)]; exact hu⟩
  · show upd B.H p o b = none
    by_cases hb : b = p
    · subst hb; rw [h] at e; cases e
    · rw [upd_ne hb]; exact rl.dom b e
  · have := rl.slot i s e
    cases s <;> exact this
theorem Rel.subB (rl : Rel K (B.add p o) g t σ H) (h3 : B.H p = none) (hf : p ∉ B.foot) (hF : B.F p = none) (ft : ∀ b ∈ B.foot, ∃ o, B.H b = some o) : Rel K B g t σ H ∧ H p = some o ∧ g.ow p = none ∧ g.F p = none := by
  have hp := rl.old p o (show upd B.H p o p = some o from upd_same) hf
  have up : ∀ b u, B.H b = some u → upd B.H p o b = some u := fun b u e => by rw [upd_ne (ne_of_none e h3)]; exact e
  refine ⟨⟨rl.base, rl.sub, rl.ff, fun b u e n => rl.old b u (up b u e) n, ft, ⟨fun b e => ?_, rl.tf⟩, rl.there, rl.len, fun i s e => ?_⟩, hp.1, hp.2.1, hp.2.2 hF⟩
  · have e' : upd B.H p o b = none := rl.dom b e
    by_cases hb : b = p
    · subst hb; exact h3
    · rw [upd_ne hb] at e'; exact e'
  · have := rl.slot i s e
    cases s <;> exact this
end
theorem wipe_ag {gs vs : List Nat} {σ σ' : L2.St} (h : ∀ i, i ∈ gs → i ∈ vs) (a : Ag gs (wipe σ vs) σ') : wipe σ' vs = wipe σ vs := by
  apply List.ext_getElem?
  intro i
  by_cases hi : i ∈ vs
  · have z : ∀ (τ : L2.St) (us : List Nat), i ∈ us → i < τ.length → (wipe τ us)[i]? = some none := by
      intro τ us
      induction us with
      | nil => intro q; cases q
      | cons v us ih =>
        intro q hl
        show ((wipe τ us).set v none)[i]? = some none
        by_cases e : i = v
        · subst e; exact List.getElem?_set_self (by rw [wipe_length]; exact hl)
        · rw [List.getElem?_set_ne (Ne.symm e)]; exact ih ((List.mem_cons.mp q).resolve_left e) hl
    have hl : σ'.length = σ.length := by rw [a.1, wipe_length]
    by_cases hb : i < σ.length
    · rw [z σ vs hi hb, z σ' vs hi (by rw [hl]; exact hb)]
    · rw [List.getElem?_eq_none (by rw [wipe_length]; omega), List.getElem?_eq_none (by rw [wipe_length]; omega)]
  · rw [wipe_out hi, a.2 i fun q => hi (h i q)]
section
variable {B : Base} {X : Cx} {tg iter elt c : Expr} {gs : List Nat} {wi : WI} {wg : WG} {wc : WT} {we : WE} {scope : Scope} {own : List (Str × Nat)} {pos : Pos}
theorem wiped_un {t : TSt} {vs : List Nat} : ∀ j s, j ∈ vs → (wipeT t vs)[j]? = some s → s = .un := fun j s hj h => (wipeT_get h).elim id fun z => absurd hj z.1
/-- what a block asks, each turn over the ground with the new list in it -/
def tLcT (K : PySem.W.Frag) (wi : TI) (gs : List Nat) (wg : WG) (wc : WT) (we : WE) (vs : List Nat) : TE := fun σ H Q =>
  tLc wi (fun v σ H Q => ∃ B', gOf K B' gs wg v σ H Q) (fun σ H Q => ∃ B', ttOf K B' (wc noX) σ H Q) (fun σ H Q => ∃ B', tOf K B' (we noX) σ H Q) vs σ H Q
theorem lc_of {W : TX} {σ : L2.St} {H : Hp} {Q : VK} {vs : List Nat} (hgs : ∀ i, i ∈ gs → i ∈ vs) (q : tOf X.K B (wLc wi wg wc we vs W) σ H Q) : tLcT X.K (iOf X.K B (wi W)) gs wg wc we vs σ H Q := by
  obtain ⟨g0, t0, P, rl0, m0, k⟩ := q
  refine ⟨g0, t0, _, rl0, m0, fun ds t1 m1 g1 H1 J s1 rl1 fl D hD => ?_⟩
  have wl : ∀ σ : L2.St, (wipe σ vs).length = σ.length := fun σ => wipe_length σ vs
  obtain ⟨rlD, oD, fD, bD⟩ := rl1.newO (o := .lst []) hD
  have nfD : D ∉ B.foot := fun z => by obtain ⟨u, hu⟩ := rl1.ft D z; rw [bD] at hu; cases hu
  have bFD : B.F D = none := by
    cases q : B.F D with
    | none => rfl
    | some u => have := rl1.base _ _ q; rw [fD] at this; cases this
  refine ⟨fun i m H => i + m = ds.length ∧ ∃ g t acc vs', Same g1.F g.F ∧ Rel X.K B g t (wipe σ vs) H ∧ H D = some (.lst vs') ∧ Reps X.K g.F acc vs' ∧ g.ow D = none ∧ g.F D = none ∧ lcL wg wc we vs (ds.drop i) acc t (fun acc t2 => P (.own (.lst acc)) t2) ∧ ∀ j s, j ∈ vs → t[j]? = some s → s = .un,
    ⟨ds.length, by omega, g1, wipeT t1 vs, [], [], sRefl, rlD.wiped (fun i hi => wipe_out hi) (wl σ), upd_same, .nil, oD, fD, m1, wiped_un⟩, fun i m H w => ?_⟩
  obtain ⟨em, g, t, acc, vs', s, rl, eD, ra, oD, fD, f, un⟩ := w
  by_cases hlt : i < ds.length
  · rw [List.drop_eq_getElem_cons hlt] at f
    refine .inr ⟨fl.go _ i g t _ H hlt s rl, fun H' => ∃ g t acc vs', Same g1.F g.F ∧ Rel X.K B g t (wipe σ vs) H' ∧ H' D = some (.lst vs') ∧ Reps X.K g.F acc vs' ∧ g.ow D = none ∧ g.F D = none ∧ lcL wg wc we vs (ds.drop (i + 1)) acc t (fun acc t2 => P (.own (.lst acc)) t2) ∧ ∀ j s, j ∈ vs → t[j]? = some s → s = .un, fun H' h => ⟨m - 1, by omega, by omega, h⟩, fun x H' hy => ?_⟩
    have rB := rl.addB eD oD fD bD
    obtain ⟨g2, s2, rl2, rp⟩ := fl.yld _ i ds[i] g t _ H x H' (List.getElem?_eq_getElem hlt) s rB hy
    refine ⟨B.add D (.lst vs'), g2, t, ds[i], _, rl2, rp, f, fun t3 m3 g3 σ3 H3 a3 s3 rl3 => ?_⟩
    have ew := wipe_ag hgs a3
    refine ⟨ew, B.add D (.lst vs'), g3, t3, _, rl3, m3, fun b t4 m4 g4 H4 s4 rl4 => ?_⟩
    have ss : Same g.F g4.F := (s2.trans s3).trans s4
    cases b with
    | false =>
      refine iteF ?_
      obtain ⟨rl5, e5, o5, f5⟩ := rl4.subB bD nfD bFD rl1.ft
      refine ⟨g4, wipeT t4 vs, acc, vs', s.trans ss, ?_, e5, ra.up ss, o5, f5, m4, wiped_un⟩
      exact rl5.wiped (fun i hi => by rw [← ew, wipe_out hi]) (by rw [← ew, wl])
    | true =>
      refine iteT ⟨B.add D (.lst vs'), g4, t4, _, rl4, (show we noX t4 _ from m4), fun r t5 m5 g5 v5 H5 s5 rl5 rr5 => ?_⟩
      unfold fz at m5
      split at m5
      · rename_i y hy
        obtain ⟨F6, s6, rl6, rp6⟩ := rr5.freeze rl5 hy
        obtain ⟨rl7, e7, o7, f7⟩ := rl6.subB bD nfD bFD rl1.ft
        have s8 := (ss.trans s5).trans s6
        refine ⟨vs', e7, by rw [ra.length]; exact m5.1, ⟨F6, g5.ow⟩, wipeT t5 vs, acc ++ [y], vs' ++ [v5], s.trans s8, ?_, upd_same, ?_, o7, f7, m5.2, wiped_un⟩
        · exact (rl7.wiped (fun i hi => by rw [← ew, wipe_out hi]) (by rw [← ew, wl])).writeO e7 o7 f7 bD
        · exact ((ra.up s8)).append (.cons rp6 .nil)
      · exact m5.elim
  · rw [List.drop_eq_nil_of_le (by omega)] at f
    refine .inl ⟨fl.stop _ i g t _ H (by omega) s rl, ?_⟩
    refine k _ _ f g (.ref D) H (s1.trans s) ⟨rl.base, rl.sub, rl.ff, rl.old, rl.ft, rl.dm, rl.there, by rw [rl.len, wl], fun j s' h => ?_⟩ ⟨D, [D], rfl, .lst eD ra, by simp, fun b hb => ?_⟩
    · by_cases hj : j ∈ vs
      · rw [un j s' hj h]; trivial
      · rw [← wipe_out (σ := σ) hj]; exact rl.slot j s' h
    · rw [List.mem_singleton.mp hb]; exact ⟨oD, fD, bD⟩
theorem PG.ex {X : Cx} {e : Expr} {α : Type} {f : α → TG} (h : ∀ a, PG X e (f a)) : PG X e (fun v σ H Q => ∃ a, f a v σ H Q) := ⟨fun pins s σ H v u Q I r q => (h q.choose).run pins s σ H v u Q I r q.choose_spec⟩
theorem PE.ex {X : Cx} {e : Expr} {α : Type} {f : α → TE} (h : ∀ a, PE X e (f a)) : PE X e (fun σ H Q => ∃ a, f a σ H Q) := ⟨fun pins s σ H Q I q => (h q.choose).run pins s σ H Q I q.choose_spec⟩
theorem PTs.ex {X : Cx} {e : List Expr} {α : Type} {f : α → TT} (h : ∀ a, PTs X e (f a)) : PTs X e (fun σ H Q => ∃ a, f a σ H Q) := ⟨fun pins s σ H Q I q => (h q.choose).run pins s σ H Q I q.choose_spec⟩
theorem PTs.imp {X : Cx} {e : List Expr} {t t' : TT} (h : PTs X e t) (i : ∀ σ H Q, t' σ H Q → t σ H Q) : PTs X e t' := ⟨fun pins s σ H Q I q => h.run pins s σ H Q I (i σ H Q q)⟩
def PTsT (B : Base) (X : Cx) (ifs : List Expr) (w : WT) : Prop := ∀ W, L2N.Takes X (wxOf X.K B W) → PTs X ifs (ttOf X.K B (w W))
theorem C_nil : PTsT B X [] wYes := fun W tk => PTs.imp pts_nil fun σ H Q q => by
  obtain ⟨g, t, P, rl, m, k⟩ := q
  exact k _ _ m g H sRefl rl
theorem PIT.of (h : PIT B X tg iter wi) : PIT B X tg iter wi := h
theorem T_lc {ifs : List Expr} (own : List (Str × Nat)) (hN : X.N.Nodup) (hi : PIT B X tg iter wi) (ok : BlkOk X.N X.env.scope scope own)
    (hg : ∀ (B : Base) (s : Shared) (H : Hp) (C : Addr) (cl : List (Str × Addr)) (fp : List Addr), PGT B (X.blk s H scope (compEnvC scope cl C X.env) fp) tg gs wg)
    (ht : ∀ (B : Base) (s : Shared) (H : Hp) (C : Addr) (cl : List (Str × Addr)) (fp : List Addr), PTsT B (X.blk s H scope (compEnvC scope cl C X.env) fp) ifs wc)
    (he : ∀ (B : Base) (s : Shared) (H : Hp) (C : Addr) (cl : List (Str × Addr)) (fp : List Addr), PET B (X.blk s H scope (compEnvC scope cl C X.env) fp) elt we)
    (hgs : gs.all (fun i => (own.map (·.2)).contains i) = true := by rfl) (hc : X.calm = true := by rfl) (hs : ∀ x, foldedSetIterable iter X.env x = pure x := by intro _; rfl) :
    PET B X (.ListComp elt [⟨tg, iter, ifs, 0⟩] scope pos) (wLc wi wg wc we (own.map (·.2))) := fun W tk =>
  PE.imp (pe_lc hc hN (hi W tk) ok (fun s H C cl fp => PG.ex (f := fun B => gOf X.K B gs wg) fun B' => hg B' s H C cl fp) (fun s H C cl fp => PTs.ex (f := fun B => ttOf X.K B (wc noX)) fun B' => ht B' s H C cl fp noX takes_noX) (fun s H C cl fp => PE.ex (f := fun B => tOf X.K B (we noX)) fun B' => he B' s H C cl fp noX takes_noX) hs) fun σ H Q q =>
    lc_of (fun i hi => by simpa using List.all_eq_true.mp hgs i hi) q
end
end TL
namespace TL
open PySem PySem.Spec PyProof.Rows L2
inductive Arg where
  | v (d : D) | ref (c : Cell)
/-- a def's promise, by value: from the arguments, what is wanted of the answer and the changed cells, of an exception and the cells -/
abbrev TSpec := List Arg → (R → List Cell → Prop) → (String → Pay → List Cell → Prop) → Prop
def outAt : List Arg → List Cell → Nat → Option Cell
  | .v _ :: as, cs, i + 1 => outAt as cs i
  | .ref _ :: _, c :: _, 0 => some c
  | .ref _ :: as, _ :: cs, i + 1 => outAt as cs i
  | _, _, _ => none
def InF (fp : Nat → List Addr) (b : Addr) : Prop := ∃ i, b ∈ fp i
structure ArgsRel (K : PySem.W.Frag) (F H : Hp) (args : List Arg) (vs : List V) (fp : Nat → List Addr) : Prop where
  len : vs.length = args.length
  val : ∀ (i : Nat) (d : D), args[i]? = some (.v d) → ∃ v, vs[i]? = some v ∧ Rep K F d v
  cel : ∀ (i : Nat) (c : Cell), args[i]? = some (.ref c) → ∃ a, vs[i]? = some (.ref a) ∧ CellRel K F H c a (fp i) ∧ (fp i).Nodup
  non : ∀ i : Nat, (∀ c : Cell, args[i]? ≠ some (.ref c)) → fp i = []
  dis : ∀ i j b, b ∈ fp i → b ∈ fp j → i = j
  fre : ∀ i b, b ∈ fp i → F b = none
  tf : ∀ a xs, H a = some (.tup xs) → F a = some (.tup xs)
structure Post (K : PySem.W.Frag) (F H : Hp) (args : List Arg) (vs : List V) (fp : Nat → List Addr) (outs : List Cell) (F' H' : Hp) (fp' : Nat → List Addr) : Prop where
  up : Same F F'
  sub : Same F' H'
  keep : ∀ a o, H a = some o → ¬ InF fp a → H' a = some o ∧ (F a = none → F' a = none)
  dm : Dm H F' H'
  out : ∀ (i : Nat) (c : Cell), args[i]? = some (.ref c) → ∃ a c', vs[i]? = some (.ref a) ∧ outAt args outs i = some c' ∧ CellRel K F' H' c' a (fp' i) ∧ (fp' i).Nodup
  non : ∀ i : Nat, (∀ c : Cell, args[i]? ≠ some (.ref c)) → fp' i = []
  dis : ∀ i j b, b ∈ fp' i → b ∈ fp' j → i = j
  new : ∀ i b, b ∈ fp' i → F' b = none ∧ (InF fp b ∨ H b = none)
theorem Post.dom {K : PySem.W.Frag} {F H : Hp} {args : List Arg} {vs : List V} {fp : Nat → List Addr} {outs : List Cell} {F' H' : Hp} {fp' : Nat → List Addr} (p : Post K F H args vs fp outs F' H' fp') : ∀ a, H' a = none → H a = none := p.dm.dom
def RetRel (K : PySem.W.Frag) (F' H' H : Hp) (fp' : Nat → List Addr) : R → V → Prop
  | .v d, v => Rep K F' d v
  | .own c, v => ∃ a f, v = .ref a ∧ CellRel K F' H' c a f ∧ f.Nodup ∧ ∀ b ∈ f, F' b = none ∧ H b = none ∧ ¬ InF fp' b
def toSp (K : PySem.W.Frag) (n : Nat) (ts : TSpec) : Sp := fun vs H Q E => vs.length = n ∧ ∃ F args fp PQ PX, Same F H ∧ ArgsRel K F H args vs fp ∧ ts args PQ PX ∧
  (∀ r outs, PQ r outs → ∀ v F' H' fp', Post K F H args vs fp outs F' H' fp' → RetRel K F' H' H fp' r v → Q v H') ∧
  (∀ n pay outs, PX n pay outs → ∀ cls, ClsN K n cls → ∀ d F' H' fp', Post K F H args vs fp outs F' H' fp' → PayRel K F' H' pay d → E cls d H')
abbrev AV := Sum D Nat
abbrev WAA := TX → TSt → (List AV → TSt → Prop) → Prop
inductive AVs (K : PySem.W.Frag) (F : Hp) (σ : L2.St) : List AV → List V → Prop
  | nil : AVs K F σ [] []
  | v {d : D} {v : V} {as : List AV} {vs : List V} : Rep K F d v → AVs K F σ as vs → AVs K F σ (.inl d :: as) (v :: vs)
  | r {i : Nat} {v : V} {as : List AV} {vs : List V} : σ[i]? = some (some v) → AVs K F σ as vs → AVs K F σ (.inr i :: as) (v :: vs)
def aaOf (K : PySem.W.Frag) (B : Base) (m : TSt → (List AV → TSt → Prop) → Prop) : TA := fun σ H Q => ∃ g t P, Rel K B g t σ H ∧ m t P ∧
  ∀ as t', P as t' → ∀ g' vs H', Same g.F g'.F → Rel K B g' t' σ H' → AVs K g'.F σ as vs → Q vs H'
def PAAT (B : Base) (X : Cx) (es : List Expr) (w : WAA) : Prop := ∀ W, L2N.Takes X (wxOf X.K B W) → PA X es (aaOf X.K B (w W))
def aNil : WAA := fun _ t Q => Q [] t
def aV (a : WE) (b : WAA) : WAA := fun W t Q => a W t fun r t1 => fz r fun d => b W t1 fun ds t2 => Q (.inl d :: ds) t2
def aR (i : Nat) (b : WAA) : WAA := fun W t Q => match t[i]? with
  | some (.own _) => b W t fun ds t2 => Q (.inr i :: ds) t2
  | some (.bor _) => b W t fun ds t2 => Q (.inr i :: ds) t2
  | _ => False
section
variable {B : Base} {X : Cx} {e : Expr} {es : List Expr} {w : WE} {wa : WAA} {pos p : Pos}
theorem AVs.up {K : PySem.W.Frag} {F F' : Hp} {σ : L2.St} (s : Same F F') : ∀ {as : List AV} {vs : List V}, AVs K F σ as vs → AVs K F' σ as vs
  | _, _, .nil => .nil
  | _, _, .v h t => .v (h.up s) (AVs.up s t)
  | _, _, .r h t => .r h (AVs.up s t)
theorem AA_nil : PAAT B X [] aNil := fun W tk => PA.imp pa_nil fun σ H Q q => by
  obtain ⟨g, t, P, rl, m, k⟩ := q
  exact k _ _ m g [] H sRefl rl .nil
theorem AA_v (h : PET B X e w) (h2 : PAAT B X es wa) (hs : starEach (e :: es) X.env = (false, eval e X.env) :: starEach es X.env := by rfl) : PAAT B X (e :: es) (aV w wa) := fun W tk => PA.imp (pa_cons (h W tk) (h2 W tk) hs) fun σ H Q q => by
  obtain ⟨g, t, P, rl, m, k⟩ := q
  refine ⟨g, t, _, rl, m, fun r1 t1 m1 g1 v1 H1 s1 rl1 rr1 => ?_⟩
  unfold fz at m1
  split at m1
  · rename_i dx hx
    obtain ⟨F2, s2, rl2, rp⟩ := rr1.freeze rl1 hx
    refine ⟨⟨F2, g1.ow⟩, t1, _, rl2, m1, fun ds t3 m3 g3 vs H3 s3 rl3 rs3 => ?_⟩
    exact k _ _ m3 g3 _ H3 ((s1.trans s2).trans s3) rl3 (.v (rp.up s3) rs3)
  · exact m1.elim
/-- a name whose object may be changed by the callee -/
theorem AA_r (i : Nat) {x : Str} (h2 : PAAT B X es wa) (hN : X.N[i]? = some x := by rfl) (hv : Vis X.env.scope x := by first | exact Or.inl rfl | exact Or.inr (Or.inl rfl) | exact Or.inr (Or.inr rfl)) (hd : (x == ("__debug__" : Str)) = false := by rfl) (hcd : (x == ("__classdict__" : Str)) = false := by rfl)
    (hs : starEach (.Name x pos :: es) X.env = (false, eval (.Name x pos) X.env) :: starEach es X.env := by rfl) : PAAT B X (.Name x pos :: es) (aR i wa) := by
  refine fun W tk => PA.imp (pa_cons (pe_var hN hv hd hcd) (h2 W tk) hs) fun σ H Q q => ?_
  obtain ⟨g, t, P, rl, m, k⟩ := q
  have hx : (∃ v, σ[i]? = some (some v)) ∧ wa W t fun ds t2 => P (.inr i :: ds) t2 := by
    unfold aR at m
    split at m
    · rename_i c e
      obtain ⟨a, _, ha, _⟩ := rl.slot i _ e
      exact ⟨⟨_, ha⟩, m⟩
    · rename_i c e
      obtain ⟨a, _, ha, _⟩ := rl.slot i _ e
      exact ⟨⟨_, ha⟩, m⟩
    · exact m.elim
  obtain ⟨⟨v, hx⟩, m⟩ := hx
  exact ⟨v, hx, g, t, _, rl, m, fun ds t3 m3 g3 vs H3 s3 rl3 rs3 => k _ _ m3 g3 _ H3 s3 rl3 (.r hx rs3)⟩
def resA : List AV → TSt → Option (List Arg)
  | [], _ => some []
  | .inl d :: as, t => (resA as t).map (Arg.v d :: ·)
  | .inr i :: as, t => match t[i]? with
    | some (.own c) => (resA as t).map (Arg.ref c :: ·)
    | some (.bor c) => (resA as t).map (Arg.ref c :: ·)
    | _ => none
def reSlot (c : Cell) : Slot → Slot
  | .own _ => .own c
  | .bor _ => .bor c
  | s => s
def putA : List AV → List Cell → TSt → TSt
  | .inl _ :: as, cs, t => putA as cs t
  | .inr i :: as, c :: cs, t => putA as cs (t.modify i (reSlot c))
  | _, _, t => t
def refsA (as : List AV) : List Nat := as.filterMap fun a => match a with
  | .inl _ => none
  | .inr i => some i
def wCall (ts : TSpec) (a : WAA) : WE := fun W t Q => a W t fun as t1 => (refsA as).Nodup ∧ ∃ args, resA as t1 = some args ∧
  ts args (fun r outs => Q r (putA as outs t1)) (fun cls pay outs => W cls pay (putA as outs t1))
/-- where the slot of an argument is -/
theorem resA_at {t : TSt} : ∀ {as : List AV} {args : List Arg}, resA as t = some args → args.length = as.length ∧
    (∀ (p : Nat) (d : D), args[p]? = some (.v d) → as[p]? = some (.inl d)) ∧ (∀ (p : Nat) (c : Cell), args[p]? = some (.ref c) → ∃ i, as[p]? = some (.inr i) ∧ (t[i]? = some (.own c) ∨ t[i]? = some (.bor c)))
  | [], _, h => by cases h; exact ⟨rfl, fun p d e => by simp at e, fun p c e => by simp at e⟩
  | .inl d :: as, args, h => by
    unfold resA at h
    cases q : resA as t with
    | none => rw [q] at h; cases h
    | some r =>
      rw [q] at h; cases h
      obtain ⟨h1, h2, h3⟩ := resA_at q
      refine ⟨by simp [h1], fun p e hp => ?_, fun p c hp => ?_⟩
      · cases p with
        | zero => simp at hp; simp [hp]
        | succ p => exact h2 p e (by simpa using hp)
      · cases p with
        | zero => simp at hp
        | succ p => exact h3 p c (by simpa using hp)
  | .inr i :: as, args, h => by
    have key : ∃ c r, resA as t = some r ∧ args = Arg.ref c :: r ∧ (t[i]? = some (.own c) ∨ t[i]? = some (.bor c)) := by
      unfold resA at h
      split at h
      · rename_i c e
        cases q : resA as t with
        | none => rw [q] at h; cases h
        | some r => rw [q] at h; cases h; exact ⟨c, r, rfl, rfl, .inl e⟩
      · rename_i c e
        cases q : resA as t with
        | none => rw [q] at h; cases h
        | some r => rw [q] at h; cases h; exact ⟨c, r, rfl, rfl, .inr e⟩
      · cases h
    obtain ⟨c, r, q, rfl, hc⟩ := key
    obtain ⟨h1, h2, h3⟩ := resA_at q
    refine ⟨by simp [h1], fun p e hp => ?_, fun p c' hp => ?_⟩
    · cases p with
      | zero => simp at hp
      | succ p => exact h2 p e (by simpa using hp)
    · cases p with
      | zero => simp at hp; subst hp; exact ⟨i, by simp, hc⟩
      | succ p => exact h3 p c' (by simpa using hp)
theorem getElem?_modify' {α : Type} {l : List α} {i j : Nat} {f : α → α} : (l.modify i f)[j]? = if i = j then (l[j]?).map f else l[j]? := by
  rw [List.getElem?_modify]
  split <;> simp
theorem mem_refsA {as : List AV} {i : Nat} : i ∈ refsA as ↔ ∃ p : Nat, as[p]? = some (Sum.inr i : AV) := by
  unfold refsA
  rw [List.mem_filterMap]
  constructor
  · rintro ⟨a, ha, h⟩
    cases a with
    | inl d => cases h
    | inr j => cases h; exact List.getElem?_of_mem ha
  · rintro ⟨p, hp⟩
    exact ⟨_, List.mem_of_getElem? hp, rfl⟩
/-- the slots behind a call -/
theorem putA_at : ∀ {as : List AV} {args : List Arg} {outs : List Cell} {t t0 : TSt}, resA as t0 = some args → (refsA as).Nodup → (∀ p i, as[p]? = some (.inr i) → outAt args outs p ≠ none) →
    (putA as outs t).length = t.length ∧ (∀ j, j ∉ refsA as → (putA as outs t)[j]? = t[j]?) ∧ (∀ p i c, as[p]? = some (.inr i) → outAt args outs p = some c → (putA as outs t)[i]? = (t[i]?).map (reSlot c))
  | [], _, _, _, _, _, _, _ => by
    refine ⟨rfl, fun j _ => rfl, fun p i c h => by simp at h⟩
  | .inl d :: as, args, outs, t, t0, h, nd, ho => by
    unfold resA at h
    cases q : resA as t0 with
    | none => rw [q] at h; cases h
    | some r =>
      rw [q] at h; cases h
      obtain ⟨h1, h2, h3⟩ := putA_at (t := t) q nd (fun p i e => ho (p + 1) i (by simpa using e))
      refine ⟨h1, h2, fun p i c hp hc => ?_⟩
      cases p with
      | zero => simp at hp
      | succ p => exact h3 p i c (by simpa using hp) hc
  | .inr j :: as, args, outs, t, t0, h, nd, ho => by
    have key : ∃ c r, resA as t0 = some r ∧ args = Arg.ref c :: r := by
      unfold resA at h
      split at h
      · rename_i c e
        cases q : resA as t0 with
        | none => rw [q] at h; cases h
        | some r => rw [q] at h; cases h; exact ⟨c, r, rfl, rfl⟩
      · rename_i c e
        cases q : resA as t0 with
        | none => rw [q] at h; cases h
        | some r => rw [q] at h; cases h; exact ⟨c, r, rfl, rfl⟩
      · cases h
    obtain ⟨c, r, q, rfl⟩ := key
    have nd' : j ∉ refsA as ∧ (refsA as).Nodup := by
      have : refsA (.inr j :: as) = j :: refsA as := rfl
      rw [this] at nd
      exact List.nodup_cons.mp nd
    cases outs with
    | nil => exact absurd rfl (ho 0 j (by simp))
    | cons o outs =>
      obtain ⟨h1, h2, h3⟩ := putA_at (t := t.modify j (reSlot o)) q nd'.2 (fun p i e => ho (p + 1) i (by simpa using e))
      refine ⟨h1.trans (List.length_modify ..), fun i hi => ?_, fun p i c' hp hc => ?_⟩
      · have hi' : i ≠ j ∧ i ∉ refsA as := by
          have : refsA (.inr j :: as) = j :: refsA as := rfl
          rw [this] at hi
          exact ⟨fun e => hi (by rw [e]; exact List.mem_cons_self), fun e => hi (List.mem_cons_of_mem _ e)⟩
        rw [show putA (.inr j :: as) (o :: outs) t = putA as outs (t.modify j (reSlot o)) from rfl, h2 i hi'.2, getElem?_modify', if_neg (fun e => hi'.1 e.symm)]
      · rw [show putA (.inr j :: as) (o :: outs) t = putA as outs (t.modify j (reSlot o)) from rfl]
        cases p with
        | zero =>
          simp at hp
          subst hp
          have : c' = o := (Option.some.inj hc).symm
          subst this
          rw [h2 j nd'.1, getElem?_modify', if_pos rfl]
        | succ p =>
          have hp' : as[p]? = some (.inr i) := by simpa using hp
          have ne : j ≠ i := fun e => nd'.1 (by rw [e]; exact mem_refsA.mpr ⟨p, hp'⟩)
          rw [h3 p i c' hp' hc, getElem?_modify', if_neg ne]
theorem AVs.len {K : PySem.W.Frag} {F : Hp} {σ : L2.St} : ∀ {as : List AV} {vs : List V}, AVs K F σ as vs → vs.length = as.length
  | _, _, .nil => rfl
  | _, _, .v _ t => congrArg (· + 1) t.len
  | _, _, .r _ t => congrArg (· + 1) t.len
theorem AVs.val {K : PySem.W.Frag} {F : Hp} {σ : L2.St} : ∀ {as : List AV} {vs : List V} {p : Nat} {d : D}, AVs K F σ as vs → as[p]? = some (.inl d) → ∃ v, vs[p]? = some v ∧ Rep K F d v
  | _, _, _, _, .nil, e => by simp at e
  | _, _, 0, _, .v h _, e => by cases e; exact ⟨_, rfl, h⟩
  | _, _, p + 1, _, .v _ t, e => by
    obtain ⟨v, h1, h2⟩ := AVs.val (p := p) t (by simpa using e)
    exact ⟨v, by simpa using h1, h2⟩
  | _, _, 0, _, .r _ _, e => by simp at e
  | _, _, p + 1, _, .r _ t, e => by
    obtain ⟨v, h1, h2⟩ := AVs.val (p := p) t (by simpa using e)
    exact ⟨v, by simpa using h1, h2⟩
theorem AVs.ref {K : PySem.W.Frag} {F : Hp} {σ : L2.St} : ∀ {as : List AV} {vs : List V} {p i : Nat}, AVs K F σ as vs → as[p]? = some (.inr i) → ∃ v, vs[p]? = some v ∧ σ[i]? = some (some v)
  | _, _, _, _, .nil, e => by simp at e
  | _, _, 0, _, .v h _, e => by simp at e
  | _, _, p + 1, _, .v _ t, e => by
    obtain ⟨v, h1, h2⟩ := AVs.ref (p := p) t (by simpa using e)
    exact ⟨v, by simpa using h1, h2⟩
  | _, _, 0, _, .r h _, e => by simp at e; subst e; exact ⟨_, rfl, h⟩
  | _, _, p + 1, _, .r _ t, e => by
    obtain ⟨v, h1, h2⟩ := AVs.ref (p := p) t (by simpa using e)
    exact ⟨v, by simpa using h1, h2⟩
/-- the footprint of an argument that may be changed -/
def FpAt (K : PySem.W.Frag) (B : Base) (g : Gh) (t : TSt) (σ : L2.St) (H : Hp) (as : List AV) (args : List Arg) (p : Nat) (l : List Addr) : Prop :=
  ∃ i c a, as[p]? = some (.inr i) ∧ args[p]? = some (.ref c) ∧ σ[i]? = some (some (.ref a)) ∧ CellRel K g.F H c a l ∧ l.Nodup ∧ (∀ b ∈ l, g.ow b = some i) ∧ (t[i]? = some (.own c) ∨ t[i]? = some (.bor c) ∧ B.home i = some a)
theorem two_refs {as : List AV} (nd : (refsA as).Nodup) : ∀ {p q i : Nat}, as[p]? = some (.inr i) → as[q]? = some (.inr i) → p = q := by
  induction as with
  | nil => intro p q i h; simp at h
  | cons x as ih =>
    intro p q i hp hq
    cases x with
    | inl d =>
      cases p with
      | zero => simp at hp
      | succ p => cases q with
        | zero => simp at hq
        | succ q => exact congrArg (· + 1) (ih nd (p := p) (q := q) (i := i) (by simpa using hp) (by simpa using hq))
    | inr j =>
      have nd' : j ∉ refsA as ∧ (refsA as).Nodup := List.nodup_cons.mp (show (j :: refsA as).Nodup from nd)
      cases p with
      | zero =>
        cases q with
        | zero => rfl
        | succ q =>
          simp at hp; subst hp
          exact absurd (mem_refsA.mpr ⟨q, by simpa using hq⟩) nd'.1
      | succ p =>
        cases q with
        | zero =>
          simp at hq; subst hq
          exact absurd (mem_refsA.mpr ⟨p, by simpa using hp⟩) nd'.1
        | succ q => exact congrArg (· + 1) (ih nd'.2 (p := p) (q := q) (i := i) (by simpa using hp) (by simpa using hq))
theorem refFn {α : Type} (P : Nat → List α → Prop) : ∃ fp : Nat → List α, (∀ p l, P p l → P p (fp p)) ∧ ∀ p, (∀ l, ¬ P p l) → fp p = [] := by
  refine ⟨fun p => Classical.epsilon fun l => P p l ∨ ((∀ l, ¬ P p l) ∧ l = []), fun p l h => ?_, fun p h => ?_⟩
  · rcases Classical.epsilon_spec (p := fun l => P p l ∨ ((∀ l, ¬ P p l) ∧ l = [])) ⟨l, .inl h⟩ with z | z
    · exact z
    · exact absurd h (z.1 l)
  · rcases Classical.epsilon_spec (p := fun l => P p l ∨ ((∀ l, ¬ P p l) ∧ l = [])) ⟨[], .inr ⟨h, rfl⟩⟩ with z | z
    · exact absurd z (h _)
    · exact z.2
theorem args_of {K : PySem.W.Frag} {g : Gh} {t : TSt} {σ : L2.St} {H : Hp} {as : List AV} {args : List Arg} {vs : List V} (rl : Rel K B g t σ H) (nd : (refsA as).Nodup) (hr : resA as t = some args) (av : AVs K g.F σ as vs) :
    ∃ fp, ArgsRel K g.F H args vs fp ∧ ∀ (p : Nat) (c : Cell), args[p]? = some (.ref c) → FpAt K B g t σ H as args p (fp p) := by
  obtain ⟨h1, h2, h3⟩ := resA_at hr
  obtain ⟨fp, f1, f2⟩ := refFn (FpAt K B g t σ H as args)
  have ref : ∀ (p : Nat) (c : Cell), args[p]? = some (.ref c) → FpAt K B g t σ H as args p (fp p) := fun p c hp => by
    obtain ⟨i, hi, hs⟩ := h3 p c hp
    rcases hs with hs | hs
    · obtain ⟨a, l, ha, cr, n, o⟩ := rl.slot i _ hs
      exact f1 p l ⟨i, c, a, hi, hp, ha, cr, n, o, .inl hs⟩
    · obtain ⟨a, l, ha, hm, cr, n, o⟩ := rl.slot i _ hs
      exact f1 p l ⟨i, c, a, hi, hp, ha, cr, n, o, .inr ⟨hs, hm⟩⟩
  have non : ∀ p : Nat, (∀ c : Cell, args[p]? ≠ some (.ref c)) → fp p = [] := fun p hp => f2 p fun l ⟨i, c, a, _, hc, _⟩ => hp c hc
  have inn : ∀ p b, b ∈ fp p → ∃ c, args[p]? = some (.ref c) := fun p b hb => by
    refine Classical.byContradiction fun z => ?_
    rw [non p fun c hc => z ⟨c, hc⟩] at hb
    cases hb
  refine ⟨fp, ⟨by rw [av.len, h1], fun p d hp => av.val (h2 p d hp), fun p c hp => ?_, non, fun p q b hb hb' => ?_, fun p b hb => ?_, rl.tf⟩, ref⟩
  · obtain ⟨i, c', a, hi, hc, ha, cr, n, o, _⟩ := ref p c hp
    rw [hp] at hc; cases hc
    obtain ⟨v, hv, hv'⟩ := av.ref hi
    rw [ha] at hv'; cases hv'
    exact ⟨a, hv, cr, n⟩
  · obtain ⟨c, hc⟩ := inn p b hb
    obtain ⟨c', hc'⟩ := inn q b hb'
    obtain ⟨i, _, _, hi, _, _, _, _, o, _⟩ := ref p c hc
    obtain ⟨j, _, _, hj, _, _, _, _, o', _⟩ := ref q c' hc'
    have e := (o b hb).symm.trans (o' b hb')
    cases e
    exact two_refs nd hi hj
  · obtain ⟨c, hc⟩ := inn p b hb
    obtain ⟨i, _, _, hi, _, _, _, _, o, _⟩ := ref p c hc
    exact rl.fNone (o b hb)
open Classical in
theorem ow_mk (P : Addr → Nat → Prop) (Pu : ∀ b i j, P b i → P b j → i = j) (I : Addr → Prop) (ow : Addr → Option Nat) : ∃ ow' : Addr → Option Nat, (∀ b i, P b i → ow' b = some i) ∧ (∀ b, (¬ ∃ i, P b i) → ¬ I b → ow' b = ow b) ∧
    (∀ b i, ow' b = some i → P b i ∨ (¬ I b ∧ ow b = some i ∧ ¬ ∃ i, P b i)) := by
  refine ⟨fun b => if h : ∃ i, P b i then some (Classical.choose h) else if I b then none else ow b, fun b i h => ?_, fun b h h' => ?_, fun b i h => ?_⟩
  · have hx : ∃ i, P b i := ⟨i, h⟩
    dsimp only
    rw [dif_pos hx]
    exact congrArg some (Pu b _ _ (Classical.choose_spec hx) h)
  · dsimp only
    rw [dif_neg h, if_neg h']
  · dsimp only at h
    split at h
    · rename_i hx
      cases h
      exact .inl (Classical.choose_spec hx)
    · rename_i hx
      split at h
      · cases h
      · rename_i hy
        exact .inr ⟨hy, h, hx⟩
/-- behind the call -/
theorem rel_post {K : PySem.W.Frag} {g : Gh} {t : TSt} {σ : L2.St} {H : Hp} {as : List AV} {args : List Arg} {vs : List V} {fp fp' : Nat → List Addr} {outs : List Cell} {F' H' : Hp} (rl : Rel K B g t σ H) (nd : (refsA as).Nodup) (hr : resA as t = some args) (av : AVs K g.F σ as vs)
    (hf : ∀ (p : Nat) (c : Cell), args[p]? = some (.ref c) → FpAt K B g t σ H as args p (fp p)) (ar : ArgsRel K g.F H args vs fp) (po : Post K g.F H args vs fp outs F' H' fp') :
    ∃ ow', Rel K B ⟨F', ow'⟩ (putA as outs t) σ H' ∧ ∀ b, ow' b ≠ none → (InF fp' b ∨ g.ow b ≠ none) := by
  obtain ⟨h1, h2, h3⟩ := resA_at hr
  have inn : ∀ p b, b ∈ fp p → ∃ c, args[p]? = some (.ref c) := fun p b hb => by
    refine Classical.byContradiction fun z => ?_
    rw [ar.non p fun c hc => z ⟨c, hc⟩] at hb
    cases hb
  have inn' : ∀ p b, b ∈ fp' p → ∃ c, args[p]? = some (.ref c) := fun p b hb => by
    refine Classical.byContradiction fun z => ?_
    rw [po.non p fun c hc => z ⟨c, hc⟩] at hb
    cases hb
  have ho : ∀ p i, as[p]? = some (.inr i) → outAt args outs p ≠ none := fun p i hp => by
    have hl : p < args.length := by rw [h1]; exact (List.getElem?_eq_some_iff.mp hp).1
    have : ∃ c, args[p]? = some (.ref c) := by
      cases q : args[p]? with
      | none => rw [List.getElem?_eq_none_iff] at q; omega
      | some x =>
        cases x with
        | v d => have := h2 p d q; rw [hp] at this; cases this
        | ref c => exact ⟨c, rfl⟩
    obtain ⟨c, hc⟩ := this
    obtain ⟨a, c', _, e, _⟩ := po.out p c hc
    rw [e]; exact nofun
  obtain ⟨p1, p2, p3⟩ := putA_at (outs := outs) (t := t) hr nd ho
  -- whose an address is now
  obtain ⟨P, hP⟩ : ∃ P : Addr → Nat → Prop, P = fun b i => ∃ p, as[p]? = some (.inr i) ∧ b ∈ fp' p := ⟨_, rfl⟩
  have Pu : ∀ b i j, P b i → P b j → i = j := fun b i j z z' => by
    rw [hP] at z z'
    obtain ⟨p, hp, hb⟩ := z
    obtain ⟨q, hq, hb'⟩ := z'
    have e := po.dis p q b hb hb'
    subst e
    rw [hp] at hq; cases hq; rfl
  obtain ⟨ow', owP, owN, owS⟩ := ow_mk P Pu (InF fp) g.ow
  have Pin : ∀ b i, P b i → InF fp' b := fun b i z => by
    rw [hP] at z
    obtain ⟨p, _, h⟩ := z
    exact ⟨p, h⟩
  have Pre : ∀ b, InF fp' b → ∃ i, P b i := fun b ⟨p, hb⟩ => by
    obtain ⟨c, hc⟩ := inn' p b hb
    obtain ⟨i, _, _, hi, _⟩ := hf p c hc
    rw [hP]; exact ⟨i, p, hi, hb⟩
  have fpo : ∀ b, InF fp b → ∃ i, g.ow b = some i ∧ i ∈ refsA as := fun b ⟨p, hb⟩ => by
    obtain ⟨c, hc⟩ := inn p b hb
    obtain ⟨i, _, _, hi, _, _, _, _, o, _⟩ := hf p c hc
    exact ⟨i, o b hb, mem_refsA.mpr ⟨p, hi⟩⟩
  have base : ∀ a o, B.H a = some o → a ∉ B.foot → ¬ InF fp a := fun a o e n hb => by
    obtain ⟨i, hi, _⟩ := fpo a hb
    rw [(rl.old a o e n).2.1] at hi; cases hi
  refine ⟨ow', ⟨fun a o e => po.up _ _ (rl.base _ _ e), po.sub, fun a o e => ?_, fun a o e n => ?_, rl.ft, ⟨fun a e => rl.dom a (po.dom a e), po.dm.tf⟩, fun a i e => ?_, by rw [p1]; exact rl.len, fun i s e => ?_⟩, fun b h => ?_⟩
  · have e' : F' a = some o := e
    show ow' a = none
    cases q : ow' a with
    | none => rfl
    | some i =>
      rcases owS a i q with z | ⟨hy, hg, hx⟩
      · obtain ⟨p, hb⟩ := Pin a i z
        rw [(po.new p a hb).1] at e'; cases e'
      · obtain ⟨u, hu⟩ := rl.there a i hg
        rw [(po.keep a u hu hy).2 (rl.fNone hg)] at e'; cases e'
  · obtain ⟨z1, z2, z3⟩ := rl.old a o e n
    have nf := base a o e n
    refine ⟨(po.keep a o z1 nf).1, ?_, fun z => (po.keep a o z1 nf).2 (z3 z)⟩
    show ow' a = none
    rw [owN a (fun ⟨i, hPi⟩ => ?_) nf]
    · exact z2
    · obtain ⟨p, hb⟩ := Pin a i hPi
      rcases (po.new p a hb).2 with w | w
      · exact nf w
      · rw [z1] at w; cases w
  · rcases owS a i e with z | ⟨hy, hg, hx⟩
    · obtain ⟨p, hb⟩ := Pin a i z
      obtain ⟨c, hc⟩ := inn' p a hb
      obtain ⟨a', c', _, _, cr, _⟩ := po.out p c hc
      exact cr.there a hb
    · obtain ⟨u, hu⟩ := rl.there a i hg
      exact ⟨u, (po.keep a u hu hy).1⟩
  · by_cases hi : i ∈ refsA as
    · obtain ⟨p, hp⟩ := mem_refsA.mp hi
      have hl : p < args.length := by rw [h1]; exact (List.getElem?_eq_some_iff.mp hp).1
      obtain ⟨c, hc⟩ : ∃ c, args[p]? = some (.ref c) := by
        cases q : args[p]? with
        | none => rw [List.getElem?_eq_none_iff] at q; omega
        | some x =>
          cases x with
          | v d => have := h2 p d q; rw [hp] at this; cases this
          | ref c => exact ⟨c, rfl⟩
      obtain ⟨i', c0, a, hi', hc', ha, _, _, _, hs⟩ := hf p c hc
      rw [hp] at hi'; cases hi'
      rw [hc] at hc'; cases hc'
      obtain ⟨a', c', hv, ho', cr, n'⟩ := po.out p c hc
      obtain ⟨v, hv2, hv3⟩ := av.ref hp
      rw [ha] at hv3; cases hv3
      rw [hv] at hv2; cases hv2
      have es := p3 p i c' hp ho'
      rw [e] at es
      have own : ∀ b ∈ fp' p, ow' b = some i := fun b hb => owP b i (by rw [hP]; exact ⟨p, hp, hb⟩)
      rcases hs with hs | ⟨hs, hm⟩
      · rw [hs] at es
        cases es
        exact ⟨_, fp' p, ha, cr, n', own⟩
      · rw [hs] at es
        cases es
        exact ⟨_, fp' p, ha, hm, cr, n', own⟩
    · rw [p2 i hi] at e
      refine (rl.slot i s e).up po.up fun b hb => ?_
      have nf : ¬ InF fp b := fun hx => by
        obtain ⟨j, hj, hj'⟩ := fpo b hx
        rw [hb] at hj; cases hj; exact hi hj'
      obtain ⟨u, hu⟩ := rl.there b i hb
      refine ⟨?_, ((po.keep b u hu nf).1).trans hu.symm⟩
      rw [← hb]
      refine owN b (fun ⟨j, z⟩ => ?_) nf
      obtain ⟨p, hx⟩ := Pin b j z
      rcases (po.new p b hx).2 with w | w
      · exact nf w
      · rw [hu] at w; cases w
  · cases q : ow' b with
    | none => exact absurd q h
    | some i =>
      rcases owS b i q with hP | ⟨_, hg, _⟩
      · exact .inl (Pin b i hP)
      · exact .inr (by rw [hg]; exact nofun)
def toSlot : Arg → Slot
  | .v d => .v d
  | .ref c => .bor c
def start0 (n : Nat) (args : List Arg) : TSt := args.map toSlot ++ List.replicate (n - args.length) .un
def outsOf : List Arg → TSt → Option (List Cell)
  | [], _ => some []
  | .v _ :: as, _ :: t => outsOf as t
  | .ref _ :: as, .bor c :: t => (outsOf as t).map (c :: ·)
  | _, _ => none
def retO (args : List Arg) (t : TSt) (k : List Cell → Prop) : Prop := match outsOf args t with
  | some outs => k outs
  | none => False
theorem outsOf_at : ∀ {args : List Arg} {t : TSt} {outs : List Cell}, outsOf args t = some outs → ∀ (i : Nat) (c : Cell), args[i]? = some (.ref c) → ∃ c', t[i]? = some (.bor c') ∧ outAt args outs i = some c'
  | [], _, _, _, i, c, hi => by simp at hi
  | .v _ :: as, [], _, h, i, c, hi => by cases h
  | .v _ :: as, s :: t, outs, h, i, c, hi => by
    cases i with
    | zero => simp at hi
    | succ i =>
      obtain ⟨c', h1, h2⟩ := outsOf_at (show outsOf as t = some outs from h) i c (by simpa using hi)
      exact ⟨c', by simpa using h1, h2⟩
  | .ref _ :: as, [], _, h, i, c, hi => by cases h
  | .ref _ :: as, .un :: t, _, h, i, c, hi => by cases h
  | .ref _ :: as, .v _ :: t, _, h, i, c, hi => by cases h
  | .ref _ :: as, .own _ :: t, _, h, i, c, hi => by cases h
  | .ref _ :: as, .bor o :: t, outs, h, i, c, hi => by
    have h' : (outsOf as t).map (o :: ·) = some outs := h
    cases q : outsOf as t with
    | none => rw [q] at h'; cases h'
    | some r =>
      rw [q] at h'; cases h'
      cases i with
      | zero => exact ⟨o, rfl, rfl⟩
      | succ i =>
        obtain ⟨c', h1, h2⟩ := outsOf_at q i c (by simpa using hi)
        exact ⟨c', by simpa using h1, h2⟩
end
end TL
namespace TL
open PySem PySem.Spec PyProof.Rows L2
section
variable {K : PySem.W.Frag} {F H : Hp} {args : List Arg} {vs : List V} {fp : Nat → List Addr}
def footOf (args : List Arg) (fp : Nat → List Addr) : List Addr := (List.range args.length).flatMap fp
def homeOf (vs : List V) (i : Nat) : Option Addr := match vs[i]? with
  | some (.ref a) => some a
  | _ => none
theorem mem_foot (ar : ArgsRel K F H args vs fp) {b : Addr} : b ∈ footOf args fp ↔ InF fp b := by
  unfold footOf InF
  rw [List.mem_flatMap]
  constructor
  · rintro ⟨i, _, h⟩; exact ⟨i, h⟩
  · rintro ⟨i, h⟩
    refine ⟨i, List.mem_range.mpr ?_, h⟩
    rcases Nat.lt_or_ge i args.length with z | z
    · exact z
    · rw [ar.non i (fun c hc => by rw [List.getElem?_eq_none z] at hc; cases hc)] at h
      cases h
def base0 (H F : Hp) (args : List Arg) (vs : List V) (fp : Nat → List Addr) : Base := ⟨H, F, footOf args fp, homeOf vs⟩
theorem start0_get {n i : Nat} {s : Slot} (h : (start0 n args)[i]? = some s) : (∃ a, args[i]? = some a ∧ s = toSlot a) ∨ (s = .un) := by
  unfold start0 at h
  by_cases hi : i < args.length
  · rw [List.getElem?_append_left (by rw [List.length_map]; exact hi), List.getElem?_map] at h
    cases q : args[i]? with
    | none => rw [q] at h; cases h
    | some a => rw [q] at h; exact .inl ⟨a, rfl, (Option.some.inj h).symm⟩
  · rw [List.getElem?_append_right (by rw [List.length_map]; omega)] at h
    rw [List.getElem?_replicate] at h
    split at h
    · exact .inr (Option.some.inj h).symm
    · cases h
theorem start_at {N : List Str} {i : Nat} {v : V} (h : vs[i]? = some v) : (L2.start N vs)[i]? = some (some v) := by
  have hi : i < vs.length := (List.getElem?_eq_some_iff.mp h).1
  unfold L2.start
  rw [List.getElem?_append_left (by rw [List.length_map]; exact hi), List.getElem?_map, h]
  rfl
theorem rel0 {N : List Str} (sF : Same F H) (ar : ArgsRel K F H args vs fp) (hn : args.length ≤ N.length) : ∃ ow, Rel K (base0 H F args vs fp) ⟨F, ow⟩ (start0 N.length args) (L2.start N vs) H := by
  obtain ⟨ow, o1, o2, o3⟩ := ow_mk (fun b i => b ∈ fp i) (fun b i j h h' => ar.dis i j b h h') (fun _ => False) (fun _ => none)
  have inn : ∀ i b, b ∈ fp i → ∃ o, H b = some o := fun i b hb => by
    have : ∃ c, args[i]? = some (.ref c) := by
      refine Classical.byContradiction fun z => ?_
      rw [ar.non i fun c hc => z ⟨c, hc⟩] at hb
      cases hb
    obtain ⟨c, hc⟩ := this
    obtain ⟨a, _, cr, _⟩ := ar.cel i c hc
    exact cr.there b hb
  have ow_none : ∀ b, ¬ InF fp b → ow b = none := fun b hb => (o2 b (fun ⟨i, h⟩ => hb ⟨i, h⟩) id)
  refine ⟨ow, ⟨sRefl, sF, fun a o e => ?_, fun a o e n => ⟨e, ow_none a fun z => n ((mem_foot ar).mpr z), fun z => z⟩, fun b hb => ?_, ⟨fun a e => e, ar.tf⟩, fun a i e => ?_, ?_, fun i s e => ?_⟩⟩
  · refine ow_none a fun ⟨i, h⟩ => ?_
    have e' : F a = some o := e
    rw [ar.fre i a h] at e'; cases e'
  · obtain ⟨i, h⟩ := (mem_foot ar).mp hb
    exact inn i b h
  · rcases o3 a i e with h | ⟨_, h, _⟩
    · exact inn i a h
    · cases h
  · unfold start0 L2.start
    rw [List.length_append, List.length_append, List.length_map, List.length_map, List.length_replicate, List.length_replicate, ar.len]
  · rcases start0_get e with ⟨a, ha, rfl⟩ | rfl
    · cases a with
      | v d =>
        obtain ⟨v, hv, r⟩ := ar.val i d ha
        exact ⟨v, start_at hv, r⟩
      | ref c =>
        obtain ⟨a, hv, cr, nd⟩ := ar.cel i c ha
        refine ⟨a, fp i, start_at hv, ?_, cr, nd, fun b hb => o1 b i hb⟩
        show homeOf vs i = some a
        unfold homeOf
        rw [hv]
    · trivial
theorem post_of {g : Gh} {t : TSt} {σ : L2.St} {H' : Hp} {outs : List Cell} (ar : ArgsRel K F H args vs fp) (rl : Rel K (base0 H F args vs fp) g t σ H') (ho : outsOf args t = some outs) :
    ∃ fp', Post K F H args vs fp outs g.F H' fp' ∧ ∀ b, InF fp' b → g.ow b ≠ none := by
  obtain ⟨fp', f1, f2⟩ := refFn (fun i (l : List Addr) => ∃ c c' a, args[i]? = some (Arg.ref c) ∧ vs[i]? = some (.ref a) ∧ outAt args outs i = some c' ∧ CellRel K g.F H' c' a l ∧ l.Nodup ∧ ∀ b ∈ l, g.ow b = some i)
  have ref : ∀ (i : Nat) (c : Cell), args[i]? = some (.ref c) → ∃ c c' a, args[i]? = some (Arg.ref c) ∧ vs[i]? = some (.ref a) ∧ outAt args outs i = some c' ∧ CellRel K g.F H' c' a (fp' i) ∧ (fp' i).Nodup ∧ ∀ b ∈ fp' i, g.ow b = some i := fun i c hc => by
    obtain ⟨c', h1, h2⟩ := outsOf_at ho i c hc
    obtain ⟨a, l, _, hm, cr, nd, o⟩ := rl.slot i _ h1
    obtain ⟨a', hv, _⟩ := ar.cel i c hc
    have hm' : homeOf vs i = some a := hm
    unfold homeOf at hm'
    rw [hv] at hm'
    cases hm'
    exact f1 i l ⟨c, c', a, hc, hv, h2, cr, nd, o⟩
  have non : ∀ i : Nat, (∀ c : Cell, args[i]? ≠ some (.ref c)) → fp' i = [] := fun i hi => f2 i fun l ⟨c, _, _, hc, _⟩ => hi c hc
  have inn : ∀ i b, b ∈ fp' i → g.ow b = some i := fun i b hb => by
    have : ∃ c, args[i]? = some (.ref c) := by
      refine Classical.byContradiction fun z => ?_
      rw [non i fun c hc => z ⟨c, hc⟩] at hb
      cases hb
    obtain ⟨c, hc⟩ := this
    obtain ⟨_, _, _, _, _, _, _, _, o⟩ := ref i c hc
    exact o b hb
  refine ⟨fp', ⟨rl.base, rl.sub, fun a o e n => ?_, rl.dm, fun i c hc => ?_, non, fun i j b h h' => ?_, fun i b hb => ⟨rl.fNone (inn i b hb), ?_⟩⟩, fun b ⟨i, h⟩ => by rw [inn i b h]; exact nofun⟩
  · obtain ⟨h1, _, h3⟩ := rl.old a o e fun z => n ((mem_foot ar).mp z)
    exact ⟨h1, h3⟩
  · obtain ⟨_, c', a, _, hv, h2, cr, nd, _⟩ := ref i c hc
    exact ⟨a, c', hv, h2, cr, nd⟩
  · have e := (inn i b h).symm.trans (inn j b h')
    exact Option.some.inj e
  · rcases rl.fresh (inn i b hb) with z | z
    · exact .inr z
    · exact .inl ((mem_foot ar).mp z)
theorem ret_of {g : Gh} {H' : Hp} {fp' : Nat → List Addr} {r : R} {v : V} (hf : ∀ b, InF fp' b → g.ow b ≠ none) (rr : ResRel K (base0 H F args vs fp) g H' r v) : RetRel K g.F H' H fp' r v := by
  cases r with
  | v d => exact rr
  | own c =>
    obtain ⟨a, l, e, cr, nd, o⟩ := rr
    exact ⟨a, l, e, cr, nd, fun b hb => ⟨(o b hb).2.1, (o b hb).2.2, fun z => hf b z (o b hb).1⟩⟩
end
/-- the wish about exceptions within a def, the ends of its body -/
def fnX (args : List Arg) (PX : String → Pay → List Cell → Prop) : TX := fun cls pay t => retO args t (PX cls pay)
def fnD (args : List Arg) (PQ : R → List Cell → Prop) : TD := ⟨fun t => retO args t (PQ (.v .non)), fun r t => retO args t (PQ r), fun _ => False, fun _ => False⟩
section
variable {P : Program} {w : World} {K : PySem.W.Frag} {mg : Str → Option Value} {base : Heap}
end
end TL
namespace TL
open PySem PySem.Spec PyProof.Rows L2
mutual
def D.py : D → PyData
  | .non => .none
  | .bl b => .bool b
  | .int i => .int i
  | .str x => .str x
  | .tup l => .tuple (D.pyL l)
  | .lst l => .list (D.pyL l)
  | .scr l => .list (D.pyL l)
  | .dct _ _ => .none
  | .ty _ => .none
  | .ref _ => .none
  | .exc _ => .none
  | .cl _ => .none
  | .obj _ _ => .none
def D.pyL : List D → List PyData
  | [] => []
  | d :: ds => d.py :: D.pyL ds
end
mutual
/-- numbers, truths, None, texts, tuples and lists of such -/
def D.pl : D → Bool
  | .non => true
  | .bl _ => true
  | .int _ => true
  | .str _ => true
  | .tup l => D.plL l
  | .lst l => D.plL l
  | .scr l => D.plL l
  | .dct _ _ => false
  | .ty _ => false
  | .ref _ => false
  | .exc _ => false
  | .cl _ => false
  | .obj _ _ => false
def D.plL : List D → Bool
  | [] => true
  | d :: ds => d.pl && D.plL ds
end
section
variable {K : PySem.W.Frag} {F H : Hp}
mutual
theorem Rep.dp (s : Same F H) : ∀ {d : D} {v : V}, Rep K F d v → d.pl = true → Dp K H v d.py
  | _, _, .non, _ => .non
  | _, _, .bl b, _ => .bl b
  | _, _, .int i, _ => .int i
  | _, _, .str x, _ => .str x
  | _, _, .ty _, h => by simp [D.pl] at h
  | _, _, .ref _, h => by simp [D.pl] at h
  | _, _, .tup e r, h => .tup (.inl (.inl (s _ _ e))) (Reps.dp s r (by simpa [D.pl] using h))
  | _, _, .lst e r, h => .lst (.inl (.inl (s _ _ e))) (Reps.dp s r (by simpa [D.pl] using h))
  | _, _, .scr e r, h => .lst (SqL.up s e) (Reps.dp s r (by simpa [D.pl] using h))
  | _, _, .dctK _ _, h => by simp [D.pl] at h
  | _, _, .dctT _ _, h => by simp [D.pl] at h
theorem Reps.dp (s : Same F H) : ∀ {ds : List D} {vs : List V}, Reps K F ds vs → D.plL ds = true → DpAll K H vs (D.pyL ds)
  | _, _, .nil, _ => .nil
  | _, _, .cons a b, h => by
    simp only [D.plL, Bool.and_eq_true] at h
    exact .cons (Rep.dp s a h.1) (Reps.dp s b h.2)
end
theorem RepH.dp (s : Same F H) {d : D} {v : V} (h : RepH K F H d v) (e : d.pl = true) : Dp K H v d.py := by
  cases h with
  | rep r => exact r.dp s e
  | lst e' r => exact .lst (.inl (.inl e')) (r.dp s (by simpa [D.pl] using e))
  | dctK _ _ => simp [D.pl] at e
  | dctT _ _ => simp [D.pl] at e
mutual
theorem D.py_plain : ∀ d : D, d.pl = true → d.py.plain = true
  | .non, _ => rfl
  | .bl _, _ => rfl
  | .int _, _ => rfl
  | .str _, _ => rfl
  | .tup l, h => D.pyL_plain l (by simpa [D.pl] using h)
  | .lst l, h => D.pyL_plain l (by simpa [D.pl] using h)
  | .scr l, h => D.pyL_plain l (by simpa [D.pl] using h)
  | .dct _ _, h => by simp [D.pl] at h
  | .ty _, h => by simp [D.pl] at h
  | .ref _, h => by simp [D.pl] at h
theorem D.pyL_plain : ∀ ds : List D, D.plL ds = true → PyData.plainAll (D.pyL ds) = true
  | [], _ => rfl
  | d :: ds, h => by
    simp only [D.plL, Bool.and_eq_true] at h
    show (d.py.plain && PyData.plainAll (D.pyL ds)) = true
    rw [D.py_plain d h.1, D.pyL_plain ds h.2]
    rfl
end
end
abbrev Op2 := D → D → (R → Prop) → Prop
def mulOk (i j : Int) : Prop := i.natAbs < 2 ^ 250 ∧ j.natAbs < 2 ^ 250
def dAdd : Op2
  | .int i, .int j, Q => Q (.v (.int (i + j)))
  | .tup a, .tup b, Q => a.length + b.length ≤ sizeLine ∧ Q (.v (.tup (a ++ b)))
  | .lst a, .lst b, Q => a.length + b.length ≤ sizeLine ∧ Q (.own (.lst (a ++ b)))
  | .str a, .str b, Q => a.length + b.length ≤ sizeLine ∧ Q (.v (.str (a ++ b)))
  | _, _, _ => False
def dSub : Op2
  | .int i, .int j, Q => Q (.v (.int (i - j)))
  | _, _, _ => False
def dMul : Op2
  | .int i, .int j, Q => mulOk i j ∧ Q (.v (.int (i * j)))
  | .lst a, .int k, Q => small k ∧ a.length * k.toNat ≤ sizeLine ∧ Q (.own (.lst (List.replicate k.toNat a).flatten))
  | _, _, _ => False
/-- by a positive number -/
def dDiv : Op2
  | .int i, .int j, Q => (0 < j ∧ j.natAbs < 2 ^ 250) ∧ Q (.v (.int (i / j)))
  | _, _, _ => False
def dMod : Op2
  | .int i, .int j, Q => 0 < j ∧ Q (.v (.int (i % j)))
  | _, _, _ => False
def dPow : Op2
  | .int i, .int j, Q => CPow i j ∧ Q (.v (.int (i ^ j.toNat)))
  | _, _, _ => False
def dShl : Op2
  | .int i, .int j, Q => CPow i j ∧ Q (.v (.int (i * 2 ^ j.toNat)))
  | _, _, _ => False
def dShr : Op2
  | .int i, .int j, Q => 0 ≤ j ∧ Q (.v (.int (i / 2 ^ j.toNat)))
  | _, _, _ => False
def dAnd : Op2
  | .int i, .int j, Q => Q (.v (.int (Builtin.bitAnd i j)))
  | _, _, _ => False
def iAdd : Op2
  | .int i, .int j, Q => Q (.v (.int (i + j)))
  | _, _, _ => False
def iMul : Op2
  | .int i, .int j, Q => CMul i j ∧ Q (.v (.int (i * j)))
  | _, _, _ => False
def pyEq (x y : D) : Bool := PyData.eqv x.py y.py
def eqOk (x y : D) : Prop := x.pl = true ∧ y.pl = true ∧ min x.py.depth y.py.depth ≤ 64
def dEq : Op2 := fun x y Q => eqOk x y ∧ Q (.v (.bl (pyEq x y)))
def dNe : Op2 := fun x y Q => eqOk x y ∧ Q (.v (.bl (!pyEq x y)))
def dLt : Op2
  | .int i, .int j, Q => Q (.v (.bl (decide (i < j))))
  | .str a, .str b, Q => Q (.v (.bl (decide (a.cps.toList < b.cps.toList))))
  | _, _, _ => False
def dLe : Op2
  | .int i, .int j, Q => Q (.v (.bl (decide (i ≤ j))))
  | _, _, _ => False
def dGt : Op2
  | .int i, .int j, Q => Q (.v (.bl (decide (j < i))))
  | _, _, _ => False
def dGe : Op2
  | .int i, .int j, Q => Q (.v (.bl (decide (j ≤ i))))
  | _, _, _ => False
/-- in, not in: lists and tuples, texts -/
def memD (x : D) (l : List D) : Bool := l.any fun y => pyEq y x
def dIn : Op2
  | x, .tup l, Q => x.pl = true ∧ D.plL l = true ∧ x.py.depth ≤ 64 ∧ Q (.v (.bl (memD x l)))
  | x, .lst l, Q => x.pl = true ∧ D.plL l = true ∧ x.py.depth ≤ 64 ∧ Q (.v (.bl (memD x l)))
  | .str x, .str y, Q => Q (.v (.bl (!(Builtin.Str.occurrences y x 0 y.length 1).isEmpty)))
  | _, _, _ => False
def dNotIn : Op2
  | x, .tup l, Q => x.pl = true ∧ D.plL l = true ∧ x.py.depth ≤ 64 ∧ Q (.v (.bl (!memD x l)))
  | x, .lst l, Q => x.pl = true ∧ D.plL l = true ∧ x.py.depth ≤ 64 ∧ Q (.v (.bl (!memD x l)))
  | _, _, _ => False
def D.isNon : D → Bool
  | .non => true
  | _ => false
def dIs : Op2
  | x, .non, Q => Q (.v (.bl x.isNon))
  | _, _, _ => False
def dIsNot : Op2
  | x, .non, Q => Q (.v (.bl (!x.isNon)))
  | _, _, _ => False
section
variable {B : Base} {X : Cx}
/-- an operation whose answer is a number, a truth, a text: by its rule on values -/
theorem OpT.mk {f : Value → Value → Sem Value} {o : Op2} (h : ∀ (pins : List (Addr × Obj)) (s : Shared) (σ : L2.St) (H : Hp) (x y : V) (v u : Value) (Q : VK) (g : Gh) (t : TSt) (σ' : L2.St) (dx dy : D) (P : R → Prop), Inv X pins σ H s → RelV x v → RelV y u →
    Rel X.K B g t σ' H → RepH X.K g.F H dx x → RepH X.K g.F H dy y → o dx dy P → (∀ r, P r → ∀ g' v H', Same g.F g'.F → Rel X.K B g' t σ' H' → ResRel X.K B g' H' r v → Q v H') → wpAny (model X.prog X.w) X.A (f v u) (EP X pins σ Q) X.xe s) : OpT B X f o := by
  intro pins s σ H x y v u Q I rx ry hh
  obtain ⟨g, t, σ', dx, dy, P, rl, r1, r2, m, k⟩ := hh
  exact h pins s σ H x y v u Q g t σ' dx dy P I rx ry rl r1 r2 m k
/-- two whole numbers -/
theorem OpT.int2 {f : Value → Value → Sem Value} {o : Op2} {C : Int → Int → Prop} {c : Int → Int → V} {e : Int → Int → D} (h : OpR X f (rI C c)) (he : ∀ i j F, Rep X.K F (e i j) (c i j))
    (ho : ∀ x y Q, o x y Q → ∃ i j, x = .int i ∧ y = .int j ∧ C i j ∧ Q (.v (e i j))) : OpT B X f o := by
  refine .mk fun pins s σ H x y v u Q g t σ' dx dy P I rx ry rl r1 r2 m k => ?_
  obtain ⟨i, j, rfl, rfl, hc, hp⟩ := ho _ _ _ m
  exact h pins s σ H x y v u Q I rx ry ⟨i, j, r1.int_inv, r2.int_inv, hc, k _ hp g _ H sRefl rl (he i j _)⟩
theorem rI_of {f : Value → Value → Sem Value} {c : Int → Int → V} (h : OpR X f (rI0 c)) : OpR X f (rI (fun _ _ => True) c) := fun pins s σ H x y v u Q I rx ry ⟨i, j, e1, e2, _, q⟩ => h pins s σ H x y v u Q I rx ry ⟨i, j, e1, e2, q⟩
theorem O_sub : OpT B X (binaryOp .Sub) dSub := .int2 (rI_of op_sub) (e := fun i j => .int (i - j)) (fun _ _ _ => .int _) fun x y Q h => by
  unfold dSub at h
  split at h
  · exact ⟨_, _, rfl, rfl, trivial, h⟩
  · exact h.elim
theorem O_div : OpT B X (binaryOp .FloorDiv) dDiv := .int2 op_fdivW (e := fun i j => .int (i / j)) (fun _ _ _ => .int _) fun x y Q h => by
  unfold dDiv at h
  split at h
  · exact ⟨_, _, rfl, rfl, wide_div h.1.1 h.1.2 (by decide) (by decide), h.2⟩
  · exact h.elim
theorem O_mod : OpT B X (binaryOp .Mod) dMod := .int2 op_mod (e := fun i j => .int (i % j)) (fun _ _ _ => .int _) fun x y Q h => by
  unfold dMod at h
  split at h
  · exact ⟨_, _, rfl, rfl, h.1, h.2⟩
  · exact h.elim
theorem O_pow : OpT B X (binaryOp .Pow) dPow := .int2 op_pow (e := fun i j => .int (i ^ j.toNat)) (fun _ _ _ => .int _) fun x y Q h => by
  unfold dPow at h
  split at h
  · exact ⟨_, _, rfl, rfl, h.1, h.2⟩
  · exact h.elim
theorem O_le : OpT B X (compareOp .LtE) dLe := .int2 (rI_of op_le) (e := fun i j => .bl (decide (i ≤ j))) (fun _ _ _ => .bl _) fun x y Q h => by
  unfold dLe at h
  split at h
  · exact ⟨_, _, rfl, rfl, trivial, h⟩
  · exact h.elim
theorem O_gt : OpT B X (compareOp .Gt) dGt := .int2 (rI_of op_gt) (e := fun i j => .bl (decide (j < i))) (fun _ _ _ => .bl _) fun x y Q h => by
  unfold dGt at h
  split at h
  · exact ⟨_, _, rfl, rfl, trivial, h⟩
  · exact h.elim
theorem O_ge : OpT B X (compareOp .GtE) dGe := .int2 (rI_of op_ge) (e := fun i j => .bl (decide (j ≤ i))) (fun _ _ _ => .bl _) fun x y Q h => by
  unfold dGe at h
  split at h
  · exact ⟨_, _, rfl, rfl, trivial, h⟩
  · exact h.elim
theorem O_lt : OpT B X (compareOp .Lt) dLt := .mk fun pins s σ H x y v u Q g t σ' dx dy P I rx ry rl r1 r2 m k => by
  unfold dLt at m
  split at m
  · exact op_lt pins s σ H x y v u Q I rx ry ⟨_, _, r1.int_inv, r2.int_inv, k _ m g _ H sRefl rl (Rep.bl _)⟩
  · exact op_lt_str pins s σ H x y v u Q I rx ry ⟨_, _, r1.str_inv, r2.str_inv, k _ m g _ H sRefl rl (Rep.bl _)⟩
  · exact m.elim
theorem Rep.isNon {K : PySem.W.Frag} {F : Hp} {d : D} {v : V} (r : Rep K F d v) : d.isNon = decide (v = .non) := by cases r <;> rfl
theorem RepH.isNon {K : PySem.W.Frag} {F H : Hp} {d : D} {v : V} (r : RepH K F H d v) : d.isNon = decide (v = .non) := by
  cases r with
  | rep r => exact r.isNon
  | _ => rfl
theorem O_is : OpT B X (compareOp .Is) dIs := .mk fun pins s σ H x y v u Q g t σ' dx dy P I rx ry rl r1 r2 m k => by
  unfold dIs at m
  split at m
  · refine op_isN pins s σ H x y v u Q I rx ry ⟨r2.non_inv, ?_⟩
    rw [← r1.isNon]
    exact k _ m g _ H sRefl rl (Rep.bl _)
  · exact m.elim
theorem O_eq (hu : X.A.units + 66 < cLine) : OpT B X (compareOp .Eq) dEq := .mk fun pins s σ H x y v u Q g t σ' dx dy P I rx ry rl r1 r2 m k => by
  obtain ⟨⟨p1, p2, p3⟩, m⟩ := m
  obtain ⟨as, e1⟩ := Dp.reads I _ x v (r1.dp rl.sub p1) rx
  obtain ⟨bs, e2⟩ := Dp.reads I _ y u (r2.dp rl.sub p2) ry
  exact SeqAt.eq_plain e1 e2 (D.py_plain _ p1) (D.py_plain _ p2) (by omega) ⟨.bl _, H, I, rfl, k _ m g _ H sRefl rl (Rep.bl _)⟩
theorem O_ne (hu : X.A.units + 66 < cLine) : OpT B X (compareOp .NotEq) dNe := .mk fun pins s σ H x y v u Q g t σ' dx dy P I rx ry rl r1 r2 m k => by
  obtain ⟨⟨p1, p2, p3⟩, m⟩ := m
  obtain ⟨as, e1⟩ := Dp.reads I _ x v (r1.dp rl.sub p1) rx
  obtain ⟨bs, e2⟩ := Dp.reads I _ y u (r2.dp rl.sub p2) ry
  exact SeqAt.ne_plain e1 e2 (D.py_plain _ p1) (D.py_plain _ p2) (by omega) ⟨.bl _, H, I, rfl, k _ m g _ H sRefl rl (Rep.bl _)⟩
/-- a result that is a new object of nobody's -/
theorem newOwn {K : PySem.W.Frag} {g : Gh} {t : TSt} {σ : L2.St} {H : Hp} {p : Addr} {ds : List D} {vs : List V} (rl : Rel K B g t σ H) (hp : H p = none) (r : Reps K g.F ds vs) : Rel K B g t σ (upd H p (.lst vs)) ∧ ResRel K B g (upd H p (.lst vs)) (.own (.lst ds)) (.ref p) := by
  obtain ⟨r1, o1, o2, o3⟩ := rl.newO (o := .lst vs) hp
  exact ⟨r1, p, [p], rfl, .lst upd_same r, by simp, fun b hb => by rw [List.mem_singleton.mp hb]; exact ⟨o1, o2, o3⟩⟩
theorem newTup {K : PySem.W.Frag} {g : Gh} {t : TSt} {σ : L2.St} {H : Hp} {p : Addr} {ds : List D} {vs : List V} (rl : Rel K B g t σ H) (hp : H p = none) (r : Reps K g.F ds vs) : ∃ g', Same g.F g'.F ∧ Rel K B g' t σ (upd H p (.tup vs)) ∧ Rep K g'.F (.tup ds) (.ref p) := by
  obtain ⟨s, r1⟩ := rl.newF (o := .tup vs) hp
  exact ⟨_, s, r1, .tup upd_same (r.up s)⟩
theorem Reps.nil_iff {K : PySem.W.Frag} {F : Hp} {ds : List D} {vs : List V} (r : Reps K F ds vs) : vs = [] ↔ ds = [] := by cases r <;> simp
theorem O_add : OpT B X (binaryOp .Add) dAdd := .mk fun pins s σ H x y v u Q g t σ' dx dy P I rx ry rl r1 r2 m k => by
  unfold dAdd at m
  split at m
  · exact op_add pins s σ H x y v u Q I rx ry ⟨_, _, r1.int_inv, r2.int_inv, k _ m g _ H sRefl rl (Rep.int _)⟩
  · obtain ⟨a, vs, rfl, ha, ra⟩ := r1.tup_inv rl.sub
    obtain ⟨b, ws, rfl, hb, rb⟩ := r2.tup_inv rl.sub
    refine op_catA pins s σ H _ _ v u Q I rx ry ⟨a, b, vs, ws, rfl, rfl, .of ha, .of hb, by rw [ra.length, rb.length]; exact m.1, fun z => ?_, fun z1 z2 => ?_, fun z1 z2 p hp => ?_⟩
    · cases ra with
      | nil =>
        cases r2 with
        | rep r2 => exact k _ m.2 g _ H sRefl rl r2
      | cons _ _ => cases z
    · cases rb with
      | nil =>
        cases r1 with
        | rep r1 => exact k _ m.2 g _ H sRefl rl (by rw [List.append_nil]; exact r1)
      | cons _ _ => cases z2
    · obtain ⟨g', s', rl', rr⟩ := newTup rl hp (ra.append rb)
      exact k _ m.2 g' _ _ s' rl' rr
  · obtain ⟨a, vs, rfl, ha, ra⟩ := r1.lst_inv rl.sub
    obtain ⟨b, ws, rfl, hb, rb⟩ := r2.lst_inv rl.sub
    refine op_cat pins s σ H _ _ v u Q I rx ry ⟨a, b, vs, ws, rfl, rfl, ha, hb, by rw [ra.length, rb.length]; exact m.1, fun p hp => ?_⟩
    obtain ⟨rl', rr⟩ := newOwn rl hp (ra.append rb)
    exact k _ m.2 g _ _ sRefl rl' rr
  · exact op_add_str pins s σ H x y v u Q I rx ry ⟨_, _, r1.str_inv, r2.str_inv, m.1, k _ m.2 g _ H sRefl rl (Rep.str _)⟩
  · exact m.elim
theorem Reps.rep {K : PySem.W.Frag} {F : Hp} {ds : List D} {vs : List V} (r : Reps K F ds vs) : ∀ k : Nat, Reps K F (List.replicate k ds).flatten (List.replicate k vs).flatten
  | 0 => .nil
  | k + 1 => by
    rw [List.replicate_succ, List.replicate_succ, List.flatten_cons, List.flatten_cons]
    exact r.append (Reps.rep r k)
theorem O_mul : OpT B X (binaryOp .Mult) dMul := .mk fun pins s σ H x y v u Q g t σ' dx dy P I rx ry rl r1 r2 m k => by
  unfold dMul at m
  split at m
  · exact op_mulW pins s σ H x y v u Q I rx ry ⟨_, _, r1.int_inv, r2.int_inv, wide_mul m.1.1 m.1.2 (by decide) (by decide) (by decide), k _ m.2 g _ H sRefl rl (Rep.int _)⟩
  · obtain ⟨a, vs, rfl, ha, ra⟩ := r1.lst_inv rl.sub
    obtain ⟨⟨h1, h2⟩, h3, m⟩ := m
    refine op_rep pins s σ H _ _ v u Q I rx ry ⟨a, _, vs, rfl, r2.int_inv, ha, by omega, by omega, by rw [ra.length]; exact h3, fun p hp => ?_⟩
    obtain ⟨rl', rr⟩ := newOwn rl hp (ra.rep _)
    exact k _ m g _ _ sRefl rl' rr
  · exact m.elim
/-- name += e -/
theorem I_add : OpT B X (inplaceOp .Add) iAdd := .mk fun pins s σ H x y v u Q g t σ' dx dy P I rx ry rl r1 r2 m k => by
  unfold iAdd at m
  split at m
  · exact iop_add pins s σ H x y v u Q I rx ry ⟨_, _, r1.int_inv, r2.int_inv, k _ m g _ H sRefl rl (Rep.int _)⟩
  · exact m.elim
theorem I_mul : OpT B X (inplaceOp .Mult) iMul := .mk fun pins s σ H x y v u Q g t σ' dx dy P I rx ry rl r1 r2 m k => by
  unfold iMul at m
  split at m
  · exact iop_mul pins s σ H x y v u Q I rx ry ⟨_, _, r1.int_inv, r2.int_inv, m.1, k _ m.2 g _ H sRefl rl (Rep.int _)⟩
  · exact m.elim
/-- -e -/
def wNeg (a : WE) : WE := fun W t Q => a W t fun r t1 => match r with
  | .v (.int i) => Q (.v (.int (-i))) t1
  | _ => False
theorem T_neg {a : Expr} {wa : WE} {pos : Pos} (ha : PET B X a wa) : PET B X (.UnaryOp .USub a pos) (wNeg wa) := by
  refine fun W tk => PE.imp (pe_un un_neg (ha W tk)) fun σ H Q h => ?_
  obtain ⟨g, t, P, rl, m, k⟩ := h
  refine ⟨g, t, _, rl, m, fun r1 t1 m1 g1 v1 H1 s1 rl1 rr1 => ?_⟩
  split at m1
  · cases (show Rep X.K g1.F (.int _) v1 from rr1)
    exact ⟨_, rfl, k _ _ m1 g1 _ H1 s1 rl1 (Rep.int _)⟩
  · exact m1.elim
def wTup (a : WA) : WE := fun W t Q => a W t fun ds t1 => ds.length ≤ sizeLine ∧ Q (.v (.tup ds)) t1
def wLst (a : WA) : WE := fun W t Q => a W t fun ds t1 => ds.length ≤ sizeLine ∧ Q (.own (.lst ds)) t1
theorem T_tup {es : List Expr} {wa : WA} {x1 : Nat} {pos : Pos} (h : PAT B X es wa) : PET B X (.Tuple es x1 pos) (wTup wa) := fun W tk => PE.imp (pe_tup (h W tk)) fun σ H Q q => by
  obtain ⟨g, t, P, rl, m, k⟩ := q
  refine ⟨g, t, _, rl, m, fun ds t1 m1 g1 vs H1 s1 rl1 rs1 => ⟨by rw [rs1.length]; exact m1.1, fun p hp => ?_⟩⟩
  obtain ⟨g', s', rl', rr⟩ := newTup rl1 hp rs1
  exact k _ _ m1.2 g' _ _ (s1.trans s') rl' rr
theorem T_lst {es : List Expr} {wa : WA} {pos : Pos} (h : PAT B X es wa) : PET B X (.List es pos) (wLst wa) := fun W tk => PE.imp (pe_lst (h W tk)) fun σ H Q q => by
  obtain ⟨g, t, P, rl, m, k⟩ := q
  refine ⟨g, t, _, rl, m, fun ds t1 m1 g1 vs H1 s1 rl1 rs1 => ⟨by rw [rs1.length]; exact m1.1, fun p hp => ?_⟩⟩
  obtain ⟨rl', rr⟩ := newOwn rl1 hp rs1
  exact k _ _ m1.2 g1 _ _ s1 rl' rr
end
end TL
namespace TL
open PySem PySem.Spec PyProof.Rows L2
inductive RepHs (K : PySem.W.Frag) (F H : Hp) : List D → List V → Prop
  | nil : RepHs K F H [] []
  | cons {d : D} {v : V} {ds : List D} {vs : List V} : RepH K F H d v → RepHs K F H ds vs → RepHs K F H (d :: ds) (v :: vs)
theorem Reps.toH {K : PySem.W.Frag} {F H : Hp} : ∀ {ds : List D} {vs : List V}, Reps K F ds vs → RepHs K F H ds vs
  | _, _, .nil => .nil
  | _, _, .cons a b => .cons (.rep a) b.toH
theorem RepHs.one {K : PySem.W.Frag} {F H : Hp} {d : D} {vs : List V} (h : RepHs K F H [d] vs) : ∃ v, vs = [v] ∧ RepH K F H d v := by
  cases h with
  | cons a b => cases b; exact ⟨_, rfl, a⟩
theorem RepHs.two {K : PySem.W.Frag} {F H : Hp} {d e : D} {vs : List V} (h : RepHs K F H [d, e] vs) : ∃ v u, vs = [v, u] ∧ RepH K F H d v ∧ RepH K F H e u := by
  cases h with
  | cons a b => obtain ⟨u, rfl, r⟩ := b.one; exact ⟨_, _, rfl, a, r⟩
theorem RepK.length {K : PySem.W.Frag} {F : Hp} : ∀ {ds : List (D × D)} {vs : List (Key × V)}, RepK K F ds vs → vs.length = ds.length
  | _, _, .nil => rfl
  | _, _, .cons _ r => congrArg (· + 1) (RepK.length r)
theorem RepT.length {K : PySem.W.Frag} {F : Hp} : ∀ {ds : List (D × D)} {vs : List (List Key × V)}, RepT K F ds vs → vs.length = ds.length
  | _, _, .nil => rfl
  | _, _, .cons _ r => congrArg (· + 1) (RepT.length r)
abbrev OpN := List D → (R → Prop) → Prop
/-- a call of a built-in, on data -/
def CallT (B : Base) (X : Cx) (f : Value) (o : OpN) : Prop :=
  CallR X f fun xs H Q => ∃ g t σ ds P, Rel X.K B g t σ H ∧ RepHs X.K g.F H ds xs ∧ o ds P ∧ ∀ r, P r → ∀ g' v H', Same g.F g'.F → Rel X.K B g' t σ H' → ResRel X.K B g' H' r v → Q v H'
def wBi (o : OpN) (a : WA) : WE := fun W t Q => a W t fun ds t1 => o ds fun r => Q r t1
/-- .. of one thing read where it stands -/
def wBiK (o : OpN) (i : Nat) : WE := fun _ t Q => pk t i fun d => o [d] fun r => Q r t
section
variable {B : Base} {X : Cx} {e : Expr} {es : List Expr} {wa : WA} {o : OpN} {x id T : String} {p pos : Pos}
theorem bi_of {W : TX} {f : Value} {σ : L2.St} {H : Hp} {Q : VK} (h : tOf X.K B (wBi o wa W) σ H Q) :
    tCB (fun xs H Q => ∃ g t σ ds P, Rel X.K B g t σ H ∧ RepHs X.K g.F H ds xs ∧ o ds P ∧ ∀ r, P r → ∀ g' v H', Same g.F g'.F → Rel X.K B g' t σ H' → ResRel X.K B g' H' r v → Q v H') (taOf X.K B (wa W)) σ H Q := by
  obtain ⟨g, t, P, rl, m, k⟩ := h
  refine ⟨g, t, _, rl, m, fun ds t1 m1 g1 vs H1 s1 rl1 rs1 => ?_⟩
  exact ⟨g1, t1, σ, ds, _, rl1, rs1.toH, m1, fun r m2 g2 v H2 s2 rl2 rr2 => k _ _ m2 g2 v H2 (s1.trans s2) rl2 rr2⟩
theorem T_bi {nm : Str} (ho : CallT B X (.builtin id) o) (hm : X.mg nm = none) (ha : PAT B X (e :: es) wa) (hv : bootBuiltins nm = some (.builtin id) := by decide +kernel) (hg : Gl X nm := by rfl) (hn : nm ≠ "__name__" := by decide) (hdb : (nm == ("__debug__" : Str)) = false := by rfl)
    (he : starEach (e :: es) X.env = (false, eval e X.env) :: starEach es X.env := by rfl) (hpl : (backTo pos (starEach es X.env)).any (·.1) = false := by rfl) : PET B X (.Call (.Name nm p) (e :: es) [] pos) (wBi o wa) :=
  fun W tk => PE.imp (pe_callB ho hg hm hv (ha W tk) hn hdb he hpl) fun σ H Q h => bi_of (f := .builtin id) h
theorem T_bty {nm : Str} (ho : CallT B X (.type T) o) (hm : X.mg nm = none) (ha : PAT B X (e :: es) wa) (hv : bootBuiltins nm = some (.type T) := by decide +kernel) (hg : Gl X nm := by rfl) (hn : nm ≠ "__name__" := by decide) (hdb : (nm == ("__debug__" : Str)) = false := by rfl)
    (he : starEach (e :: es) X.env = (false, eval e X.env) :: starEach es X.env := by rfl) (hpl : (backTo pos (starEach es X.env)).any (·.1) = false := by rfl) : PET B X (.Call (.Name nm p) (e :: es) [] pos) (wBi o wa) :=
  fun W tk => PE.imp (pe_callTy ho hg hm hv (ha W tk) hn hdb he hpl) fun σ H Q h => bi_of (f := .type T) h
theorem biK_of {W : TX} {i : Nat} {σ : L2.St} {H : Hp} {Q : VK} (h : tOf X.K B (wBiK o i W) σ H Q) :
    tCB (fun xs H Q => ∃ g t σ ds P, Rel X.K B g t σ H ∧ RepHs X.K g.F H ds xs ∧ o ds P ∧ ∀ r, P r → ∀ g' v H', Same g.F g'.F → Rel X.K B g' t σ H' → ResRel X.K B g' H' r v → Q v H') (tCons (tVar i) tNil) σ H Q := by
  obtain ⟨g, t, P, rl, m, k⟩ := h
  have m' : pk t i fun d => o [d] fun r => P r t := m
  unfold pk at m'
  split at m'
  · rename_i d hd
    obtain ⟨v, hv, rv⟩ := peek_at rl hd
    exact ⟨v, hv, g, t, σ, [d], _, rl, .cons rv .nil, m', fun r m2 g2 v H2 s2 rl2 rr2 => k _ _ m2 g2 v H2 s2 rl2 rr2⟩
  · exact m'.elim
theorem T_biK (i : Nat) {nm y : Str} {pos' : Pos} (ho : CallT B X (.builtin id) o) (hm : X.mg nm = none) (hv : bootBuiltins nm = some (.builtin id) := by decide +kernel) (hg : Gl X nm := by rfl) (hn : nm ≠ "__name__" := by decide) (hdb : (nm == ("__debug__" : Str)) = false := by rfl)
    (hN : X.N[i]? = some y := by rfl) (hy : Vis X.env.scope y := by first | exact Or.inl rfl | exact Or.inr (Or.inl rfl) | exact Or.inr (Or.inr rfl)) (hd : (y == ("__debug__" : Str)) = false := by rfl) (hcd : (y == ("__classdict__" : Str)) = false := by rfl)
    (he : starEach [.Name y pos'] X.env = (false, eval (.Name y pos') X.env) :: starEach [] X.env := by rfl) : PET B X (.Call (.Name nm p) [.Name y pos'] [] pos) (wBiK o i) :=
  fun W tk => PE.imp (pe_callB ho hg hm hv (pa_cons (pe_var hN hy hd hcd) pa_nil he) hn hdb he rfl) fun σ H Q h => biK_of h
theorem T_btyK (i : Nat) {nm y : Str} {pos' : Pos} (ho : CallT B X (.type T) o) (hm : X.mg nm = none) (hv : bootBuiltins nm = some (.type T) := by decide +kernel) (hg : Gl X nm := by rfl) (hn : nm ≠ "__name__" := by decide) (hdb : (nm == ("__debug__" : Str)) = false := by rfl)
    (hN : X.N[i]? = some y := by rfl) (hy : Vis X.env.scope y := by first | exact Or.inl rfl | exact Or.inr (Or.inl rfl) | exact Or.inr (Or.inr rfl)) (hd : (y == ("__debug__" : Str)) = false := by rfl) (hcd : (y == ("__classdict__" : Str)) = false := by rfl)
    (he : starEach [.Name y pos'] X.env = (false, eval (.Name y pos') X.env) :: starEach [] X.env := by rfl) : PET B X (.Call (.Name nm p) [.Name y pos'] [] pos) (wBiK o i) :=
  fun W tk => PE.imp (pe_callTy ho hg hm hv (pa_cons (pe_var hN hy hd hcd) pa_nil he) hn hdb he rfl) fun σ H Q h => biK_of h
/-- a built-in class as a value -/
theorem T_type {nm : Str} (n : String) (hm : X.mg nm = none) (hv : bootBuiltins nm = some (.type n) := by decide +kernel) (hg : Gl X nm := by rfl) (hn : nm ≠ "__name__" := by decide) (hdb : (nm == ("__debug__" : Str)) = false := by rfl) : PET B X (.Name nm pos) (wC (.ty n)) :=
  T_c (pe_bltn hg hm hv (show RelV (.ty n) (.type n) from rfl) hn hdb) fun _ => .ty n
theorem CallT.mk {f : Value} (h : ∀ (pins : List (Addr × Obj)) (s : Shared) (σ : L2.St) (H : Hp) (xs : List V) (us : List Value) (Q : VK) (g : Gh) (t : TSt) (σ' : L2.St) (ds : List D) (P : R → Prop), Inv X pins σ H s → Vals xs us →
    Rel X.K B g t σ' H → RepHs X.K g.F H ds xs → o ds P → (∀ r, P r → ∀ g' v H', Same g.F g'.F → Rel X.K B g' t σ' H' → ResRel X.K B g' H' r v → Q v H') → wpAny (model X.prog X.w) X.A (call f us) (EP X pins σ Q) X.xe s) : CallT B X f o := by
  intro pins s σ H xs us Q I rs hh
  obtain ⟨g, t, σ', ds, P, rl, r1, m, k⟩ := hh
  exact h pins s σ H xs us Q g t σ' ds P I rs rl r1 m k
end
def D.tyN : D → Option String
  | .non => some "NoneType"
  | .bl _ => some "bool"
  | .int _ => some "int"
  | .str _ => some "str"
  | .tup _ => some "tuple"
  | .lst _ => some "list"
  | .dct _ _ => some "dict"
  | _ => none
def isiD (d : D) (n : String) : Option Bool := d.tyN.bind fun m => kitB m n
def nIsi : OpN
  | [d, .ty n], Q => match isiD d n with
    | some b => Q (.v (.bl b))
    | none => False
  | _, _ => False
def nLen : OpN
  | [.tup l], Q => Q (.v (.int l.length))
  | [.lst l], Q => Q (.v (.int l.length))
  | [.scr l], Q => Q (.v (.int l.length))
  | [.str x], Q => x.length ≤ sizeLine ∧ Q (.v (.int x.length))
  | [.dct .k l], Q => Q (.v (.int l.length))
  | [.dct .t l], Q => Q (.v (.int l.length))
  | _, _ => False
def nInt : OpN
  | [.int i], Q => Q (.v (.int i))
  | [.bl b], Q => Q (.v (.int (if b then 1 else 0)))
  | _, _ => False
def nAbs : OpN
  | [.int i], Q => Q (.v (.int (if i < 0 then -i else i)))
  | _, _ => False
def nMax2 : OpN
  | [.int i, .int j], Q => Q (.v (.int (if j > i then j else i)))
  | _, _ => False
def nMin2 : OpN
  | [.int i, .int j], Q => Q (.v (.int (if j < i then j else i)))
  | _, _ => False
/-- the whole numbers, the truths of a list of such -/
def D.ints : List D → Option (List Int)
  | [] => some []
  | .int i :: ds => (D.ints ds).map (i :: ·)
  | _ => none
def D.bls : List D → Option (List Bool)
  | [] => some []
  | .bl i :: ds => (D.bls ds).map (i :: ·)
  | _ => none
def onInts (l : List D) (k : List Int → Prop) : Prop := match D.ints l with
  | some ns => k ns
  | none => False
def onBls (l : List D) (k : List Bool → Prop) : Prop := match D.bls l with
  | some ns => k ns
  | none => False
def nSum : OpN
  | [.lst l], Q => onInts l fun ns => Q (.v (.int ns.sum))
  | _, _ => False
def nAll : OpN
  | [.lst l], Q => onBls l fun bs => Q (.v (.bl (bs.all id)))
  | _, _ => False
def nAny : OpN
  | [.lst l], Q => onBls l fun bs => Q (.v (.bl (bs.any id)))
  | _, _ => False
def nTuple : OpN
  | [.lst l], Q => Q (.v (.tup l))
  | [.tup l], Q => Q (.v (.tup l))
  | _, _ => False
def nList : OpN
  | [.lst l], Q => Q (.own (.lst l))
  | [.tup l], Q => Q (.own (.lst l))
  | [.scr l], Q => Q (.own (.lst l))
  | _, _ => False
theorem ints_some : ∀ {l : List D} {ns : List Int}, D.ints l = some ns → l = ns.map D.int
  | [], ns, h => by cases h; rfl
  | d :: l, ns, h => by
    cases d with
    | int i =>
      have h' : (D.ints l).map (i :: ·) = some ns := h
      cases q : D.ints l with
      | none => rw [q] at h'; cases h'
      | some r => rw [q] at h'; cases h'; rw [ints_some q]; rfl
    | _ => cases h
theorem ints_map : ∀ ns : List Int, D.ints (ns.map D.int) = some ns
  | [] => rfl
  | n :: ns => by show (D.ints (ns.map D.int)).map (n :: ·) = some (n :: ns); rw [ints_map ns]; rfl
theorem bls_some : ∀ {l : List D} {ns : List Bool}, D.bls l = some ns → l = ns.map D.bl
  | [], ns, h => by cases h; rfl
  | d :: l, ns, h => by
    cases d with
    | bl i =>
      have h' : (D.bls l).map (i :: ·) = some ns := h
      cases q : D.bls l with
      | none => rw [q] at h'; cases h'
      | some r => rw [q] at h'; cases h'; rw [bls_some q]; rfl
    | _ => cases h
theorem bls_map : ∀ ns : List Bool, D.bls (ns.map D.bl) = some ns
  | [] => rfl
  | n :: ns => by show (D.bls (ns.map D.bl)).map (n :: ·) = some (n :: ns); rw [bls_map ns]; rfl
theorem Reps.ints {K : PySem.W.Frag} {F : Hp} : ∀ {ns : List Int} {vs : List V}, Reps K F (ns.map D.int) vs → vs = ns.map V.int
  | [], _, h => by cases h; rfl
  | n :: ns, _, h => by
    cases h with
    | cons a b => cases a; rw [Reps.ints b]; rfl
theorem Reps.bls {K : PySem.W.Frag} {F : Hp} : ∀ {ns : List Bool} {vs : List V}, Reps K F (ns.map D.bl) vs → vs = ns.map V.bl
  | [], _, h => by cases h; rfl
  | n :: ns, _, h => by
    cases h with
    | cons a b => cases a; rw [Reps.bls b]; rfl
section
variable {B : Base} {X : Cx}
theorem N_len : CallT B X (.builtin "len") nLen := .mk fun pins s σ H xs us Q g t σ' ds P I rs rl r m k => by
  unfold nLen at m
  split at m
  · obtain ⟨v, rfl, r1⟩ := r.one
    obtain ⟨a, vs, rfl, ha, ra⟩ := r1.tup_inv rl.sub
    exact call_len_seq pins s σ H _ us Q I rs ⟨a, vs, rfl, .inr (.of ha), by rw [ra.length]; exact k _ m g _ H sRefl rl (Rep.int _)⟩
  · obtain ⟨v, rfl, r1⟩ := r.one
    obtain ⟨a, vs, rfl, ha, ra⟩ := r1.lst_inv rl.sub
    exact call_len_seq pins s σ H _ us Q I rs ⟨a, vs, rfl, .inl (.of ha), by rw [ra.length]; exact k _ m g _ H sRefl rl (Rep.int _)⟩
  · obtain ⟨v, rfl, r1⟩ := r.one
    obtain ⟨a, vs, rfl, ha, ra⟩ := r1.scr_inv rl.sub
    exact call_len_seq pins s σ H _ us Q I rs ⟨a, vs, rfl, .inl ha, by rw [ra.length]; exact k _ m g _ H sRefl rl (Rep.int _)⟩
  · obtain ⟨v, rfl, r1⟩ := r.one
    cases r1.str_inv
    exact call_len_str pins s σ H _ us Q I rs ⟨_, rfl, m.1, k _ m.2 g _ H sRefl rl (Rep.int _)⟩
  · obtain ⟨v, rfl, r1⟩ := r.one
    obtain ⟨a, kvs, rfl, ha, ra⟩ := r1.dK_inv rl.sub
    exact call_lenD pins s σ H _ us Q I rs ⟨a, kvs, rfl, ha, by rw [ra.length]; exact k _ m g _ H sRefl rl (Rep.int _)⟩
  · obtain ⟨v, rfl, r1⟩ := r.one
    obtain ⟨a, kvs, rfl, ha, ra⟩ := r1.dT_inv rl.sub
    exact call_len_dT pins s σ H _ us Q I rs ⟨a, kvs, rfl, ha, by rw [ra.length]; exact k _ m g _ H sRefl rl (Rep.int _)⟩
  · exact m.elim
theorem N_int : CallT B X (.type "int") nInt := .mk fun pins s σ H xs us Q g t σ' ds P I rs rl r m k => by
  unfold nInt at m
  split at m
  · obtain ⟨v, rfl, r1⟩ := r.one
    cases r1.int_inv
    exact call_int1 pins s σ H _ us Q I rs (.inl ⟨_, rfl, k _ m g _ H sRefl rl (Rep.int _)⟩)
  · obtain ⟨v, rfl, r1⟩ := r.one
    cases r1.bl_inv
    exact call_int1 pins s σ H _ us Q I rs (.inr ⟨_, rfl, k _ m g _ H sRefl rl (Rep.int _)⟩)
  · exact m.elim
theorem N_max2 (hc : X.calm = true := by rfl) : CallT B X (.builtin "max") nMax2 := .mk fun pins s σ H xs us Q g t σ' ds P I rs rl r m k => by
  unfold nMax2 at m
  split at m
  · obtain ⟨v, u, rfl, r1, r2⟩ := r.two
    cases r1.int_inv
    cases r2.int_inv
    exact call_max2 hc pins s σ H _ us Q I rs ⟨_, _, rfl, k _ m g _ H sRefl rl (Rep.int _)⟩
  · exact m.elim
theorem N_min2 (hc : X.calm = true := by rfl) : CallT B X (.builtin "min") nMin2 := .mk fun pins s σ H xs us Q g t σ' ds P I rs rl r m k => by
  unfold nMin2 at m
  split at m
  · obtain ⟨v, u, rfl, r1, r2⟩ := r.two
    cases r1.int_inv
    cases r2.int_inv
    exact call_min2 hc pins s σ H _ us Q I rs ⟨_, _, rfl, k _ m g _ H sRefl rl (Rep.int _)⟩
  · exact m.elim
theorem N_all (hc : X.calm = true := by rfl) : CallT B X (.builtin "all") nAll := .mk fun pins s σ H xs us Q g t σ' ds P I rs rl r m k => by
  unfold nAll at m
  split at m
  · obtain ⟨v, rfl, r1⟩ := r.one
    obtain ⟨a, vs, rfl, ha, ra⟩ := r1.lst_inv rl.sub
    unfold onBls at m
    split at m
    · rename_i ns hn
      rw [bls_some hn] at ra
      rw [ra.bls] at ha
      exact cr_all hc pins s σ H _ us Q I rs ⟨a, ns, rfl, .of ha, k _ m g _ H sRefl rl (Rep.bl _)⟩
    · exact m.elim
  · exact m.elim
theorem N_tuple : CallT B X (.type "tuple") nTuple := .mk fun pins s σ H xs us Q g t σ' ds P I rs rl r m k => by
  unfold nTuple at m
  split at m
  · obtain ⟨v, rfl, r1⟩ := r.one
    obtain ⟨a, vs, rfl, ha, ra⟩ := r1.lst_inv rl.sub
    refine call_tuple_of pins s σ H _ us Q I rs ⟨a, vs, rfl, .inl ⟨.of ha, fun p hp => ?_⟩⟩
    obtain ⟨g', s', rl', rr⟩ := newTup rl hp ra
    exact k _ m g' _ _ s' rl' rr
  · obtain ⟨v, rfl, r1⟩ := r.one
    obtain ⟨a, vs, rfl, ha, ra⟩ := r1.tup_inv rl.sub
    refine call_tuple_of pins s σ H _ us Q I rs ⟨a, vs, rfl, .inr ⟨.of ha, ?_⟩⟩
    cases r1 with
    | rep r1 => exact k _ m g _ H sRefl rl r1
  · exact m.elim
theorem N_list : CallT B X (.type "list") nList := .mk fun pins s σ H xs us Q g t σ' ds P I rs rl r m k => by
  unfold nList at m
  split at m
  · obtain ⟨v, rfl, r1⟩ := r.one
    obtain ⟨a, vs, rfl, ha, ra⟩ := r1.lst_inv rl.sub
    refine call_list_of pins s σ H _ us Q I rs ⟨a, vs, rfl, .inl (.of ha), fun p hp => ?_⟩
    obtain ⟨rl', rr⟩ := newOwn rl hp ra
    exact k _ m g _ _ sRefl rl' rr
  · obtain ⟨v, rfl, r1⟩ := r.one
    obtain ⟨a, vs, rfl, ha, ra⟩ := r1.tup_inv rl.sub
    refine call_list_of pins s σ H _ us Q I rs ⟨a, vs, rfl, .inr (.of ha), fun p hp => ?_⟩
    obtain ⟨rl', rr⟩ := newOwn rl hp ra
    exact k _ m g _ _ sRefl rl' rr
  · obtain ⟨v, rfl, r1⟩ := r.one
    obtain ⟨a, vs, rfl, ha, ra⟩ := r1.scr_inv rl.sub
    refine call_list_of pins s σ H _ us Q I rs ⟨a, vs, rfl, .inl ha, fun p hp => ?_⟩
    obtain ⟨rl', rr⟩ := newOwn rl hp ra
    exact k _ m g _ _ sRefl rl' rr
  · exact m.elim
end
end TL
namespace TL
open PySem PySem.Spec PyProof.Rows L2
def D.key? : D → Option Key
  | .int i => some (.inl i)
  | .str x => some (.inr x)
  | _ => none
def D.keys? : List D → Option (List Key)
  | [] => some []
  | d :: ds => match d.key? with
    | some k => (D.keys? ds).map (k :: ·)
    | none => none
/-- the key of a dict of this kind -/
def D.isKey : KK → D → Bool
  | .k, d => d.key?.isSome
  | .t, .tup l => (D.keys? l).isSome
  | .t, _ => false
/-- one key is the other -/
def keq (a b : D) : Bool := match a, b with
  | .int i, .int j => decide (i = j)
  | .str x, .str y => decide (x = y)
  | .tup l, .tup m => decide (D.keys? l = D.keys? m)
  | _, _ => false
def lookD (l : List (D × D)) (k : D) : Option D := (l.find? fun p => keq p.1 k).map (·.2)
def putD (l : List (D × D)) (k v : D) : List (D × D) := if (l.any fun p => keq p.1 k) = true then l.map (fun p => if keq p.1 k = true then (p.1, v) else p) else l ++ [(k, v)]
theorem key_some {d : D} {k : Key} (h : d.key? = some k) : d = kD k := by
  cases d <;> cases h <;> rfl
theorem key_kD (k : Key) : (kD k).key? = some k := by cases k <;> rfl
theorem keys_some : ∀ {l : List D} {ks : List Key}, D.keys? l = some ks → l = ks.map kD
  | [], ks, h => by cases h; rfl
  | d :: l, ks, h => by
    unfold D.keys? at h
    split at h
    · rename_i k hk
      cases q : D.keys? l with
      | none => rw [q] at h; cases h
      | some r => rw [q] at h; cases h; rw [key_some hk, keys_some q]; rfl
    · cases h
theorem keys_kD : ∀ ks : List Key, D.keys? (ks.map kD) = some ks
  | [] => rfl
  | k :: ks => by
    show (match (kD k).key? with | some k => (D.keys? (ks.map kD)).map (k :: ·) | none => none) = some (k :: ks)
    rw [key_kD, keys_kD ks]; rfl
theorem keq_kD (a b : Key) : keq (kD a) (kD b) = decide (a = b) := by
  cases a with
  | inl i => cases b with
    | inl j => exact (decide_eq_decide.mpr ⟨fun e => by rw [e], fun e => Sum.inl.inj e⟩)
    | inr y => rfl
  | inr x => cases b with
    | inl j => rfl
    | inr y => exact (decide_eq_decide.mpr ⟨fun e => by rw [e], fun e => Sum.inr.inj e⟩)
theorem keq_kT (a b : List Key) : keq (kT a) (kT b) = decide (a = b) := by
  show decide (D.keys? (a.map kD) = D.keys? (b.map kD)) = _
  rw [keys_kD, keys_kD]
  exact decide_eq_decide.mpr ⟨fun e => Option.some.inj e, fun e => by rw [e]⟩
section
variable {K : PySem.W.Frag} {F H : Hp}
def LookRel (K : PySem.W.Frag) (F : Hp) (o : Option D) (r : Option V) : Prop := (o = none ∧ r = none) ∨ ∃ d v, o = some d ∧ r = some v ∧ Rep K F d v
theorem RepK.look (k : Key) : ∀ {ds : List (D × D)} {kvs : List (Key × V)}, RepK K F ds kvs → LookRel K F (lookD ds (kD k)) (valV kvs k)
  | _, _, .nil => .inl ⟨rfl, rfl⟩
  | _, _, .cons (k := k') (d := d) (v := v) (ds := ds) (vs := vs) h t => by
    have ih := RepK.look k t
    unfold lookD at ih ⊢
    rw [List.find?_cons]
    by_cases e : k' = k
    · rw [keq_kD, decide_eq_true e, valV_pos e]
      exact .inr ⟨d, v, rfl, rfl, h⟩
    · rw [keq_kD, decide_eq_false e, valV_neg e]
      exact ih
theorem RepT.look (k : List Key) : ∀ {ds : List (D × D)} {kvs : List (List Key × V)}, RepT K F ds kvs → LookRel K F (lookD ds (kT k)) (valV kvs k)
  | _, _, .nil => .inl ⟨rfl, rfl⟩
  | _, _, .cons (k := k') (d := d) (v := v) (ds := ds) (vs := vs) h t => by
    have ih := RepT.look k t
    unfold lookD at ih ⊢
    rw [List.find?_cons]
    by_cases e : k' = k
    · rw [keq_kT, decide_eq_true e, valV_pos e]
      exact .inr ⟨d, v, rfl, rfl, h⟩
    · rw [keq_kT, decide_eq_false e, valV_neg e]
      exact ih
theorem RepK.any (k : Key) : ∀ {ds : List (D × D)} {kvs : List (Key × V)}, RepK K F ds kvs → (kvs.any fun p => decide (p.1 = k)) = ds.any fun p => keq p.1 (kD k)
  | _, _, .nil => rfl
  | _, _, .cons h t => by rw [List.any_cons, List.any_cons, keq_kD, RepK.any k t]
theorem RepT.any (k : List Key) : ∀ {ds : List (D × D)} {kvs : List (List Key × V)}, RepT K F ds kvs → (kvs.any fun p => decide (p.1 = k)) = ds.any fun p => keq p.1 (kT k)
  | _, _, .nil => rfl
  | _, _, .cons h t => by rw [List.any_cons, List.any_cons, keq_kT, RepT.any k t]
theorem RepK.mapPut (k : Key) {d : D} {v : V} (r : Rep K F d v) : ∀ {ds : List (D × D)} {kvs : List (Key × V)}, RepK K F ds kvs → RepK K F (ds.map fun p => if keq p.1 (kD k) = true then (p.1, d) else p) (kvs.map fun p => if p.1 = k then (p.1, v) else p)
  | _, _, .nil => .nil
  | _, _, .cons (k := k') h t => by
    rw [List.map_cons, List.map_cons]
    show RepK K F ((if keq (kD k') (kD k) = true then _ else _) :: _) ((if k' = k then _ else _) :: _)
    rw [keq_kD]
    by_cases e : k' = k
    · rw [if_pos (decide_eq_true e), if_pos e]; exact .cons r (RepK.mapPut k r t)
    · rw [if_neg (by simpa using e), if_neg e]; exact .cons h (RepK.mapPut k r t)
theorem RepT.mapPut (k : List Key) {d : D} {v : V} (r : Rep K F d v) : ∀ {ds : List (D × D)} {kvs : List (List Key × V)}, RepT K F ds kvs → RepT K F (ds.map fun p => if keq p.1 (kT k) = true then (p.1, d) else p) (kvs.map fun p => if p.1 = k then (p.1, v) else p)
  | _, _, .nil => .nil
  | _, _, .cons (k := k') h t => by
    rw [List.map_cons, List.map_cons]
    show RepT K F ((if keq (kT k') (kT k) = true then _ else _) :: _) ((if k' = k then _ else _) :: _)
    rw [keq_kT]
    by_cases e : k' = k
    · rw [if_pos (decide_eq_true e), if_pos e]; exact .cons r (RepT.mapPut k r t)
    · rw [if_neg (by simpa using e), if_neg e]; exact .cons h (RepT.mapPut k r t)
theorem RepK.app : ∀ {ds es : List (D × D)} {vs us : List (Key × V)}, RepK K F ds vs → RepK K F es us → RepK K F (ds ++ es) (vs ++ us)
  | _, _, _, _, .nil, h => h
  | _, _, _, _, .cons a b, h => .cons a (RepK.app b h)
theorem RepT.app : ∀ {ds es : List (D × D)} {vs us : List (List Key × V)}, RepT K F ds vs → RepT K F es us → RepT K F (ds ++ es) (vs ++ us)
  | _, _, _, _, .nil, h => h
  | _, _, _, _, .cons a b, h => .cons a (RepT.app b h)
theorem RepK.put (k : Key) {d : D} {v : V} (r : Rep K F d v) {ds : List (D × D)} {kvs : List (Key × V)} (h : RepK K F ds kvs) : RepK K F (putD ds (kD k) d) (putK kvs k v) := by
  unfold putD putK
  rw [h.any k]
  split
  · exact h.mapPut k r
  · exact h.app (.cons r .nil)
theorem RepT.put (k : List Key) {d : D} {v : V} (r : Rep K F d v) {ds : List (D × D)} {kvs : List (List Key × V)} (h : RepT K F ds kvs) : RepT K F (putD ds (kT k) d) (putK kvs k v) := by
  unfold putD putK
  rw [h.any k]
  split
  · exact h.mapPut k r
  · exact h.app (.cons r .nil)
theorem Reps.keys : ∀ {ks : List Key} {vs : List V}, Reps K F (ks.map kD) vs → vs = ks.map kV
  | [], _, h => by cases h; rfl
  | k :: ks, _, h => by
    cases h with
    | cons a b =>
      rw [Reps.keys b]
      cases k with
      | inl i => cases a; rfl
      | inr x => cases a; rfl
theorem Rep.key {k : Key} {v : V} (h : Rep K F (kD k) v) : v = kV k := by
  cases k with
  | inl i => cases h; rfl
  | inr x => cases h; rfl
theorem RepH.key {k : Key} {v : V} (h : RepH K F H (kD k) v) : v = kV k := by
  cases k with
  | inl i => exact h.int_inv
  | inr x => exact h.str_inv
/-- what stands at a key -/
theorem dget_of {kk : KK} {ds : List (D × D)} {a v : V} {dk : D} (s : Same F H) (h : RepH K F H (.dct kk ds) a) (hk : RepH K F H dk v) (hi : D.isKey kk dk = true) : ∃ p o, a = .ref p ∧ DGet H p v o ∧ LookRel K F (lookD ds dk) o := by
  cases kk with
  | k =>
    obtain ⟨p, kvs, rfl, hp, r⟩ := h.dK_inv s
    have hi' : dk.key?.isSome = true := hi
    obtain ⟨k, hk'⟩ := Option.isSome_iff_exists.mp hi'
    rw [key_some hk'] at hk ⊢
    rw [hk.key]
    exact ⟨p, _, rfl, DGet.k hp, r.look k⟩
  | t =>
    obtain ⟨p, kvs, rfl, hp, r⟩ := h.dT_inv s
    cases dk with
    | tup l =>
      have hi' : (D.keys? l).isSome = true := hi
      obtain ⟨ks, hk'⟩ := Option.isSome_iff_exists.mp hi'
      rw [keys_some hk'] at hk ⊢
      obtain ⟨b, vs, rfl, hb, rb⟩ := hk.tup_inv s
      rw [rb.keys] at hb
      exact ⟨p, _, rfl, DGet.t hp hb, r.look ks⟩
    | _ => cases hi
end
end TL
namespace TL
open PySem PySem.Spec PyProof.Rows L2
def dGet : Op2
  | .tup l, .int i, Q => match atI l i with
    | some d => Q (.v d)
    | none => False
  | .lst l, .int i, Q => match atI l i with
    | some d => Q (.v d)
    | none => False
  | .scr l, .int i, Q => match atI l i with
    | some d => Q (.v d)
    | none => False
  | .str x, .int i, Q => x.length ≤ sizeLine ∧ match atI x.cps.toList i with
    | some c => Q (.v (.str ⟨#[c]⟩))
    | none => False
  | .dct kk l, k, Q => D.isKey kk k = true ∧ match lookD l k with
    | some d => Q (.v d)
    | none => False
  | _, _, _ => False
/-- a subscript, on data -/
def IxT (B : Base) (X : Cx) (o : Op2) : Prop :=
  IxR X fun x y H Q => ∃ g t σ dx dy P, Rel X.K B g t σ H ∧ RepH X.K g.F H dx x ∧ RepH X.K g.F H dy y ∧ o dx dy P ∧ ∀ r, P r → ∀ g' v H', Same g.F g'.F → Rel X.K B g' t σ H' → ResRel X.K B g' H' r v → Q v H'
theorem Reps.atI {K : PySem.W.Frag} {F : Hp} {ds : List D} {vs : List V} {i : Int} {d : D} (r : Reps K F ds vs) (h : L2.atI ds i = some d) : ∃ v, L2.atI vs i = some v ∧ Rep K F d v := by
  unfold L2.atI at h ⊢
  rw [r.length]
  cases q : ixN ds.length i with
  | none => rw [q] at h; cases h
  | some j => rw [q] at h; exact r.get h
section
variable {B : Base} {X : Cx} {a b e : Expr} {es : List Expr} {wa wb : WE} {wA : WA} {pos p : Pos}
theorem ix_dct (hu : X.A.units + 1 < cLine) : IxR X (fun x y H Q => ∃ a v, x = .ref a ∧ DGet H a y (some v) ∧ Q v H) := by
  intro value slice pins s σ H x y v u Q I rx ry h hs
  obtain ⟨a, z, rfl, hg, q⟩ := h
  cases rx
  exact tail_any (T := "dict") (dict_typeIs I hg) PySem.F.slot_dict_getitem.lookup (d_getItem hu I hg ry fun w' s3 I3 rw' => ⟨z, H, I3, rw', q⟩) hs
theorem X_get (hu : X.A.units + 1 < cLine) : IxT B X dGet := by
  intro value slice pins s σ H x y v u Q I rx ry hh hs
  obtain ⟨g, t, σ', dx, dy, P, rl, r1, r2, m, k⟩ := hh
  unfold dGet at m
  split at m
  · obtain ⟨a, vs, rfl, ha, ra⟩ := r1.tup_inv rl.sub
    split at m
    · rename_i d hd
      obtain ⟨z, hz, rz⟩ := ra.atI hd
      exact ix_tup value slice pins s σ H _ y v u Q I rx ry ⟨a, vs, _, z, rfl, r2.int_inv, .of ha, hz, k _ m g z H sRefl rl rz⟩ hs
    · exact m.elim
  · obtain ⟨a, vs, rfl, ha, ra⟩ := r1.lst_inv rl.sub
    split at m
    · rename_i d hd
      obtain ⟨z, hz, rz⟩ := ra.atI hd
      exact ix_list value slice pins s σ H _ y v u Q I rx ry ⟨a, vs, _, z, rfl, r2.int_inv, .of ha, hz, k _ m g z H sRefl rl rz⟩ hs
    · exact m.elim
  · obtain ⟨a, vs, rfl, ha, ra⟩ := r1.scr_inv rl.sub
    split at m
    · rename_i d hd
      obtain ⟨z, hz, rz⟩ := ra.atI hd
      exact ix_list value slice pins s σ H _ y v u Q I rx ry ⟨a, vs, _, z, rfl, r2.int_inv, ha, hz, k _ m g z H sRefl rl rz⟩ hs
    · exact m.elim
  · obtain ⟨hz, m⟩ := m
    split at m
    · rename_i c hc
      exact ix_str value slice pins s σ H _ y v u Q I rx ry ⟨_, _, c, r1.str_inv, r2.int_inv, hz, hc, k _ m g _ H sRefl rl (Rep.str _)⟩ hs
    · exact m.elim
  · obtain ⟨hk, m⟩ := m
    split at m
    · rename_i d hd
      obtain ⟨q, o, rfl, hg, lr⟩ := dget_of rl.sub r1 r2 hk
      rcases lr with ⟨z, _⟩ | ⟨d', z, e1, rfl, rz⟩
      · rw [z] at hd; cases hd
      · rw [hd] at e1; cases e1
        exact ix_dct hu value slice pins s σ H _ y v u Q I rx ry ⟨q, z, rfl, hg, k _ m g z H sRefl rl rz⟩ hs
    · exact m.elim
  · exact m.elim
theorem T_sub {o : Op2} (ho : IxT B X o) (ha : PET B X a wa) (hb : PET B X b wb) (hs : PlainIx b := by exact fun _ _ => rfl) : PET B X (.Subscript a b pos) (wBin o wa wb) :=
  fun W tk => PE.imp (pe_ix ho (ha W tk) (hb W tk) hs) fun σ H Q h => two h fun x y H Q g t dx dy P rl r1 r2 m k => ⟨g, t, σ, dx, dy, P, rl, .rep r1, .rep r2, m, k⟩
/-- an item of what slot i holds, read where it stands -/
def wSubK (o : Op2) (i : Nat) (b : WE) : WE := fun W t Q => pk t i fun _ => b W t fun r t1 => fz r fun y => pk t1 i fun x => o x y fun z => Q z t1
theorem T_subK (i : Nat) {x : Str} {pos' : Pos} {o : Op2} (ho : IxT B X o) (hb : PET B X b wb) (hN : X.N[i]? = some x := by rfl) (hv : Vis X.env.scope x := by first | exact Or.inl rfl | exact Or.inr (Or.inl rfl) | exact Or.inr (Or.inr rfl)) (hd : (x == ("__debug__" : Str)) = false := by rfl) (hcd : (x == ("__classdict__" : Str)) = false := by rfl)
    (hs : PlainIx b := by exact fun _ _ => rfl) : PET B X (.Subscript (.Name x pos') b pos) (wSubK o i wb) :=
  fun W tk => PE.imp (pe_ix ho (pe_var hN hv hd hcd) (hb W tk) hs) fun σ H Q h => by
    obtain ⟨g, t, P, rl, m, k⟩ := h
    have m' : pk t i fun _ => wb W t fun r t1 => fz r fun y => pk t1 i fun x => o x y fun z => P z t1 := m
    unfold pk at m'
    split at m'
    · rename_i d0 hd0
      obtain ⟨v, hv', _⟩ := peek_at rl hd0
      refine ⟨v, hv', g, t, _, rl, m', fun r1 t1 m1 g1 v1 H1 s1 rl1 rr1 => ?_⟩
      unfold fz at m1
      split at m1
      · rename_i dy hy
        obtain ⟨F2, s2, rl2, rp⟩ := rr1.freeze rl1 hy
        split at m1
        · rename_i dx hx
          obtain ⟨u, hu, rx⟩ := peek_at rl2 hx
          rw [hv'] at hu; cases hu
          exact ⟨⟨F2, g1.ow⟩, t1, σ, dx, dy, _, rl2, rx, .rep rp, m1, fun r m5 g5 v5 H5 s5 rl5 rr5 => k _ _ m5 g5 v5 H5 ((s1.trans s2).trans s5) rl5 rr5⟩
        · exact m1.elim
      · exact m1.elim
    · exact m'.elim
abbrev WO := TX → TSt → (Option Int → TSt → Prop) → Prop
def oNone : WO := fun _ t Q => Q none t
def oSome (a : WE) : WO := fun W t Q => a W t fun r t1 => match r with
  | .v (.int i) => Q (some i) t1
  | _ => False
def toOf (K : PySem.W.Frag) (B : Base) (m : TSt → (Option Int → TSt → Prop) → Prop) : TO := fun σ H Q => ∃ g t P, Rel K B g t σ H ∧ m t P ∧ ∀ o t', P o t' → ∀ g' H', Same g.F g'.F → Rel K B g' t' σ H' → Q o H'
def POT (B : Base) (X : Cx) (e : Option Expr) (w : WO) : Prop := ∀ W, L2N.Takes X (wxOf X.K B W) → PO X e (toOf X.K B (w W))
theorem PO.imp {e : Option Expr} {t t' : TO} (h : PO X e t) (i : ∀ σ H Q, t' σ H Q → t σ H Q) : PO X e t' := ⟨fun pins s σ H Q I q => h.run pins s σ H Q I (i σ H Q q)⟩
theorem P_none : POT B X none oNone := fun W tk => PO.imp po_none fun σ H Q q => by
  obtain ⟨g, t, P, rl, m, k⟩ := q
  exact k _ _ m g H sRefl rl
theorem P_some (h : PET B X e wa) : POT B X (some e) (oSome wa) := fun W tk => PO.imp (po_some (h W tk)) fun σ H Q q => by
  obtain ⟨g, t, P, rl, m, k⟩ := q
  refine ⟨g, t, _, rl, m, fun r1 t1 m1 g1 v1 H1 s1 rl1 rr1 => ?_⟩
  split at m1
  · cases (show Rep X.K g1.F (.int _) v1 from rr1)
    exact ⟨_, rfl, k _ _ m1 g1 H1 s1 rl1⟩
  · exact m1.elim
def cutD (xs : List D) (lo hi : Option Int) : List D := (xs.drop (HT.sIx xs.length 0 lo)).take (HT.sIx xs.length xs.length hi - HT.sIx xs.length 0 lo)
def dSl : D → Option Int → Option Int → (R → Prop) → Prop
  | .tup l, lo, hi, Q => Q (.v (.tup (cutD l lo hi)))
  | .lst l, lo, hi, Q => Q (.own (.lst (cutD l lo hi)))
  | .scr l, lo, hi, Q => Q (.own (.lst (cutD l lo hi)))
  | .str x, lo, hi, Q => x.length ≤ sizeLine ∧ Q (.v (.str (cutS x lo hi)))
  | _, _, _, _ => False
def wSl (a : WE) (lo hi : WO) : WE := fun W t Q => a W t fun r t1 => fz r fun d => lo W t1 fun l t2 => hi W t2 fun h t3 => dSl d l h fun z => Q z t3
theorem Reps.take {K : PySem.W.Frag} {F : Hp} : ∀ {ds : List D} {vs : List V} (n : Nat), Reps K F ds vs → Reps K F (ds.take n) (vs.take n)
  | _, _, 0, _ => .nil
  | _, _, _ + 1, .nil => .nil
  | _, _, n + 1, .cons r t => .cons r (Reps.take n t)
theorem Reps.drop {K : PySem.W.Frag} {F : Hp} : ∀ {ds : List D} {vs : List V} (n : Nat), Reps K F ds vs → Reps K F (ds.drop n) (vs.drop n)
  | _, _, 0, r => r
  | _, _, _ + 1, .nil => .nil
  | _, _, n + 1, .cons _ t => Reps.drop n t
theorem Reps.cut {K : PySem.W.Frag} {F : Hp} {ds : List D} {vs : List V} (r : Reps K F ds vs) (lo hi : Option Int) : Reps K F (cutD ds lo hi) (cutV vs lo hi) := by
  unfold cutD cutV
  rw [r.length]
  exact (r.drop _).take _
theorem cutD_all {ds : List D} {lo hi : Option Int} (h : HT.sIx ds.length 0 lo = 0 ∧ HT.sIx ds.length ds.length hi = ds.length) : cutD ds lo hi = ds := by
  unfold cutD
  rw [h.1, h.2]
  simp
theorem T_sl {lo hi : Option Expr} {wl wh : WO} {p2 : Pos} (ha : PET B X a wa) (hl : POT B X lo wl) (hh : POT B X hi wh) : PET B X (.Subscript a (.Slice lo hi none p2) pos) (wSl wa wl wh) := by
  refine fun W tk => PE.imp (pe_slice (SlR.or sl_tupA (SlR.or sl_list sl_str)) (ha W tk) (hl W tk) (hh W tk)) fun σ H Q h => ?_
  obtain ⟨g, t, P, rl, m, k⟩ := h
  refine ⟨g, t, _, rl, m, fun r1 t1 m1 g1 v1 H1 s1 rl1 rr1 => ?_⟩
  unfold fz at m1
  split at m1
  · rename_i d hd
    obtain ⟨F2, s2, rl2, rp⟩ := rr1.freeze rl1 hd
    refine ⟨⟨F2, g1.ow⟩, t1, _, rl2, m1, fun l t3 m3 g3 H3 s3 rl3 => ⟨g3, t3, _, rl3, m3, fun u t4 m4 g4 H4 s4 rl4 => ?_⟩⟩
    have rp4 := (rp.up s3).up s4
    have ss := ((s1.trans s2).trans s3).trans s4
    unfold dSl at m4
    split at m4
    · cases rp4 with
      | tup e r =>
        refine .inl ⟨_, _, rfl, .of (rl4.sub _ _ e), fun z => ?_, fun z q hq => ?_⟩
        · rw [r.length] at z
          rw [cutD_all z] at m4
          exact k _ _ m4 g4 _ H4 ss rl4 (Rep.tup e r)
        · obtain ⟨g5, s5, rl5, rr5⟩ := newTup rl4 hq (r.cut _ _)
          exact k _ _ m4 g5 _ _ (ss.trans s5) rl5 rr5
    · cases rp4 with
      | lst e r =>
        refine .inr (.inl ⟨_, _, rfl, .of (rl4.sub _ _ e), fun q hq => ?_⟩)
        obtain ⟨rl5, rr5⟩ := newOwn rl4 hq (r.cut _ _)
        exact k _ _ m4 g4 _ _ ss rl5 rr5
    · cases rp4 with
      | scr e r =>
        refine .inr (.inl ⟨_, _, rfl, SqL.up rl4.sub e, fun q hq => ?_⟩)
        obtain ⟨rl5, rr5⟩ := newOwn rl4 hq (r.cut _ _)
        exact k _ _ m4 g4 _ _ ss rl5 rr5
    · cases rp4
      exact .inr (.inr ⟨_, rfl, m4.1, k _ _ m4.2 g4 _ H4 ss rl4 (Rep.str _)⟩)
    · exact m4.elim
  · exact m1.elim
end
def cellAt (t : TSt) (i : Nat) : Option Cell := match t[i]? with
  | some (.own c) => some c
  | some (.bor c) => some c
  | _ => none
def setCell (t : TSt) (i : Nat) (c : Cell) : TSt := t.modify i (reSlot c)
theorem cell_at {K : PySem.W.Frag} {B : Base} {g : Gh} {t : TSt} {σ : L2.St} {H : Hp} {i : Nat} {c : Cell} (rl : Rel K B g t σ H) (h : cellAt t i = some c) :
    ∃ a fp, σ[i]? = some (some (.ref a)) ∧ CellRel K g.F H c a fp ∧ fp.Nodup ∧ (∀ b ∈ fp, g.ow b = some i) ∧
      ∀ c' fp' H', CellRel K g.F H' c' a fp' → fp'.Nodup → (∀ b ∈ fp', g.ow b = some i) → (∀ b, g.ow b ≠ some i → H' b = H b) → (∀ b, H' b = none → H b = none) → (∀ b xs, H' b = some (.tup xs) → H b = some (.tup xs)) → Rel K B g (setCell t i c') σ H' := by
  have key : ∃ a fp, σ[i]? = some (some (.ref a)) ∧ CellRel K g.F H c a fp ∧ fp.Nodup ∧ (∀ b ∈ fp, g.ow b = some i) ∧ (t[i]? = some (.own c) ∨ (t[i]? = some (.bor c) ∧ B.home i = some a)) := by
    unfold cellAt at h
    split at h
    · rename_i c0 e
      cases h
      obtain ⟨a, fp, h1, h2, h3, h4⟩ := rl.slot i _ e
      exact ⟨a, fp, h1, h2, h3, h4, .inl e⟩
    · rename_i c0 e
      cases h
      obtain ⟨a, fp, h1, hm, h2, h3, h4⟩ := rl.slot i _ e
      exact ⟨a, fp, h1, h2, h3, h4, .inr ⟨e, hm⟩⟩
    · cases h
  obtain ⟨a, fp, h1, h2, h3, h4, h5⟩ := key
  refine ⟨a, fp, h1, h2, h3, h4, fun c' fp' H' k1 k2 k3 k4 k5 k6 => ⟨rl.base, fun b o e => ?_, rl.ff, fun b o e n => ?_, rl.ft, ⟨fun b e => rl.dom b (k5 b e), fun b xs e => rl.tf b xs (k6 b xs e)⟩, fun b j e => ?_, by unfold setCell; rw [List.length_modify]; exact rl.len, fun j s e => ?_⟩⟩
  · rw [k4 b (by rw [rl.ff b o e]; exact nofun)]; exact rl.sub b o e
  · obtain ⟨z1, z2, z3⟩ := rl.old b o e n
    exact ⟨by rw [k4 b (by rw [z2]; exact nofun)]; exact z1, z2, z3⟩
  · cases q : H' b with
    | some o => exact ⟨o, rfl⟩
    | none =>
      obtain ⟨o, ho⟩ := rl.there b j e
      rw [k5 b q] at ho; cases ho
  · unfold setCell at e
    rw [getElem?_modify'] at e
    split at e
    · rename_i ij
      subst ij
      rcases h5 with h5 | ⟨h5, hm⟩
      · rw [h5] at e
        cases e
        exact ⟨a, fp', h1, k1, k2, k3⟩
      · rw [h5] at e
        cases e
        exact ⟨a, fp', h1, hm, k1, k2, k3⟩
    · rename_i ij
      refine (rl.slot j s e).up sRefl fun b q => ⟨q, k4 b ?_⟩
      rw [q]; intro z; exact ij (Option.some.inj z).symm
/-- .. a list, a dict -/
theorem cell_write {K : PySem.W.Frag} {B : Base} {g : Gh} {t : TSt} {σ : L2.St} {H : Hp} {i : Nat} {ds : List D} (rl : Rel K B g t σ H) (h : cellAt t i = some (.lst ds)) :
    ∃ a vs, σ[i]? = some (some (.ref a)) ∧ H a = some (.lst vs) ∧ Reps K g.F ds vs ∧ ∀ es us, Reps K g.F es us → Rel K B g (setCell t i (.lst es)) σ (upd H a (.lst us)) := by
  obtain ⟨a, fp, h1, h2, h3, h4, k⟩ := cell_at rl h
  cases h2 with
  | lst e r =>
    refine ⟨a, _, h1, e, r, fun es us re => k _ [a] _ (.lst upd_same re) h3 h4 (fun b hb => upd_ne fun z => hb (by rw [z]; exact h4 a List.mem_cons_self)) (fun b hb => ?_) fun b xs hb => ?_⟩
    · by_cases z : b = a
      · subst z; rw [upd_same] at hb; cases hb
      · rw [upd_ne z] at hb; exact hb
    · by_cases z : b = a
      · subst z; rw [upd_same] at hb; cases hb
      · rw [upd_ne z] at hb; exact hb
theorem cell_writeK {K : PySem.W.Frag} {B : Base} {g : Gh} {t : TSt} {σ : L2.St} {H : Hp} {i : Nat} {ds : List (D × D)} (rl : Rel K B g t σ H) (h : cellAt t i = some (.dct .k ds)) :
    ∃ a vs, σ[i]? = some (some (.ref a)) ∧ H a = some (.dK vs) ∧ RepK K g.F ds vs ∧ ∀ es us, RepK K g.F es us → Rel K B g (setCell t i (.dct .k es)) σ (upd H a (.dK us)) := by
  obtain ⟨a, fp, h1, h2, h3, h4, k⟩ := cell_at rl h
  cases h2 with
  | dK e r =>
    refine ⟨a, _, h1, e, r, fun es us re => k _ [a] _ (.dK upd_same re) h3 h4 (fun b hb => upd_ne fun z => hb (by rw [z]; exact h4 a List.mem_cons_self)) (fun b hb => ?_) fun b xs hb => ?_⟩
    · by_cases z : b = a
      · subst z; rw [upd_same] at hb; cases hb
      · rw [upd_ne z] at hb; exact hb
    · by_cases z : b = a
      · subst z; rw [upd_same] at hb; cases hb
      · rw [upd_ne z] at hb; exact hb
theorem cell_writeT {K : PySem.W.Frag} {B : Base} {g : Gh} {t : TSt} {σ : L2.St} {H : Hp} {i : Nat} {ds : List (D × D)} (rl : Rel K B g t σ H) (h : cellAt t i = some (.dct .t ds)) :
    ∃ a vs, σ[i]? = some (some (.ref a)) ∧ H a = some (.dT vs) ∧ RepT K g.F ds vs ∧ ∀ es us, RepT K g.F es us → Rel K B g (setCell t i (.dct .t es)) σ (upd H a (.dT us)) := by
  obtain ⟨a, fp, h1, h2, h3, h4, k⟩ := cell_at rl h
  cases h2 with
  | dT e r =>
    refine ⟨a, _, h1, e, r, fun es us re => k _ [a] _ (.dT upd_same re) h3 h4 (fun b hb => upd_ne fun z => hb (by rw [z]; exact h4 a List.mem_cons_self)) (fun b hb => ?_) fun b xs hb => ?_⟩
    · by_cases z : b = a
      · subst z; rw [upd_same] at hb; cases hb
      · rw [upd_ne z] at hb; exact hb
    · by_cases z : b = a
      · subst z; rw [upd_same] at hb; cases hb
      · rw [upd_ne z] at hb; exact hb
end TL
namespace TL
open PySem PySem.Spec PyProof.Rows L2
def onLst (t : TSt) (i : Nat) (k : List D → Prop) : Prop := match cellAt t i with
  | some (.lst l) => k l
  | _ => False
def wApp (i : Nat) (a : WA) : WE := fun W t Q => onLst t i fun _ => a W t fun ds t1 => match ds with
  | [d] => onLst t1 i fun l => l.length < sizeLine ∧ Q (.v .non) (setCell t1 i (.lst (l ++ [d])))
  | _ => False
def wExt (i : Nat) (a : WA) : WE := fun W t Q => onLst t i fun _ => a W t fun ds t1 => match ds with
  | [.lst m] => onLst t1 i fun l => l.length + m.length ≤ sizeLine ∧ Q (.v .non) (setCell t1 i (.lst (l ++ m)))
  | _ => False
def wPop (i : Nat) : WE := fun _ t Q => onLst t i fun l => match l[l.length - 1]? with
  | some d => Q (.v d) (setCell t i (.lst l.dropLast))
  | none => False
theorem onLst_get {t : TSt} {i : Nat} {k : List D → Prop} (h : onLst t i k) : ∃ l, cellAt t i = some (.lst l) ∧ k l := by
  unfold onLst at h
  split at h
  · exact ⟨_, by assumption, h⟩
  · exact h.elim
section
variable {B : Base} {X : Cx} {e v : Expr} {wa we wv : WE} {wA : WA} {pos pos' apos cpos : Pos} {x : Str}
theorem T_app (i : Nat) (ha : PAT B X [e] wA) (hN : X.N[i]? = some x := by rfl) (hv : Vis X.env.scope x := by first | exact Or.inl rfl | exact Or.inr (Or.inl rfl) | exact Or.inr (Or.inr rfl)) (hd : (x == ("__debug__" : Str)) = false := by rfl) (hcd : (x == ("__classdict__" : Str)) = false := by rfl)
    (hbase : attributeBase (.Name x pos') "append" X.env (eval (.Name x pos') X.env) = eval (.Name x pos') X.env := by rfl)
    (hfew : ((backTo cpos (starEach [e] X.env)).all (fun x => !x.1) && (backToKw cpos (keywordEach [] X.env)).all (fun x => x.1.isSome) && decide (([e] : List Expr).length + ([] : List Keyword).length + (if ([] : List Keyword).isEmpty then 0 else 1) < 30)) = true := by rfl)
    (hline : (apos.endLine == cpos.line) = true := by rfl) (hs : starEach [e] X.env = (false, eval e X.env) :: starEach [] X.env := by rfl) :
    PET B X (.Call (.Attribute (.Name x pos') "append" apos) [e] [] cpos) (wApp i wA) := by
  refine fun W tk => PE.imp (pe_bm PySem.F.plainAttrs_list PySem.F.slot_list_append PySem.F.type_list_append mt_append (pe_var hN hv hd hcd) (ha W tk) hbase hfew hline hs rfl) fun σ H Q h => ?_
  obtain ⟨g, t, P, rl, m, k⟩ := h
  obtain ⟨l0, hc0, m⟩ := onLst_get m
  obtain ⟨a, vs0, hσ, hH0, _, _⟩ := cell_write rl hc0
  refine ⟨.ref a, hσ, .inl ⟨rfl, _, .of hH0⟩, g, t, _, rl, m, fun ds t1 m1 g1 vs H1 s1 rl1 rs1 => ?_⟩
  split at m1
  · rename_i d
    obtain ⟨l, hc, hz, m1⟩ := onLst_get m1
    obtain ⟨a', ws, hσ', hH, rw', put⟩ := cell_write rl1 hc
    rw [hσ] at hσ'; cases hσ'
    obtain ⟨y, rfl, ry⟩ := rs1.one
    exact ⟨a, ws, y, rfl, rfl, hH, by rw [rw'.length]; exact hz, k _ _ m1 g1 _ _ s1 (put _ _ (rw'.append (.cons ry .nil))) Rep.non⟩
  · exact m1.elim
theorem T_ext (i : Nat) (ha : PAT B X [e] wA) (hN : X.N[i]? = some x := by rfl) (hv : Vis X.env.scope x := by first | exact Or.inl rfl | exact Or.inr (Or.inl rfl) | exact Or.inr (Or.inr rfl)) (hd : (x == ("__debug__" : Str)) = false := by rfl) (hcd : (x == ("__classdict__" : Str)) = false := by rfl)
    (hbase : attributeBase (.Name x pos') "extend" X.env (eval (.Name x pos') X.env) = eval (.Name x pos') X.env := by rfl)
    (hfew : ((backTo cpos (starEach [e] X.env)).all (fun x => !x.1) && (backToKw cpos (keywordEach [] X.env)).all (fun x => x.1.isSome) && decide (([e] : List Expr).length + ([] : List Keyword).length + (if ([] : List Keyword).isEmpty then 0 else 1) < 30)) = true := by rfl)
    (hline : (apos.endLine == cpos.line) = true := by rfl) (hs : starEach [e] X.env = (false, eval e X.env) :: starEach [] X.env := by rfl) :
    PET B X (.Call (.Attribute (.Name x pos') "extend" apos) [e] [] cpos) (wExt i wA) := by
  refine fun W tk => PE.imp (pe_bm PySem.F.plainAttrs_list PySem.F.slot_list_extend PySem.F.type_list_extend mt_extend (pe_var hN hv hd hcd) (ha W tk) hbase hfew hline hs rfl) fun σ H Q h => ?_
  obtain ⟨g, t, P, rl, m, k⟩ := h
  obtain ⟨l0, hc0, m⟩ := onLst_get m
  obtain ⟨a, vs0, hσ, hH0, _, _⟩ := cell_write rl hc0
  refine ⟨.ref a, hσ, .inl ⟨rfl, _, .of hH0⟩, g, t, _, rl, m, fun ds t1 m1 g1 vs H1 s1 rl1 rs1 => ?_⟩
  split at m1
  · rename_i d
    obtain ⟨l, hc, hz, m1⟩ := onLst_get m1
    obtain ⟨a', ws, hσ', hH, rw', put⟩ := cell_write rl1 hc
    rw [hσ] at hσ'; cases hσ'
    obtain ⟨y, rfl, ry⟩ := rs1.one
    cases ry with
    | lst eb rb => exact ⟨a, _, ws, _, rfl, rfl, hH, rl1.sub _ _ eb, by rw [rw'.length, rb.length]; exact hz, k _ _ m1 g1 _ _ s1 (put _ _ (rw'.append rb)) Rep.non⟩
  · exact m1.elim
theorem Reps.dropLast {K : PySem.W.Frag} {F : Hp} {ds : List D} {vs : List V} (r : Reps K F ds vs) : Reps K F ds.dropLast vs.dropLast := by
  rw [List.dropLast_eq_take, List.dropLast_eq_take, r.length]
  exact r.take _
def putC (t : TSt) (i : Nat) (key d : D) (k : TSt → Prop) : Prop := match cellAt t i with
  | some (.dct kk l) => D.isKey kk key = true ∧ l.length < sizeLine ∧ k (setCell t i (.dct kk (putD l key d)))
  | some (.lst l) => match key with
    | .int n => match ixN l.length n with
      | some j => k (setCell t i (.lst (l.set j d)))
      | none => False
    | _ => False
  | _ => False
/-- o[key] = v: v first, then the key -/
def wPut (i : Nat) (key val : WE) : WS := fun W t D => val W t fun r t1 => fz r fun d => (cellAt t1 i).isSome = true ∧ key W t1 fun r' t2 => fz r' fun k => putC t2 i k d D.nx
theorem put_of {g : Gh} {t : TSt} {σ : L2.St} {H : Hp} {K : PySem.W.Frag} {i : Nat} {key d : D} {kv v : V} {k : TSt → Prop} (rl : Rel K B g t σ H) (rk : Rep K g.F key kv) (rv : Rep K g.F d v) (m : putC t i key d k) :
    ∃ a, σ[i]? = some (some (.ref a)) ∧ ∃ H' t', ((DPut H a kv v H') ∨ rSetL (.ref a) kv v H (fun H'' => H'' = H')) ∧ k t' ∧ Rel K B g t' σ H' := by
  unfold putC at m
  split at m
  · rename_i kk l hc
    obtain ⟨h1, h2, m⟩ := m
    cases kk with
    | k =>
      obtain ⟨a, vs, hσ, hH, r, put⟩ := cell_writeK rl hc
      have hi' : key.key?.isSome = true := h1
      obtain ⟨ky, hk'⟩ := Option.isSome_iff_exists.mp hi'
      rw [key_some hk'] at rk m
      rw [rk.key]
      exact ⟨a, hσ, _, _, .inl (DPut.k hH (by rw [r.length]; exact h2)), m, put _ _ (r.put ky rv)⟩
    | t =>
      obtain ⟨a, vs, hσ, hH, r, put⟩ := cell_writeT rl hc
      cases key with
      | tup l =>
        have hi' : (D.keys? l).isSome = true := h1
        obtain ⟨ks, hk'⟩ := Option.isSome_iff_exists.mp hi'
        rw [keys_some hk'] at rk m
        cases rk with
        | tup eb rb =>
          rw [rb.keys] at eb
          exact ⟨a, hσ, _, _, .inl (DPut.t hH (rl.sub _ _ eb) (by rw [r.length]; exact h2)), m, put _ _ (r.put ks rv)⟩
      | _ => cases h1
  · rename_i l hc
    obtain ⟨a, vs, hσ, hH, r, put⟩ := cell_write rl hc
    split at m
    · rename_i n
      split at m
      · rename_i j hj
        cases rk
        refine ⟨a, hσ, _, _, .inr ⟨a, vs, n, j, rfl, rfl, hH, by rw [r.length]; exact hj, rfl⟩, m, put _ _ ?_⟩
        exact Reps.set rv r
      · exact m.elim
    · exact m.elim
  · exact m.elim
where
  Reps.set {K : PySem.W.Frag} {F : Hp} {d : D} {v : V} (h : Rep K F d v) : ∀ {ds : List D} {vs : List V} {j : Nat}, Reps K F ds vs → Reps K F (ds.set j d) (vs.set j v)
  | _, _, _, .nil => .nil
  | _, _, 0, .cons _ t => .cons h t
  | _, _, j + 1, .cons a t => .cons a (Reps.set h t)
/-- the store of an item, a dict's or a list's -/
def rSetA : TSet := fun o i v H Q => (∃ a H', o = .ref a ∧ DPut H a i v H' ∧ Q H') ∨ rSetL o i v H Q
theorem set_any (hu : X.A.units + 1 < cLine) : PSet X rSetA := by
  intro pins s σ H o i v ov iv u Q I ro ri rv h
  rcases h with ⟨a, H', rfl, g, q⟩ | h
  · cases ro
    exact d_setItem hu I g ri rv fun s' I' => ⟨H', I', q⟩
  · exact set_list pins s σ H o i v ov iv u Q I ro ri rv h
theorem S_put (i : Nat) {key : Expr} {wk : WE} {px tpos : Pos} (hu : X.A.units + 1 < cLine) (hval : PET B X e we) (hk : PET B X key wk) (hN : X.N[i]? = some x := by rfl) (hv : Vis X.env.scope x := by first | exact Or.inl rfl | exact Or.inr (Or.inl rfl) | exact Or.inr (Or.inr rfl)) (hd : (x == ("__debug__" : Str)) = false := by rfl) (hcd : (x == ("__classdict__" : Str)) = false := by rfl)
    (ha : ∀ v, assign (.Subscript (.Name x px) key tpos) X.env v = (do
      let ov ← holding [v] (eval (.Name x px) X.env)
      let iv ← holding [v, ov] (eval key X.env)
      standAt tpos
      holding [v, ov, iv] (setItem ov iv v)
      release [v, ov, iv] []) := by intro _; rfl)
    (hs : swapsWithSole [.Subscript (.Name x px) key tpos] e pos.line X.env = pure false := by rfl) (hw : swappedStores [.Subscript (.Name x px) key tpos] e X.env = pure none := by rfl)
    (h1 : (assignEach [.Subscript (.Name x px) key tpos] X.env).map (·.2) = [assign (.Subscript (.Name x px) key tpos) X.env] := by rfl) : PST B X (.Assign [.Subscript (.Name x px) key tpos] e pos) (wPut i wk we) := by
  refine fun W tk => PS.imp (ps_asg (hval W tk) (pg_sub (pe_var hN hv hd hcd) (hk W tk) (set_any hu) ha) hs hw h1) fun D σ H q => ?_
  obtain ⟨g, t, P, rl, m, k, _⟩ := q
  refine ⟨g, t, _, rl, m, fun r1 t1 m1 g1 v1 H1 s1 rl1 rr1 => ?_⟩
  unfold fz at m1
  split at m1
  · rename_i d hd'
    obtain ⟨F2, s2, rl2, rp⟩ := rr1.freeze rl1 hd'
    obtain ⟨hc, m1⟩ := m1
    obtain ⟨c, hc⟩ := Option.isSome_iff_exists.mp hc
    obtain ⟨v, _, hx, _⟩ := cell_at rl2 hc
    refine ⟨.ref v, hx, ⟨F2, g1.ow⟩, t1, _, rl2, m1, fun r3 t3 m3 g3 v3 H3 s3 rl3 rr3 => ?_⟩
    split at m3
    · rename_i ky hky
      obtain ⟨F4, s4, rl4, rp4⟩ := rr3.freeze rl3 hky
      obtain ⟨a, hσ, H', t', hp, m5, rl5⟩ := put_of rl4 rp4 ((rp.up s3).up s4) m3
      rw [hx] at hσ; cases hσ
      have fin := k _ m5 ⟨F4, g3.ow⟩ _ H' (((s1.trans s2).trans s3).trans s4) rl5
      rcases hp with hp | ⟨p, xs, kk, j, e1, e2, e3, e4, rfl⟩
      · exact .inl ⟨_, H', rfl, hp, fin⟩
      · exact .inr ⟨p, xs, kk, j, e1, e2, e3, e4, fin⟩
    · exact m3.elim
  · exact m1.elim
def getC (t : TSt) (i : Nat) (key : D) (k : D → Prop) : Prop := match cellAt t i with
  | some (.lst l) => match key with
    | .int n => match L2.atI l n with
      | some d => k d
      | none => False
    | _ => False
  | some (.dct kk l) => D.isKey kk key = true ∧ match lookD l key with
    | some d => k d
    | none => False
  | _ => False
/-- o[key] op= val -/
def wAugS (i : Nat) (o : Op2) (key val : WE) : WS := fun W t D => (cellAt t i).isSome = true ∧ key W t fun r t1 => fz r fun k => getC t1 i k fun x => val W t1 fun r' t2 => fz r' fun y => o x y fun z => fz z fun d => putC t2 i k d D.nx
def wDnew (kk : KK) : WE := fun _ t Q => Q (.own (.dct kk [])) t
theorem T_dnewT : PET B X (.Dict [] [] pos) (wDnew .t) := fun W tk => PE.imp pe_dnewT fun σ H Q q => by
  obtain ⟨g, t, P, rl, m, k⟩ := q
  intro p hp
  obtain ⟨r1, o1, o2, o3⟩ := rl.newO (o := .dT []) hp
  exact k _ _ m g _ _ sRefl r1 ⟨p, [p], rfl, .dT upd_same .nil, by simp, fun b hb => by rw [List.mem_singleton.mp hb]; exact ⟨o1, o2, o3⟩⟩
abbrev WK := TX → TSt → (List (D × D) → TSt → Prop) → Prop
def kNil : WK := fun _ t Q => Q [] t
def kCons (a b : WE) (c : WK) : WK := fun W t Q => a W t fun r t1 => fz r fun k => b W t1 fun r' t2 => fz r' fun v => c W t2 fun ps t3 => Q ((k, v) :: ps) t3
inductive RepP (K : PySem.W.Frag) (F : Hp) : List (D × D) → List (V × V) → Prop
  | nil : RepP K F [] []
  | cons {k d : D} {u v : V} {ds : List (D × D)} {vs : List (V × V)} : Rep K F k u → Rep K F d v → RepP K F ds vs → RepP K F ((k, d) :: ds) ((u, v) :: vs)
def wPairs : List (WE × WE) → WK
  | [] => kNil
  | (a, b) :: r => kCons a b (wPairs r)
def mergeD (l more : List (D × D)) : List (D × D) := more.foldl (fun acc kv => putD acc kv.1 kv.2) l
def wDisp (ws : List (WE × WE)) : WE := fun _ t Q => wPairs ws noX t fun ps t1 => ps.length ≤ 15 ∧ (ps.all fun p => D.isKey .k p.1) = true ∧ Q (.own (.dct .k (mergeD [] ps))) t1
theorem RepP.keys {K : PySem.W.Frag} {F : Hp} : ∀ {ps : List (D × D)} {vs : List (V × V)}, RepP K F ps vs → (ps.all fun p => D.isKey .k p.1) = true → ∃ kvs : List (Key × V), vs = kvs.map (fun kv => (kV kv.1, kv.2)) ∧ RepK K F ps kvs
  | _, _, .nil, _ => ⟨[], rfl, .nil⟩
  | _, _, .cons (k := k) (v := v) hk hv t, h => by
    rw [List.all_cons, Bool.and_eq_true] at h
    obtain ⟨kvs, rfl, r⟩ := RepP.keys t h.2
    have hi : k.key?.isSome = true := h.1
    obtain ⟨ky, hy⟩ := Option.isSome_iff_exists.mp hi
    rw [key_some hy] at hk ⊢
    exact ⟨(ky, v) :: kvs, by rw [List.map_cons, hk.key], .cons hv r⟩
theorem RepP.length {K : PySem.W.Frag} {F : Hp} : ∀ {ps : List (D × D)} {vs : List (V × V)}, RepP K F ps vs → vs.length = ps.length
  | _, _, .nil => rfl
  | _, _, .cons _ _ t => congrArg (· + 1) t.length
end
end TL
namespace TL
open PySem PySem.Spec PyProof.Rows L2
def wCh (o o' : Op2) (a b c : WE) : WE := fun W t Q => a W t fun r t1 => fz r fun x => b W t1 fun r' t2 => fz r' fun y => o x y fun z => rB (fun k => if k = true then c W t2 fun r'' t3 => fz r'' fun w => o' y w fun z' => Q z' t3 else Q (.v (.bl false)) t2) z
def dInA : Op2 := fun x c Q => match c with
  | .dct kk l => D.isKey kk x = true ∧ Q (.v (.bl (lookD l x).isSome))
  | _ => dIn x c Q
def dNotInA : Op2 := fun x c Q => match c with
  | .dct kk l => D.isKey kk x = true ∧ Q (.v (.bl (!(lookD l x).isSome)))
  | _ => dNotIn x c Q
section
variable {B : Base} {X : Cx} {a b c e : Expr} {es : List Expr} {wa wb wc : WE} {wA : WAA} {pos p : Pos}
theorem ch_of {W : TX} {o o' : Op2} {r r' : R2} {σ : L2.St} {H : Hp} {Q : VK} (h : tOf X.K B (wCh o o' wa wb wc W) σ H Q)
    (ho : ∀ x y H Q, (∃ g t σ dx dy P, Rel X.K B g t σ H ∧ RepH X.K g.F H dx x ∧ RepH X.K g.F H dy y ∧ o dx dy P ∧ ∀ r, P r → ∀ g' v H', Same g.F g'.F → Rel X.K B g' t σ H' → ResRel X.K B g' H' r v → Q v H') → r x y H Q)
    (ho' : ∀ x y H Q, (∃ g t σ dx dy P, Rel X.K B g t σ H ∧ RepH X.K g.F H dx x ∧ RepH X.K g.F H dy y ∧ o' dx dy P ∧ ∀ r, P r → ∀ g' v H', Same g.F g'.F → Rel X.K B g' t σ H' → ResRel X.K B g' H' r v → Q v H') → r' x y H Q) :
    tChain r r' (tOf X.K B (wa W)) (tOf X.K B (wb W)) (tOf X.K B (wc W)) σ H Q := by
  obtain ⟨g, t, P, rl, m, k⟩ := h
  refine ⟨g, t, _, rl, m, fun r1 t1 m1 g1 v1 H1 s1 rl1 rr1 => ?_⟩
  unfold fz at m1
  split at m1
  · rename_i dx hx
    obtain ⟨F2, s2, rl2, rp⟩ := rr1.freeze rl1 hx
    refine ⟨⟨F2, g1.ow⟩, t1, _, rl2, m1, fun r3 t3 m3 g3 v3 H3 s3 rl3 rr3 => ?_⟩
    split at m3
    · rename_i dy hy
      obtain ⟨F4, s4, rl4, rp4⟩ := rr3.freeze rl3 hy
      refine ho _ _ _ _ ⟨⟨F4, g3.ow⟩, t3, σ, dx, dy, _, rl4, .rep ((rp.up s3).up s4), .rep rp4, m3, fun r5 m5 g5 v5 H5 s5 rl5 rr5 => ?_⟩
      obtain ⟨bb, rfl, m5⟩ := rB_get m5
      cases (show Rep X.K g5.F (.bl bb) v5 from rr5)
      have ss := (((s1.trans s2).trans s3).trans s4).trans s5
      cases bb with
      | false => exact ⟨false, rfl, iteF (k _ _ (show P (.v (.bl false)) t3 from m5) g5 _ H5 ss rl5 (.bl false))⟩
      | true =>
        refine ⟨true, rfl, iteT ⟨g5, t3, _, rl5, (show wc W t3 _ from m5), fun r6 t6 m6 g6 v6 H6 s6 rl6 rr6 => ?_⟩⟩
        split at m6
        · rename_i dz hz
          obtain ⟨F7, s7, rl7, rp7⟩ := rr6.freeze rl6 hz
          exact ho' _ _ _ _ ⟨⟨F7, g6.ow⟩, t6, σ, dy, dz, _, rl7, .rep (((rp4.up s5).up s6).up s7), .rep rp7, m6, fun r8 m8 g8 v8 H8 s8 rl8 rr8 => k _ _ m8 g8 v8 H8 (((ss.trans s6).trans s7).trans s8) rl8 rr8⟩
        · exact m6.elim
    · exact m3.elim
  · exact m1.elim
theorem TT_ch {op op' : CmpOp} {o o' : Op2} (ho : OpT B X (compareOp op) o) (ho' : OpT B X (compareOp op') o') (ha : PET B X a wa) (hb : PET B X b wb) (hc : PET B X c wc) (hm : lastMarks [op, op'] [b, c] = false := by with_unfolding_all rfl) : PTT B X (.Compare a [op, op'] [b, c] pos) (wTB (wCh o o' wa wb wc)) := by
  refine fun W tk => PT.imp (pt_chain ho ho' (ha W tk) (hb W tk) (hc W tk) hm) fun σ H Q h => ?_
  obtain ⟨g, t, P, rl, m, k⟩ := h
  refine ch_of (W := W) (o := o) (o' := o') ⟨g, t, _, rl, m, fun r1 t1 m1 g1 v1 H1 s1 rl1 rr1 => ?_⟩ (fun _ _ _ _ z => z) fun _ _ _ _ z => z
  obtain ⟨b, rfl, m1⟩ := rB_get m1
  cases (show Rep X.K g1.F (.bl b) v1 from rr1)
  exact ⟨b, rfl, k _ _ m1 g1 H1 s1 rl1⟩
end
structure Cal (P : Program) (w : World) (K : PySem.W.Frag) (mg : Str → Option Value) (base : Heap) (k : Nat) (x : Str) (n : Nat) (ts : TSpec) : Prop where
  ex : ∃ f fd ps, ps.length = n ∧ FnOk P w K mg base (L2N.CX P w) k f fd ps (toSp K n ts) ∧ mg x = some (.ref f) ∧ PySem.W.keepIn K (.ref f) = true ∧ Binds K fd ps []
  hl : ∀ args PQ PX, ts args PQ PX → args.length = n
section
variable {B : Base} {X : Cx} {e : Expr} {es : List Expr} {wA : WAA} {pos p : Pos} {P : Program} {w : World} {K : PySem.W.Frag} {mg : Str → Option Value} {base : Heap}
theorem Cal.mono {j k n : Nat} {x : Str} {ts : TSpec} (c : Cal P w K mg base j x n ts) (h : j ≤ k) : Cal P w K mg base k x n ts := by
  obtain ⟨f, fd, ps, h1, F, h2⟩ := c.ex
  exact ⟨⟨f, fd, ps, h1, F.mono h, h2⟩, c.hl⟩
/-- what the text's top has of a def -/
structure Def (K : PySem.W.Frag) (mg : Str → Option Value) (x : Str) (st : Stmt) (ps : List Str) : Prop where
  ex : ∃ f fd, Fun K x x st f fd ∧ mg x = some (.ref f) ∧ Binds K fd ps []
/-- the law's own promise: True of every script -/
def spLaw : TSpec := fun args PQ _ => ∃ ns : List Int, args = [.v (.scr (ns.map D.int))] ∧ ns.length ≤ 63 ∧ PQ (.v (.bl true)) []
theorem Reps.ofInts {F : Hp} : ∀ ns : List Int, Reps K F (ns.map D.int) (ns.map V.int)
  | [] => .nil
  | n :: ns => .cons (.int n) (Reps.ofInts ns)
theorem law_sp {H : Hp} {a : Addr} {ns : List Int} (hl : ns.length ≤ 63) (hS : SqL K H a (ns.map V.int)) : toSp K 1 spLaw [.ref a] H (fun v _ => v = .bl true) fun _ _ _ => False := by
  refine ⟨rfl, H, [.v (.scr (ns.map D.int))], fun _ => [], fun r outs => r = .v (.bl true) ∧ outs = [], fun _ _ _ => False, sRefl, ⟨rfl, fun i d hi => ?_, fun i c hi => ?_, fun _ _ => rfl, fun _ _ _ h => (nomatch h), fun _ _ h => (nomatch h), fun _ _ h => h⟩, ⟨ns, rfl, hl, rfl, rfl⟩, fun r outs hq v F' H' fp' po rr => ?_, fun _ _ _ h => h.elim⟩
  · cases i with
    | zero => cases hi; exact ⟨.ref a, rfl, .scr hS (Reps.ofInts ns)⟩
    | succ i => cases hi
  · cases i with
    | zero => cases hi
    | succ i => cases hi
  · obtain ⟨rfl, rfl⟩ := hq
    cases (show Rep K F' (.bl true) v from rr)
    rfl
theorem law_cx {H : Hp} {s : Shared} {e : Value} {s' : Shared} (h : L2N.CX P w [] H s (fun _ _ _ => False) e s') : False := by
  obtain ⟨_, _, _, _, _, _, _, _, _, _, _, _, z⟩ := h
  exact z
end
end TL
namespace TL
open PySem PySem.Spec PyProof.Rows L2
theorem depth_int (i : Int) : (PyData.int i).depth = 0 := by simp [PyData.depth]
theorem depth_bool (b : Bool) : (PyData.bool b).depth = 0 := by simp [PyData.depth]
theorem isi_int_int (i : Int) : isiD (.int i) "int" = some true := by
  have h : kitB "int" "int" = some true := by decide +kernel
  exact h
theorem isi_int_bool (i : Int) : isiD (.int i) "bool" = some false := by
  have h : kitB "int" "bool" = some false := by decide +kernel
  exact h
theorem isi_int_tuple (i : Int) : isiD (.int i) "tuple" = some false := by
  have h : kitB "int" "tuple" = some false := by decide +kernel
  exact h
theorem isi_int_list (i : Int) : isiD (.int i) "list" = some false := by
  have h : kitB "int" "list" = some false := by decide +kernel
  exact h
theorem isi_int_str (i : Int) : isiD (.int i) "str" = some false := by
  have h : kitB "int" "str" = some false := by decide +kernel
  exact h
theorem isi_int_dict (i : Int) : isiD (.int i) "dict" = some false := by
  have h : kitB "int" "dict" = some false := by decide +kernel
  exact h
theorem isi_bl_int (i : Bool) : isiD (.bl i) "int" = some true := by
  have h : kitB "bool" "int" = some true := by decide +kernel
  exact h
theorem isi_bl_bool (i : Bool) : isiD (.bl i) "bool" = some true := by
  have h : kitB "bool" "bool" = some true := by decide +kernel
  exact h
theorem isi_bl_tuple (i : Bool) : isiD (.bl i) "tuple" = some false := by
  have h : kitB "bool" "tuple" = some false := by decide +kernel
  exact h
theorem isi_bl_list (i : Bool) : isiD (.bl i) "list" = some false := by
  have h : kitB "bool" "list" = some false := by decide +kernel
  exact h
theorem isi_bl_str (i : Bool) : isiD (.bl i) "str" = some false := by
  have h : kitB "bool" "str" = some false := by decide +kernel
  exact h
theorem isi_bl_dict (i : Bool) : isiD (.bl i) "dict" = some false := by
  have h : kitB "bool" "dict" = some false := by decide +kernel
  exact h
theorem isi_non_int  : isiD .non "int" = some false := by
  have h : kitB "NoneType" "int" = some false := by decide +kernel
  exact h
theorem isi_non_bool  : isiD .non "bool" = some false := by
  have h : kitB "NoneType" "bool" = some false := by decide +kernel
  exact h
theorem isi_non_tuple  : isiD .non "tuple" = some false := by
  have h : kitB "NoneType" "tuple" = some false := by decide +kernel
  exact h
theorem isi_non_list  : isiD .non "list" = some false := by
  have h : kitB "NoneType" "list" = some false := by decide +kernel
  exact h
theorem isi_non_str  : isiD .non "str" = some false := by
  have h : kitB "NoneType" "str" = some false := by decide +kernel
  exact h
theorem isi_non_dict  : isiD .non "dict" = some false := by
  have h : kitB "NoneType" "dict" = some false := by decide +kernel
  exact h
theorem isi_str_int (i : Str) : isiD (.str i) "int" = some false := by
  have h : kitB "str" "int" = some false := by decide +kernel
  exact h
theorem isi_str_bool (i : Str) : isiD (.str i) "bool" = some false := by
  have h : kitB "str" "bool" = some false := by decide +kernel
  exact h
theorem isi_str_tuple (i : Str) : isiD (.str i) "tuple" = some false := by
  have h : kitB "str" "tuple" = some false := by decide +kernel
  exact h
theorem isi_str_list (i : Str) : isiD (.str i) "list" = some false := by
  have h : kitB "str" "list" = some false := by decide +kernel
  exact h
theorem isi_str_str (i : Str) : isiD (.str i) "str" = some true := by
  have h : kitB "str" "str" = some true := by decide +kernel
  exact h
theorem isi_str_dict (i : Str) : isiD (.str i) "dict" = some false := by
  have h : kitB "str" "dict" = some false := by decide +kernel
  exact h
theorem isi_tup_int (l : List D) : isiD (.tup l) "int" = some false := by
  have h : kitB "tuple" "int" = some false := by decide +kernel
  exact h
theorem isi_tup_bool (l : List D) : isiD (.tup l) "bool" = some false := by
  have h : kitB "tuple" "bool" = some false := by decide +kernel
  exact h
theorem isi_tup_tuple (l : List D) : isiD (.tup l) "tuple" = some true := by
  have h : kitB "tuple" "tuple" = some true := by decide +kernel
  exact h
theorem isi_tup_list (l : List D) : isiD (.tup l) "list" = some false := by
  have h : kitB "tuple" "list" = some false := by decide +kernel
  exact h
theorem isi_tup_str (l : List D) : isiD (.tup l) "str" = some false := by
  have h : kitB "tuple" "str" = some false := by decide +kernel
  exact h
theorem isi_tup_dict (l : List D) : isiD (.tup l) "dict" = some false := by
  have h : kitB "tuple" "dict" = some false := by decide +kernel
  exact h
theorem isi_lst_int (l : List D) : isiD (.lst l) "int" = some false := by
  have h : kitB "list" "int" = some false := by decide +kernel
  exact h
theorem isi_lst_bool (l : List D) : isiD (.lst l) "bool" = some false := by
  have h : kitB "list" "bool" = some false := by decide +kernel
  exact h
theorem isi_lst_tuple (l : List D) : isiD (.lst l) "tuple" = some false := by
  have h : kitB "list" "tuple" = some false := by decide +kernel
  exact h
theorem isi_lst_list (l : List D) : isiD (.lst l) "list" = some true := by
  have h : kitB "list" "list" = some true := by decide +kernel
  exact h
theorem isi_lst_str (l : List D) : isiD (.lst l) "str" = some false := by
  have h : kitB "list" "str" = some false := by decide +kernel
  exact h
theorem isi_lst_dict (l : List D) : isiD (.lst l) "dict" = some false := by
  have h : kitB "list" "dict" = some false := by decide +kernel
  exact h
theorem isi_dct_int (k : KK) (l : List (D × D)) : isiD (.dct k l) "int" = some false := by
  have h : kitB "dict" "int" = some false := by decide +kernel
  exact h
theorem isi_dct_bool (k : KK) (l : List (D × D)) : isiD (.dct k l) "bool" = some false := by
  have h : kitB "dict" "bool" = some false := by decide +kernel
  exact h
theorem isi_dct_tuple (k : KK) (l : List (D × D)) : isiD (.dct k l) "tuple" = some false := by
  have h : kitB "dict" "tuple" = some false := by decide +kernel
  exact h
theorem isi_dct_list (k : KK) (l : List (D × D)) : isiD (.dct k l) "list" = some false := by
  have h : kitB "dict" "list" = some false := by decide +kernel
  exact h
theorem isi_dct_str (k : KK) (l : List (D × D)) : isiD (.dct k l) "str" = some false := by
  have h : kitB "dict" "str" = some false := by decide +kernel
  exact h
theorem isi_dct_dict (k : KK) (l : List (D × D)) : isiD (.dct k l) "dict" = some true := by
  have h : kitB "dict" "dict" = some true := by decide +kernel
  exact h
/-- a tag on an argument: simp does not go into an argument that a later one depends on -/
structure Tg {α : Type} (x : α) : Type where
/-- a call whose arguments are there; the walk stops here -/
def callK (ts : TSpec) (args : List Arg) (PQ : R → List Cell → Prop) (PX : String → Pay → List Cell → Prop) (_ : Tg (PQ, PX) := ⟨⟩) : Prop := ts args PQ PX
def forK (g : WG) (b : WS) (W : TX) (ds : List D) (t : TSt) (D0 : TD) (_ : Tg (g, b, W, D0) := ⟨⟩) : Prop := forL g b W ds t D0
def whileK (c : WT) (b : WS) (W : TX) (t : TSt) (D0 : TD) (_ : Tg (c, b, W, D0) := ⟨⟩) : Prop := wWhile c b W t D0
def lcK (g : WG) (c : WT) (e : WE) (vs : List Nat) (ds acc : List D) (t : TSt) (Q : List D → TSt → Prop) (_ : Tg (g, c, e, Q) := ⟨⟩) : Prop := lcL g c e vs ds acc t Q
theorem wWhile_ap (c : WT) (b : WS) (W : TX) (t : TSt) (D0 : TD) : wWhile c b W t D0 = whileK c b W t D0 := rfl
def goCall (ts : TSpec) (as : List AV) (t : TSt) (W : TX) (Q : R → TSt → Prop) : Prop := (refsA as).Nodup ∧ match resA as t with
  | some args => callK ts args (fun r outs => Q r (putA as outs t)) (fun cls pay outs => W cls pay (putA as outs t))
  | none => False
theorem wCall_ap (ts : TSpec) (a : WAA) (W : TX) (t : TSt) (Q : R → TSt → Prop) : wCall ts a W t Q = a W t fun as t1 => goCall ts as t1 W Q := by
  unfold wCall
  congr 1
  funext as t1
  unfold goCall callK
  refine propext (and_congr Iff.rfl ?_)
  constructor
  · rintro ⟨args, e, h⟩; rw [e]; exact h
  · intro h
    split at h
    · rename_i args e; exact ⟨args, e, h⟩
    · exact h.elim
def withO {α : Type} (o : Option α) (k : α → Prop) (_ : Tg k := ⟨⟩) : Prop := match o with
  | some x => k x
  | none => False
theorem withO_some {α : Type} (x : α) (k : α → Prop) (g : Tg k) : withO (some x) k g = k x := rfl
def varS (t : TSt) (i : Nat) : Option (D × TSt) := match t[i]? with
  | some (.v d) => some (d, t)
  | some (.own c) => c.d?.map fun d => (d, t.set i (.v d))
  | _ => none
def stS (i : Nat) (r : R) (t : TSt) : Option TSt := match t[i]? with
  | some (.bor _) => none
  | none => none
  | some _ => match r with
    | .v d => some (t.set i (.v d))
    | .own c => some (t.set i (.own c))
def two? : List D → Option (D × D)
  | [a, b] => some (a, b)
  | _ => none
def one? : List D → Option D
  | [a] => some a
  | _ => none
def oneL? : List D → Option (List D)
  | [.lst a] => some a
  | _ => none
def int1? : List D → Option Int
  | [.int a] => some a
  | _ => none
def int2? : List D → Option (Int × Int)
  | [.int a, .int b] => some (a, b)
  | _ => none
def int3? : List D → Option (Int × Int × Int)
  | [.int a, .int b, .int c] => some (a, b, c)
  | _ => none
def rint? : R → Option Int
  | .v (.int i) => some i
  | _ => none
def rbl? : R → Option Bool
  | .v (.bl i) => some i
  | _ => none
def vAt (t : TSt) (i : Nat) : Option D := match t[i]? with
  | some (.v x) => some x
  | _ => none
def lstAt (t : TSt) (i : Nat) : Option (List D) := match cellAt t i with
  | some (.lst l) => some l
  | _ => none
theorem int1_w (ds : List D) (h : ∀ a, ds = [.int a] → False) : int1? ds = none := by
  unfold int1?
  split
  · exact (h _ rfl).elim
  · rfl
theorem int2_w (ds : List D) (h : ∀ a b, ds = [.int a, .int b] → False) : int2? ds = none := by
  unfold int2?
  split
  · exact (h _ _ rfl).elim
  · rfl
theorem int3_w (ds : List D) (h : ∀ a b c, ds = [.int a, .int b, .int c] → False) : int3? ds = none := by
  unfold int3?
  split
  · exact (h _ _ _ rfl).elim
  · rfl
theorem pk_ap (t : TSt) (i : Nat) (k : D → Prop) : pk t i k = withO (peek t i) k := by
  unfold pk withO
  cases peek t i <;> rfl
theorem stR_ap (i : Nat) (r : R) (t : TSt) (k : TSt → Prop) : stR i r t k = withO (stS i r t) k := by
  unfold stR stS
  cases t[i]? with
  | none => rfl
  | some s => cases s <;> cases r <;> rfl
theorem onLst_ap (t : TSt) (i : Nat) (k : List D → Prop) : onLst t i k = withO (lstAt t i) k := by
  unfold onLst lstAt
  cases cellAt t i with
  | none => rfl
  | some c => cases c <;> rfl
theorem retO_ap (args : List Arg) (t : TSt) (k : List Cell → Prop) : retO args t k = withO (outsOf args t) k := by
  unfold retO withO
  cases outsOf args t <;> rfl
theorem goCall_ap (ts : TSpec) (as : List AV) (t : TSt) (W : TX) (Q : R → TSt → Prop) : goCall ts as t W Q = ((refsA as).Nodup ∧ withO (resA as t) fun args => callK ts args (fun r outs => Q r (putA as outs t)) (fun cls pay outs => W cls pay (putA as outs t))) := by
  unfold goCall withO
  cases resA as t <;> rfl
def putC' (t : TSt) (i : Nat) (key d : D) (k : TSt → Prop) : Cell → Prop
  | .dct kk l => D.isKey kk key = true ∧ l.length < sizeLine ∧ k (setCell t i (.dct kk (putD l key d)))
  | .lst l => match key with
    | .int n => withO (ixN l.length n) fun j => k (setCell t i (.lst (l.set j d)))
    | _ => False
  | .ins _ _ => False
theorem putC_ap (t : TSt) (i : Nat) (key d : D) (k : TSt → Prop) : putC t i key d k = withO (cellAt t i) (putC' t i key d k) := by
  unfold putC
  cases h : cellAt t i with
  | none => rfl
  | some c =>
    cases c with
    | dct kk l => rfl
    | ins _ _ => rfl
    | lst l =>
      cases key with
      | int n =>
        show (match ixN l.length n with | some j => k (setCell t i (.lst (l.set j d))) | none => False) = withO (ixN l.length n) _
        cases ixN l.length n <;> rfl
      | _ => rfl
theorem putC'_dct (t : TSt) (i : Nat) (key d : D) (k : TSt → Prop) (kk : KK) (l : List (D × D)) : putC' t i key d k (.dct kk l) = (D.isKey kk key = true ∧ l.length < sizeLine ∧ k (setCell t i (.dct kk (putD l key d)))) := rfl
def getC' (key : D) (k : D → Prop) : Cell → Prop
  | .lst l => match key with
    | .int n => withO (L2.atI l n) k
    | _ => False
  | .dct kk l => D.isKey kk key = true ∧ withO (lookD l key) k
  | .ins _ _ => False
theorem getC_ap (t : TSt) (i : Nat) (key : D) (k : D → Prop) : getC t i key k = withO (cellAt t i) (getC' key k) := by
  unfold getC
  cases h : cellAt t i with
  | none => rfl
  | some c =>
    cases c with
    | ins _ _ => rfl
    | dct kk l =>
      show (D.isKey kk key = true ∧ match lookD l key with | some d => k d | none => False) = (D.isKey kk key = true ∧ withO (lookD l key) k)
      cases lookD l key <;> rfl
    | lst l =>
      cases key with
      | int n =>
        show (match L2.atI l n with | some d => k d | none => False) = withO (L2.atI l n) k
        cases L2.atI l n <;> rfl
      | _ => rfl
theorem getC'_dct (key : D) (k : D → Prop) (kk : KK) (l : List (D × D)) : getC' key k (.dct kk l) = (D.isKey kk key = true ∧ withO (lookD l key) k) := rfl
theorem dGet_str (x : Str) (i : Int) (Q : R → Prop) : dGet (.str x) (.int i) Q = (x.length ≤ sizeLine ∧ withO (L2.atI x.cps.toList i) fun c => Q (.v (.str ⟨#[c]⟩))) := by
  show (x.length ≤ sizeLine ∧ match L2.atI x.cps.toList i with | some c => Q (.v (.str ⟨#[c]⟩)) | none => False) = _
  cases L2.atI x.cps.toList i <;> rfl
theorem dGet_dct (kk : KK) (l : List (D × D)) (k : D) (Q : R → Prop) : dGet (.dct kk l) k Q = (D.isKey kk k = true ∧ withO (lookD l k) fun d => Q (.v d)) := by
  have e : dGet (.dct kk l) k Q = (D.isKey kk k = true ∧ match lookD l k with | some d => Q (.v d) | none => False) := by cases k <;> rfl
  rw [e]
  cases lookD l k <;> rfl
theorem gsNil_ap (t : TSt) (k : TSt → Prop) : gsNil [] t k = k t := rfl
theorem gsCons_ap (a : WG) (b : WGs) (d : D) (r : List D) (t : TSt) (k : TSt → Prop) : gsCons a b (d :: r) t k = a d t fun t1 => b r t1 k := rfl
theorem nIsi_ap (d : D) (n : String) (Q : R → Prop) : nIsi [d, .ty n] Q = withO (isiD d n) fun b => Q (.v (.bl b)) := by
  show (match isiD d n with | some b => Q (.v (.bl b)) | none => False) = _
  cases isiD d n <;> rfl
theorem wVar_ap (i : Nat) (W : TX) (t : TSt) (Q : R → TSt → Prop) : (wVar i W t Q) = (withO (varS t i) fun p => Q (.v p.1) p.2) := by
  unfold wVar varS
  cases h : t[i]? with
  | none => rfl
  | some s =>
    cases s with
    | un => rfl
    | v d => rfl
    | bor c => rfl
    | own c => show (match c.d? with | some d => Q (.v d) (t.set i (.v d)) | none => False) = withO (c.d?.map fun d => (d, t.set i (.v d))) _; cases c.d? <;> rfl
theorem wC_ap (d : D) (W : TX) (t : TSt) (Q : R → TSt → Prop) : (wC d W t Q) = (Q (.v d) t) := rfl
theorem wBin_ap (o : Op2) (a b : WE) (W : TX) (t : TSt) (Q : R → TSt → Prop) : (wBin o a b W t Q) = (a W t fun r t1 => fz r fun x => b W t1 fun r' t2 => fz r' fun y => o x y fun z => Q z t2) := rfl
theorem wBinK_ap (o : Op2) (a : WE) (i : Nat) (W : TX) (t : TSt) (Q : R → TSt → Prop) : (wBinK o a i W t Q) = (a W t fun r t1 => fz r fun x => pk t1 i fun y => o x y fun z => Q z t1) := rfl
theorem wTB_ap (w : WE) (W : TX) (t : TSt) (Q : Bool → TSt → Prop) : (wTB w W t Q) = (w W t fun r t1 => rB (fun b => Q b t1) r) := rfl
theorem wTru_ap (w : WE) (W : TX) (t : TSt) (Q : Bool → TSt → Prop) : (wTru w W t Q) = (w W t fun r t1 => fz r fun d => truD (fun b => Q b t1) d) := rfl
theorem wAnd_ap (c d : WT) (W : TX) (t : TSt) (Q : Bool → TSt → Prop) : (wAnd c d W t Q) = (c W t fun b t1 => if b = true then d W t1 Q else Q false t1) := rfl
theorem wOr_ap (c d : WT) (W : TX) (t : TSt) (Q : Bool → TSt → Prop) : (wOr c d W t Q) = (c W t fun b t1 => if b = true then Q true t1 else d W t1 Q) := rfl
theorem wNot_ap (c : WT) (W : TX) (t : TSt) (Q : Bool → TSt → Prop) : (wNot c W t Q) = (c W t fun b t1 => Q (!b) t1) := rfl
theorem wAndV_ap (a b : WE) (W : TX) (t : TSt) (Q : R → TSt → Prop) : (wAndV a b W t Q) = (a W t fun r t1 => rB (fun c => if c = true then b W t1 Q else Q (.v (.bl false)) t1) r) := rfl
theorem wOrV_ap (a b : WE) (W : TX) (t : TSt) (Q : R → TSt → Prop) : (wOrV a b W t Q) = (a W t fun r t1 => rB (fun c => if c = true then Q (.v (.bl true)) t1 else b W t1 Q) r) := rfl
theorem wNotT_ap (a : WE) (W : TX) (t : TSt) (Q : R → TSt → Prop) : (wNotT a W t Q) = (a W t fun r t1 => fz r fun d => truD (fun c => Q (.v (.bl (!c))) t1) d) := rfl
theorem wIte_ap (c : WT) (a b : WE) (W : TX) (t : TSt) (Q : R → TSt → Prop) : (wIte c a b W t Q) = (c W t fun k t1 => if k = true then a W t1 Q else b W t1 Q) := rfl
theorem wCh_ap (o o' : Op2) (a b c : WE) (W : TX) (t : TSt) (Q : R → TSt → Prop) : (wCh o o' a b c W t Q) = (a W t fun r t1 => fz r fun x => b W t1 fun r' t2 => fz r' fun y => o x y fun z => rB (fun k => if k = true then c W t2 fun r'' t3 => fz r'' fun w => o' y w fun z' => Q z' t3 else Q (.v (.bl false)) t2) z) := rfl
theorem wNext_ap (W : TX) (t : TSt) (nx : TSt → Prop) (rt : R → TSt → Prop) (bk ct : TSt → Prop) : (wNext W t ⟨nx, rt, bk, ct⟩) = (nx t) := rfl
theorem wSeq_ap (a b : WS) (W : TX) (t : TSt) (nx : TSt → Prop) (rt : R → TSt → Prop) (bk ct : TSt → Prop) : (wSeq a b W t ⟨nx, rt, bk, ct⟩) = (a W t ⟨fun t1 => b W t1 ⟨nx, rt, bk, ct⟩, rt, bk, ct⟩) := rfl
theorem wDrop_ap (a : WE) (W : TX) (t : TSt) (nx : TSt → Prop) (rt : R → TSt → Prop) (bk ct : TSt → Prop) : (wDrop a W t ⟨nx, rt, bk, ct⟩) = (a W t fun _ t1 => nx t1) := rfl
theorem wRet_ap (a : WE) (W : TX) (t : TSt) (nx : TSt → Prop) (rt : R → TSt → Prop) (bk ct : TSt → Prop) : (wRet a W t ⟨nx, rt, bk, ct⟩) = (a W t rt) := rfl
theorem wBrk_ap (W : TX) (t : TSt) (nx : TSt → Prop) (rt : R → TSt → Prop) (bk ct : TSt → Prop) : (wBrk W t ⟨nx, rt, bk, ct⟩) = (bk t) := rfl
theorem wCnt_ap (W : TX) (t : TSt) (nx : TSt → Prop) (rt : R → TSt → Prop) (bk ct : TSt → Prop) : (wCnt W t ⟨nx, rt, bk, ct⟩) = (ct t) := rfl
theorem wIf_ap (c : WT) (a b : WS) (W : TX) (t : TSt) (nx : TSt → Prop) (rt : R → TSt → Prop) (bk ct : TSt → Prop) : (wIf c a b W t ⟨nx, rt, bk, ct⟩) = (c W t fun k t1 => if k = true then a W t1 ⟨nx, rt, bk, ct⟩ else b W t1 ⟨nx, rt, bk, ct⟩) := rfl
theorem wSet_ap (i : Nat) (a : WE) (W : TX) (t : TSt) (nx : TSt → Prop) (rt : R → TSt → Prop) (bk ct : TSt → Prop) : (wSet i a W t ⟨nx, rt, bk, ct⟩) = (a W t fun r t1 => stR i r t1 nx) := rfl
theorem wAsg_ap (a : WE) (g : WG) (W : TX) (t : TSt) (nx : TSt → Prop) (rt : R → TSt → Prop) (bk ct : TSt → Prop) : (wAsg a g W t ⟨nx, rt, bk, ct⟩) = (a W t fun r t1 => fz r fun d => g d t1 nx) := rfl
theorem wPar_ap (i j : Nat) (a : WA) (W : TX) (t : TSt) (nx : TSt → Prop) (rt : R → TSt → Prop) (bk ct : TSt → Prop) : (wPar i j a W t ⟨nx, rt, bk, ct⟩) = (a W t fun ds t1 => withO (two? ds) fun p => stR i (.v p.1) t1 fun t2 => stR j (.v p.2) t2 nx) := by
  unfold wPar
  congr 1
  funext ds t1
  cases ds with
  | nil => rfl
  | cons x r => cases r with
    | nil => rfl
    | cons y r => cases r <;> rfl
theorem wAug_ap (i : Nat) (o : Op2) (a : WE) (W : TX) (t : TSt) (nx : TSt → Prop) (rt : R → TSt → Prop) (bk ct : TSt → Prop) : (wAug i o a W t ⟨nx, rt, bk, ct⟩) = (withO (vAt t i) fun x => a W t fun r t1 => fz r fun y => o x y fun z => stR i z t1 nx) := by
  unfold wAug vAt
  cases t[i]? with
  | none => rfl
  | some s => cases s <;> rfl
theorem wFor_ap (i : WI) (g : WG) (b : WS) (W : TX) (t : TSt) (nx : TSt → Prop) (rt : R → TSt → Prop) (bk ct : TSt → Prop) : (wFor i g b W t ⟨nx, rt, bk, ct⟩) = (i W t fun ds t1 => forK g b W ds t1 ⟨nx, rt, bk, ct⟩) := rfl
theorem wItS_ap (a : WE) (W : TX) (t : TSt) (Q : List D → TSt → Prop) : (wItS a W t Q) = (a W t fun r t1 => fz r fun d => itD (fun l => Q l t1) d) := rfl
theorem wR1_ap (a : WA) (W : TX) (t : TSt) (Q : List D → TSt → Prop) : (wR1 a W t Q) = (a W t fun ds t1 => withO (int1? ds) fun j => small j ∧ Q (rangeD 0 1 j.toNat) t1) := by
  unfold wR1
  congr 1
  funext ds t1
  have z := int1_w ds
  split
  · rfl
  · rw [z (by assumption)]; rfl
theorem wR2_ap (a : WA) (W : TX) (t : TSt) (Q : List D → TSt → Prop) : (wR2 a W t Q) = (a W t fun ds t1 => withO (int2? ds) fun p => small p.1 ∧ small p.2 ∧ Q (rangeD p.1 1 (p.2 - p.1).toNat) t1) := by
  unfold wR2
  congr 1
  funext ds t1
  have z := int2_w ds
  split
  · rfl
  · rw [z (by assumption)]; rfl
theorem wR3_ap (a : WA) (W : TX) (t : TSt) (Q : List D → TSt → Prop) : (wR3 a W t Q) = (a W t fun ds t1 => withO (int3? ds) fun p => ∃ n, RgC p.1 p.2.1 p.2.2 n ∧ Q (rangeD p.1 p.2.2 n) t1) := by
  unfold wR3
  congr 1
  funext ds t1
  have z := int3_w ds
  split
  · rfl
  · rw [z (by assumption)]; rfl
theorem wNil_ap (W : TX) (t : TSt) (Q : List D → TSt → Prop) : (wNil W t Q) = (Q [] t) := rfl
theorem wCons_ap (a : WE) (b : WA) (W : TX) (t : TSt) (Q : List D → TSt → Prop) : (wCons a b W t Q) = (a W t fun r t1 => fz r fun d => b W t1 fun ds t2 => Q (d :: ds) t2) := rfl
theorem gN_ap (i : Nat) (d : D) (t : TSt) (k : TSt → Prop) : (gN i d t k) = (stR i (.v d) t k) := rfl
theorem wYes_ap (W : TX) (t : TSt) (Q : Bool → TSt → Prop) : (wYes W t Q) = (Q true t) := rfl
theorem wLc_ap (i : WI) (g : WG) (c : WT) (e : WE) (vs : List Nat) (W : TX) (t : TSt) (Q : R → TSt → Prop) : (wLc i g c e vs W t Q) = (i W t fun ds t1 => lcK g c e vs ds [] (wipeT t1 vs) fun acc t2 => Q (.own (.lst acc)) t2) := rfl
theorem aNil_ap (W : TX) (t : TSt) (Q : List AV → TSt → Prop) : (aNil W t Q) = (Q [] t) := rfl
theorem aV_ap (a : WE) (b : WAA) (W : TX) (t : TSt) (Q : List AV → TSt → Prop) : (aV a b W t Q) = (a W t fun r t1 => fz r fun d => b W t1 fun ds t2 => Q (.inl d :: ds) t2) := rfl
theorem aR_ap (i : Nat) (b : WAA) (W : TX) (t : TSt) (Q : List AV → TSt → Prop) : (aR i b W t Q) = (withO (cellAt t i) fun _ => b W t fun ds t2 => Q (.inr i :: ds) t2) := by
  unfold aR cellAt
  cases t[i]? with
  | none => rfl
  | some s => cases s <;> rfl
theorem wNeg_ap (a : WE) (W : TX) (t : TSt) (Q : R → TSt → Prop) : (wNeg a W t Q) = (a W t fun r t1 => withO (rint? r) fun i => Q (.v (.int (-i))) t1) := by
  unfold wNeg
  congr 1
  funext r t1
  cases r with
  | own c => rfl
  | v d => cases d <;> rfl
theorem wTup_ap (a : WA) (W : TX) (t : TSt) (Q : R → TSt → Prop) : (wTup a W t Q) = (a W t fun ds t1 => ds.length ≤ sizeLine ∧ Q (.v (.tup ds)) t1) := rfl
theorem wLst_ap (a : WA) (W : TX) (t : TSt) (Q : R → TSt → Prop) : (wLst a W t Q) = (a W t fun ds t1 => ds.length ≤ sizeLine ∧ Q (.own (.lst ds)) t1) := rfl
theorem wBi_ap (o : OpN) (a : WA) (W : TX) (t : TSt) (Q : R → TSt → Prop) : (wBi o a W t Q) = (a W t fun ds t1 => o ds fun r => Q r t1) := rfl
theorem wBiK_ap (o : OpN) (i : Nat) (W : TX) (t : TSt) (Q : R → TSt → Prop) : (wBiK o i W t Q) = (pk t i fun d => o [d] fun r => Q r t) := rfl
theorem wSubK_ap (o : Op2) (i : Nat) (b : WE) (W : TX) (t : TSt) (Q : R → TSt → Prop) : (wSubK o i b W t Q) = (pk t i fun _ => b W t fun r t1 => fz r fun y => pk t1 i fun x => o x y fun z => Q z t1) := rfl
theorem oNone_ap (W : TX) (t : TSt) (Q : Option Int → TSt → Prop) : (oNone W t Q) = (Q none t) := rfl
theorem oSome_ap (a : WE) (W : TX) (t : TSt) (Q : Option Int → TSt → Prop) : (oSome a W t Q) = (a W t fun r t1 => withO (rint? r) fun i => Q (some i) t1) := by
  unfold oSome
  congr 1
  funext r t1
  cases r with
  | own c => rfl
  | v d => cases d <;> rfl
theorem wSl_ap (a : WE) (lo hi : WO) (W : TX) (t : TSt) (Q : R → TSt → Prop) : (wSl a lo hi W t Q) = (a W t fun r t1 => fz r fun d => lo W t1 fun l t2 => hi W t2 fun h t3 => dSl d l h fun z => Q z t3) := rfl
theorem wApp_ap (i : Nat) (a : WA) (W : TX) (t : TSt) (Q : R → TSt → Prop) : (wApp i a W t Q) = (onLst t i fun _ => a W t fun ds t1 => withO (one? ds) fun d => onLst t1 i fun l => l.length < sizeLine ∧ Q (.v .non) (setCell t1 i (.lst (l ++ [d])))) := by
  unfold wApp
  congr 1
  funext l0
  congr 1
  funext ds t1
  cases ds with
  | nil => rfl
  | cons x r => cases r <;> rfl
theorem wExt_ap (i : Nat) (a : WA) (W : TX) (t : TSt) (Q : R → TSt → Prop) : (wExt i a W t Q) = (onLst t i fun _ => a W t fun ds t1 => withO (oneL? ds) fun m => onLst t1 i fun l => l.length + m.length ≤ sizeLine ∧ Q (.v .non) (setCell t1 i (.lst (l ++ m)))) := by
  unfold wExt
  congr 1
  funext l0
  congr 1
  funext ds t1
  cases ds with
  | nil => rfl
  | cons x r => cases x <;> cases r <;> rfl
theorem wPop_ap (i : Nat) (W : TX) (t : TSt) (Q : R → TSt → Prop) : (wPop i W t Q) = (onLst t i fun l => withO (l[l.length - 1]?) fun d => Q (.v d) (setCell t i (.lst l.dropLast))) := by
  unfold wPop withO
  congr 1
  funext l
  cases l[l.length - 1]? <;> rfl
theorem wPut_ap (i : Nat) (key val : WE) (W : TX) (t : TSt) (nx : TSt → Prop) (rt : R → TSt → Prop) (bk ct : TSt → Prop) : (wPut i key val W t ⟨nx, rt, bk, ct⟩) = (val W t fun r t1 => fz r fun d => (cellAt t1 i).isSome = true ∧ key W t1 fun r' t2 => fz r' fun k => putC t2 i k d nx) := rfl
theorem wAugS_ap (i : Nat) (o : Op2) (key val : WE) (W : TX) (t : TSt) (nx : TSt → Prop) (rt : R → TSt → Prop) (bk ct : TSt → Prop) : (wAugS i o key val W t ⟨nx, rt, bk, ct⟩) = ((cellAt t i).isSome = true ∧ key W t fun r t1 => fz r fun k => getC t1 i k fun x => val W t1 fun r' t2 => fz r' fun y => o x y fun z => fz z fun d => putC t2 i k d nx) := rfl
theorem wDnew_ap (kk : KK) (W : TX) (t : TSt) (Q : R → TSt → Prop) : (wDnew kk W t Q) = (Q (.own (.dct kk [])) t) := rfl
theorem kNil_ap (W : TX) (t : TSt) (Q : List (D × D) → TSt → Prop) : (kNil W t Q) = (Q [] t) := rfl
theorem kCons_ap (a b : WE) (c : WK) (W : TX) (t : TSt) (Q : List (D × D) → TSt → Prop) : (kCons a b c W t Q) = (a W t fun r t1 => fz r fun k => b W t1 fun r' t2 => fz r' fun v => c W t2 fun ps t3 => Q ((k, v) :: ps) t3) := rfl
theorem wDisp_ap (ws : List (WE × WE)) (W : TX) (t : TSt) (Q : R → TSt → Prop) : (wDisp ws W t Q) = (wPairs ws noX t fun ps t1 => ps.length ≤ 15 ∧ (ps.all fun p => D.isKey .k p.1) = true ∧ Q (.own (.dct .k (mergeD [] ps))) t1) := rfl
theorem md_zero {α : Type} (a : α) (l : List α) (f : α → α) : (a :: l).modify 0 f = f a :: l := rfl
theorem md_succ {α : Type} (a : α) (l : List α) (i : Nat) (f : α → α) : (a :: l).modify (i + 1) f = a :: l.modify i f := rfl
theorem refsA_nil : refsA [] = [] := rfl
theorem refsA_inl (d : D) (l : List AV) : refsA (.inl d :: l) = refsA l := rfl
theorem refsA_inr (i : Nat) (l : List AV) : refsA (.inr i :: l) = i :: refsA l := rfl
end TL
namespace TL
open PySem PySem.Spec PyProof.Rows L2
section
variable {B : Base} {X : Cx}
theorem repsRg {K : PySem.W.Frag} {F : Hp} (a b : Int) : Reps K F (rangeD a 1 (b - a).toNat) (rgV a b) := by
  unfold rangeD rgV
  generalize (b - a).toNat = n
  generalize List.range n = l
  induction l with
  | nil => exact .nil
  | cons x l ih =>
    rw [List.map_cons, List.map_cons]
    refine .cons ?_ ih
    rw [Int.mul_one]
    exact .int _
def wLrg1 (a : WE) : WE := fun W t Q => a W t fun r t1 => match r with
  | .v (.int i) => RgOk 0 i ∧ Q (.own (.lst (rangeD 0 1 (i - 0).toNat))) t1
  | _ => False
def wTrg1 (a : WE) : WE := fun W t Q => a W t fun r t1 => match r with
  | .v (.int i) => RgOk 0 i ∧ Q (.v (.tup (rangeD 0 1 (i - 0).toNat))) t1
  | _ => False
theorem T_lrg1 {e : Expr} {we : WE} {p p2 pos pos2 : Pos} (hm : X.mg "list" = none) (hm2 : X.mg "range" = none) (he : PET B X e we) (hc : X.calm = true := by rfl) (hg : Gl X "list" := by rfl) (hg2 : Gl X "range" := by rfl)
    (n1 : starEach [.Call (.Name "range" p2) [e] [] pos2] X.env = (false, eval (.Call (.Name "range" p2) [e] [] pos2) X.env) :: starEach [] X.env := by rfl) (n2 : starEach [e] X.env = (false, eval e X.env) :: starEach [] X.env := by rfl) :
    PET B X (.Call (.Name "list" p) [.Call (.Name "range" p2) [e] [] pos2] [] pos) (wLrg1 we) := fun W tk => PE.imp (pe_listRg hc hg hm (prg_1 hg2 hm2 (he W tk) n2) n1) fun σ H Q h => by
  obtain ⟨g, t, P, rl, m, k⟩ := h
  refine ⟨g, t, _, rl, m, fun r1 t1 m1 g1 v1 H1 s1 rl1 rr1 => ?_⟩
  split at m1
  · cases (show Rep X.K g1.F (.int _) v1 from rr1)
    refine ⟨_, rfl, m1.1, fun p hp => ?_⟩
    obtain ⟨rl', rr⟩ := newOwn rl1 hp (repsRg 0 _)
    exact k _ _ m1.2 g1 _ _ s1 rl' rr
  · exact m1.elim
def wPar3 (i j l : Nat) (a : WA) : WS := fun W t D => a W t fun ds t1 => match ds with
  | [x, y, z] => stR i (.v x) t1 fun t2 => stR j (.v y) t2 fun t3 => stR l (.v z) t3 D.nx
  | _ => False
end
def int? : R → Option Int
  | .v (.int i) => some i
  | _ => none
theorem wLrg1_ap (a : WE) (W : TX) (t : TSt) (Q : R → TSt → Prop) : wLrg1 a W t Q = a W t fun r t1 => withO (int? r) fun i => RgOk 0 i ∧ Q (.own (.lst (rangeD 0 1 (i - 0).toNat))) t1 := by
  unfold wLrg1
  congr 1
  funext r t1
  rcases r with ⟨d⟩ | c
  · cases d <;> rfl
  · rfl
theorem wTrg1_ap (a : WE) (W : TX) (t : TSt) (Q : R → TSt → Prop) : wTrg1 a W t Q = a W t fun r t1 => withO (int? r) fun i => RgOk 0 i ∧ Q (.v (.tup (rangeD 0 1 (i - 0).toNat))) t1 := by
  unfold wTrg1
  congr 1
  funext r t1
  rcases r with ⟨d⟩ | c
  · cases d <;> rfl
  · rfl
def three? : List D → Option (D × D × D)
  | [a, b, c] => some (a, b, c)
  | _ => none
theorem wPar3_ap (i j l : Nat) (a : WA) (W : TX) (t : TSt) (nx : TSt → Prop) (rt : R → TSt → Prop) (bk ct : TSt → Prop) : wPar3 i j l a W t ⟨nx, rt, bk, ct⟩ = a W t fun ds t1 => withO (three? ds) fun p => stR i (.v p.1) t1 fun t2 => stR j (.v p.2.1) t2 fun t3 => stR l (.v p.2.2) t3 nx := by
  unfold wPar3
  congr 1
  funext ds t1
  match ds with
  | [] => rfl
  | [_] => rfl
  | [_, _] => rfl
  | [_, _, _] => rfl
  | _ :: _ :: _ :: _ :: _ => rfl
end TL
namespace TL
open PySem PySem.Spec PyProof.Rows L2
structure Enc (α : Type) where
  enc : α → D
  dep : Nat
  pl : ∀ a, (enc a).pl = true
  de : ∀ a, (enc a).py.depth ≤ dep
  eq : ∀ a b, pyEq (enc a) (enc b) = true ↔ a = b
theorem Enc.eqOk {α : Type} (e : Enc α) (h : e.dep ≤ 64) (a b : α) : eqOk (e.enc a) (e.enc b) := ⟨e.pl a, e.pl b, by have := e.de a; omega⟩
theorem Enc.eqb {α : Type} [DecidableEq α] (e : Enc α) (a b : α) : pyEq (e.enc a) (e.enc b) = decide (a = b) := by
  by_cases h : a = b
  · rw [decide_eq_true h]; exact (e.eq a b).mpr h
  · rw [decide_eq_false h]; exact Bool.eq_false_iff.mpr fun z => h ((e.eq a b).mp z)
theorem Enc.dEq {α : Type} [DecidableEq α] (e : Enc α) (h : e.dep ≤ 64) (a b : α) (Q : R → Prop) : dEq (e.enc a) (e.enc b) Q = Q (.v (.bl (decide (a = b)))) := by
  unfold TL.dEq
  rw [e.eqb]
  exact propext ⟨fun z => z.2, fun z => ⟨e.eqOk h a b, z⟩⟩
theorem Enc.dNe {α : Type} [DecidableEq α] (e : Enc α) (h : e.dep ≤ 64) (a b : α) (Q : R → Prop) : dNe (e.enc a) (e.enc b) Q = Q (.v (.bl (!decide (a = b)))) := by
  unfold TL.dNe
  rw [e.eqb]
  exact propext ⟨fun z => z.2, fun z => ⟨e.eqOk h a b, z⟩⟩
theorem pyEq_int (i j : Int) : pyEq (.int i) (.int j) = true ↔ i = j := by
  show PyData.eqv (.int i) (.int j) = true ↔ _
  unfold PyData.eqv
  simp
def encI : Enc Int := ⟨.int, 0, fun _ => rfl, fun i => by rw [show (D.int i).py = .int i from rfl, depth_int]; exact Nat.le_refl _, pyEq_int⟩
theorem pyL_eq {α : Type} (e : Enc α) : ∀ a b : List α, PyData.eqvAll (D.pyL (a.map e.enc)) (D.pyL (b.map e.enc)) = true ↔ a = b
  | [], [] => by simp [D.pyL, PyData.eqvAll]
  | [], _ :: _ => by simp [D.pyL, PyData.eqvAll]
  | _ :: _, [] => by simp [D.pyL, PyData.eqvAll]
  | x :: a, y :: b => by
    have h1 := e.eq x y
    have h2 := pyL_eq e a b
    show (PyData.eqv (e.enc x).py (e.enc y).py && PyData.eqvAll (D.pyL (a.map e.enc)) (D.pyL (b.map e.enc))) = true ↔ _
    rw [Bool.and_eq_true, h2]
    rw [show (PyData.eqv (e.enc x).py (e.enc y).py = true) = (pyEq (e.enc x) (e.enc y) = true) from rfl, h1]
    simp
theorem plL_map {α : Type} (e : Enc α) : ∀ a : List α, D.plL (a.map e.enc) = true
  | [] => rfl
  | x :: a => by show ((e.enc x).pl && _) = true; rw [e.pl, plL_map e a]; rfl
theorem depL_map {α : Type} (e : Enc α) : ∀ a : List α, PyData.depthAll (D.pyL (a.map e.enc)) ≤ e.dep
  | [] => by simp [D.pyL, PyData.depthAll]
  | x :: a => by
    have h1 := e.de x
    have h2 := depL_map e a
    show PyData.depthAll ((e.enc x).py :: D.pyL (a.map e.enc)) ≤ _
    unfold PyData.depthAll
    omega
def encT {α : Type} (e : Enc α) : Enc (List α) := ⟨fun l => .tup (l.map e.enc), e.dep + 1, fun l => plL_map e l, fun l => by
    show (PyData.tuple (D.pyL (l.map e.enc))).depth ≤ _
    unfold PyData.depth
    have := depL_map e l
    omega, fun a b => by
    show PyData.eqv (.tuple _) (.tuple _) = true ↔ _
    unfold PyData.eqv
    exact pyL_eq e a b⟩
end TL
namespace TL
open PySem PySem.Spec PyProof.Rows L2
def oP {α : Type} (o : Option α) (k : α → Prop) : Prop := match o with
  | some x => k x
  | none => False
theorem oP_some {α : Type} (x : α) (k : α → Prop) : oP (some x) k = k x := rfl
theorem oP_none {α : Type} (k : α → Prop) : oP none k = False := rfl
theorem oP_bind {α β : Type} (o : Option α) (f : α → Option β) (k : β → Prop) : oP (o.bind f) k = oP o fun a => oP (f a) k := by cases o <;> rfl
theorem oP_ite {α : Type} {c : Prop} [Decidable c] (a b : Option α) (k : α → Prop) : oP (if c then a else b) k = if c then oP a k else oP b k := by split <;> rfl
theorem withO_oP {α : Type} (o : Option α) (k : α → Prop) (g : Tg k) : withO o k g = oP o k := by cases o <;> rfl
theorem oP_get {α : Type} {o : Option α} {k : α → Prop} (h : oP o k) : ∃ x, o = some x ∧ k x := by
  cases o with
  | none => exact h.elim
  | some x => exact ⟨x, rfl, h⟩
inductive SO (σ ρ : Type) where
  | nx (s : σ) | rt (r : ρ)
def SO.cs {σ ρ : Type} {β : Sort u} (o : SO σ ρ) (f : σ → β) (g : ρ → β) : β := match o with
  | .nx s => f s
  | .rt r => g r
theorem SO.cs_nx {σ ρ : Type} {β : Sort u} (s : σ) (f : σ → β) (g : ρ → β) : (SO.nx s : SO σ ρ).cs f g = f s := rfl
theorem SO.cs_rt {σ ρ : Type} {β : Sort u} (r : ρ) (f : σ → β) (g : ρ → β) : (SO.rt r : SO σ ρ).cs f g = g r := rfl
theorem oP_cs {σ ρ β : Type} (o : SO σ ρ) (f : σ → Option β) (g : ρ → Option β) (k : β → Prop) : oP (o.cs f g) k = o.cs (fun s => oP (f s) k) (fun r => oP (g r) k) := by cases o <;> rfl
inductive WH (σ ρ : Type) where
  | go (s : σ) | dn (s : σ) | rt (r : ρ)
def WH.cs {σ ρ : Type} {β : Sort u} (o : WH σ ρ) (e : σ → β) (f : σ → β) (g : ρ → β) : β := match o with
  | .go s => e s
  | .dn s => f s
  | .rt r => g r
theorem WH.cs_go {σ ρ : Type} {β : Sort u} (s : σ) (e f : σ → β) (g : ρ → β) : (WH.go s : WH σ ρ).cs e f g = e s := rfl
theorem WH.cs_dn {σ ρ : Type} {β : Sort u} (s : σ) (e f : σ → β) (g : ρ → β) : (WH.dn s : WH σ ρ).cs e f g = f s := rfl
theorem WH.cs_rt {σ ρ : Type} {β : Sort u} (r : ρ) (e f : σ → β) (g : ρ → β) : (WH.rt r : WH σ ρ).cs e f g = g r := rfl
inductive GO where
  | kp | fz | kl
def killS : Slot → Slot
  | .bor c => .bor c
  | _ => .un
def frzS : Slot → Slot
  | .own (.lst l) => .v (.lst l)
  | .own (.dct kk l) => .v (.dct kk l)
  | s => s
def ghZ : List GO → TSt → TSt
  | .kp :: g, s :: t => s :: ghZ g t
  | .fz :: g, s :: t => frzS s :: ghZ g t
  | .kl :: g, s :: t => killS s :: ghZ g t
  | _, t => t
/-- false: forgotten -/
def klZ : List Bool → TSt → TSt
  | true :: g, s :: t => s :: klZ g t
  | false :: g, s :: t => killS s :: klZ g t
  | _, t => t
section
variable {K : PySem.W.Frag} {B : Base} {g : Gh} {H : Hp} {σ : L2.St}
theorem Rel.swap {pre t : TSt} {s u : Slot} (r : Rel K B g (pre ++ s :: t) σ H) (h : SlotRel K B g H pre.length σ[pre.length]? s → SlotRel K B g H pre.length σ[pre.length]? u) : Rel K B g (pre ++ u :: t) σ H := by
  refine ⟨r.base, r.sub, r.ff, r.old, r.ft, r.dm, r.there, by have := r.len; simpa using this, fun j v e => ?_⟩
  by_cases hj : j = pre.length
  · subst hj
    have : v = u := by simpa using e.symm
    subst this
    exact h (r.slot _ _ (by simp))
  · refine r.slot j v ?_
    rcases Nat.lt_or_gt_of_ne hj with z | z
    · rw [List.getElem?_append_left z] at e ⊢; exact e
    · rw [List.getElem?_append_right (by omega)] at e ⊢
      obtain ⟨k, hk⟩ : ∃ k, j - pre.length = k + 1 := ⟨j - pre.length - 1, by omega⟩
      rw [hk] at e ⊢
      simpa using e
theorem kill_ok {i : Nat} {x : Option (Option V)} {s : Slot} (h : SlotRel K B g H i x s) : SlotRel K B g H i x (killS s) := by
  cases s with
  | bor c => exact h
  | _ => trivial
theorem kl_rel : ∀ (ks : List Bool) (pre t : TSt), Rel K B g (pre ++ t) σ H → Rel K B g (pre ++ klZ ks t) σ H
  | [], pre, t, r => by cases t <;> exact r
  | true :: ks, pre, [], r => r
  | false :: ks, pre, [], r => r
  | true :: ks, pre, s :: t, r => by
    have := kl_rel ks (pre ++ [s]) t (by rw [List.append_assoc]; exact r)
    rw [List.append_assoc] at this; exact this
  | false :: ks, pre, s :: t, r => by
    have r1 := r.swap (u := killS s) kill_ok
    have := kl_rel ks (pre ++ [killS s]) t (by rw [List.append_assoc]; exact r1)
    rw [List.append_assoc] at this; exact this
theorem Rel.kl {ks : List Bool} {t : TSt} (r : Rel K B g t σ H) : Rel K B g (klZ ks t) σ H := kl_rel ks [] t r
theorem frz_one {pre t : TSt} {s : Slot} (r : Rel K B g (pre ++ s :: t) σ H) : ∃ g', Same g.F g'.F ∧ Rel K B g' (pre ++ frzS s :: t) σ H := by
  have key : ∀ c d, s = .own c → c.d? = some d → ∃ g', Same g.F g'.F ∧ Rel K B g' (pre ++ .v d :: t) σ H := by
    intro c d e hd
    obtain ⟨g', v, s1, r1, _, _⟩ := r.freezeSlot (i := pre.length) (c := c) (by subst e; simp) hd
    refine ⟨g', s1, ?_⟩
    have e2 : (pre ++ s :: t).set pre.length (.v d) = pre ++ .v d :: t := by simp
    rw [e2] at r1; exact r1
  cases s with
  | own c => cases c with
    | lst l => exact key _ _ rfl rfl
    | dct kk l => exact key _ _ rfl rfl
    | ins _ _ => exact ⟨g, sRefl, r⟩
  | _ => exact ⟨g, sRefl, r⟩
theorem gh_pre : ∀ (gs : List GO) (g : Gh) (pre t : TSt), Rel K B g (pre ++ t) σ H → ∃ g', Same g.F g'.F ∧ Rel K B g' (pre ++ ghZ gs t) σ H
  | [], g, pre, t, r => ⟨g, sRefl, by cases t <;> exact r⟩
  | .kp :: gs, g, pre, [], r => ⟨g, sRefl, r⟩
  | .fz :: gs, g, pre, [], r => ⟨g, sRefl, r⟩
  | .kl :: gs, g, pre, [], r => ⟨g, sRefl, r⟩
  | .kp :: gs, g, pre, s :: t, r => by
    obtain ⟨g', h1, h2⟩ := gh_pre gs g (pre ++ [s]) t (by rw [List.append_assoc]; exact r)
    rw [List.append_assoc] at h2; exact ⟨g', h1, h2⟩
  | .kl :: gs, g, pre, s :: t, r => by
    have r1 := r.swap (u := killS s) kill_ok
    obtain ⟨g', h1, h2⟩ := gh_pre gs g (pre ++ [killS s]) t (by rw [List.append_assoc]; exact r1)
    rw [List.append_assoc] at h2; exact ⟨g', h1, h2⟩
  | .fz :: gs, g, pre, s :: t, r => by
    obtain ⟨g1, h0, r1⟩ := frz_one r
    obtain ⟨g', h1, h2⟩ := gh_pre gs g1 (pre ++ [frzS s]) t (by rw [List.append_assoc]; exact r1)
    rw [List.append_assoc] at h2; exact ⟨g', h0.trans h1, h2⟩
theorem Rel.gh {gs : List GO} {t : TSt} (r : Rel K B g t σ H) : ∃ g', Same g.F g'.F ∧ Rel K B g' (ghZ gs t) σ H := gh_pre gs g [] t r
end
def wGhN (gs : List GO) : WS := fun _ t D => D.nx (ghZ gs t)
def wRetG (ks : List Bool) (a : WE) : WS := fun W t D => a W t fun r t1 => D.rt r (klZ ks t1)
def wFr (a : WE) : WE := fun W t Q => a W t fun r t1 => fz r fun d => Q (.v d) t1
def wGhE (gs : List GO) (a : WE) : WE := fun W t Q => a W (ghZ gs t) Q
def wGX (ks : List Bool) (a : WE) : WE := fun W t Q => a (fun cls pay t1 => W cls pay (klZ ks t1)) t Q
def lenOk (ds : List D) : Prop := ds.length ≤ sizeLine
def wIG (i : WI) : WI := fun W t Q => i W t fun ds t1 => lenOk ds ∧ Q ds t1
section
variable {B : Base} {X : Cx} {e c : Expr} {w : WE} {st : Stmt} {sts : List Stmt} {u : WS} {pos : Pos} {gs : List GO} {ks : List Bool}
theorem S_ghE (h : PSsT B X sts u) : PSsT B X sts (wSeq u (wGhN gs)) := fun W tk => PSs.imp (h W tk) fun D σ H q => by
  obtain ⟨g, t, P, rl, m, k1, k2, k3, k4⟩ := q
  refine ⟨g, t, _, rl, m, fun t' m' g' σ' H' s' rl' => ?_, k2, k3, k4⟩
  obtain ⟨g2, s2, rl2⟩ := rl'.gh (gs := gs)
  exact k1 _ m' g2 σ' H' (s'.trans s2) rl2
theorem S_gh1 (h : PST B X st u) : PST B X st (wSeq (wGhN gs) u) := fun W tk => PS.imp (h W tk) fun D σ H q => by
  obtain ⟨g, t, P, rl, m, k1, k2, k3, k4⟩ := q
  obtain ⟨g2, s2, rl2⟩ := rl.gh (gs := gs)
  exact ⟨g2, _, P, rl2, m, fun t' m' g' σ' H' s' rl' => k1 t' m' g' σ' H' (s2.trans s') rl', fun r t' m' g' σ' v' H' s' rl' => k2 r t' m' g' σ' v' H' (s2.trans s') rl', fun t' m' g' σ' H' s' rl' => k3 t' m' g' σ' H' (s2.trans s') rl', fun t' m' g' σ' H' s' rl' => k4 t' m' g' σ' H' (s2.trans s') rl'⟩
theorem S_retG (h : PET B X e w) : PST B X (.Return (some e) pos) (wRetG ks w) := fun W tk => PS.imp (ps_ret (h W tk)) fun D σ H q => by
  obtain ⟨g, t, P, rl, m, _, k, _⟩ := q
  exact ⟨g, t, _, rl, m, fun r1 t1 m1 g1 v1 H1 s1 rl1 rr1 => k _ _ m1 g1 σ v1 H1 s1 rl1.kl rr1⟩
theorem T_fr (h : PET B X e w) : PET B X e (wFr w) := fun W tk => PE.imp (h W tk) fun σ H Q q => by
  obtain ⟨g, t, P, rl, m, k⟩ := q
  refine ⟨g, t, _, rl, m, fun r1 t1 m1 g1 v1 H1 s1 rl1 rr1 => ?_⟩
  unfold fz at m1
  split at m1
  · rename_i dx hx
    obtain ⟨F2, s2, rl2, rp⟩ := rr1.freeze rl1 hx
    exact k _ _ m1 ⟨F2, g1.ow⟩ v1 H1 (s1.trans s2) rl2 rp
  · exact m1.elim
theorem IT_G {tg iter : Expr} {wi : WI} (h : PIT B X tg iter wi) : PIT B X tg iter (wIG wi) := fun W tk => PI.imp (h W tk) fun σ H R q => by
  obtain ⟨g, t, P, rl, m, k⟩ := q
  exact ⟨g, t, _, rl, m, fun ds t1 m1 g1 H1 J s1 rl1 fo => k _ _ m1.2 g1 H1 J s1 rl1 fo⟩
end
def forX {σ ρ : Type} (step : σ → D → Option (SO σ ρ)) : List D → σ → Option (SO σ ρ)
  | [], s => some (.nx s)
  | d :: ds, s => (step s d).bind fun o => o.cs (fun s' => forX step ds s') (fun r => some (.rt r))
def foldX {σ : Type} (step : σ → D → Option σ) : List D → σ → Option σ
  | [], s => some s
  | d :: ds, s => (step s d).bind fun s' => foldX step ds s'
theorem forK_for {σ ρ : Type} (T : σ → TSt) (RT : ρ → Prop) (step : σ → D → Option (SO σ ρ)) {g : WG} {b : WS} {W : TX} {nx : TSt → Prop} {rt : R → TSt → Prop} {bk ct : TSt → Prop}
    (h : ∀ (s : σ) (d : D) (nxt : TSt → Prop), g d (T s) (fun t1 => b W t1 ⟨nxt, rt, nx, nxt⟩) = oP (step s d) fun o => o.cs (fun s' => nxt (T s')) RT) :
    ∀ (ds : List D) (s : σ), forK g b W ds (T s) ⟨nx, rt, bk, ct⟩ ⟨⟩ = oP (forX step ds s) fun o => o.cs (fun s' => nx (T s')) RT
  | [], s => rfl
  | d :: ds, s => by
    show g d (T s) (fun t1 => b W t1 ⟨fun t2 => forL g b W ds t2 ⟨nx, rt, bk, ct⟩, rt, nx, fun t2 => forL g b W ds t2 ⟨nx, rt, bk, ct⟩⟩) = _
    rw [h]
    unfold forX
    rw [oP_bind]
    congr 1
    funext o
    cases o with
    | nx s' => exact forK_for T RT step h ds s'
    | rt r => rfl
theorem forK_fold {σ : Type} (T : σ → TSt) (step : σ → D → Option σ) {g : WG} {b : WS} {W : TX} {nx : TSt → Prop} {rt : R → TSt → Prop} {bk ct : TSt → Prop}
    (h : ∀ (s : σ) (d : D) (nxt : TSt → Prop), g d (T s) (fun t1 => b W t1 ⟨nxt, rt, nx, nxt⟩) = oP (step s d) fun s' => nxt (T s')) :
    ∀ (ds : List D) (s : σ), forK g b W ds (T s) ⟨nx, rt, bk, ct⟩ ⟨⟩ = oP (foldX step ds s) fun s' => nx (T s')
  | [], s => rfl
  | d :: ds, s => by
    show g d (T s) (fun t1 => b W t1 ⟨fun t2 => forL g b W ds t2 ⟨nx, rt, bk, ct⟩, rt, nx, fun t2 => forL g b W ds t2 ⟨nx, rt, bk, ct⟩⟩) = _
    rw [h]
    unfold foldX
    rw [oP_bind]
    congr 1
    funext s'
    exact forK_fold T step h ds s'
def whN {σ ρ : Type} (step : σ → Option (WH σ ρ)) : Nat → σ → Option (SO σ ρ)
  | 0, _ => none
  | n + 1, s => (step s).bind fun o => o.cs (fun s' => whN step n s') (fun s' => some (.nx s')) (fun r => some (.rt r))
theorem whN_mono {σ ρ : Type} {step : σ → Option (WH σ ρ)} : ∀ {n m : Nat} {s : σ} {r : SO σ ρ}, whN step n s = some r → n ≤ m → whN step m s = some r
  | 0, _, _, _, h, _ => by cases h
  | n + 1, 0, _, _, _, hl => by omega
  | n + 1, m + 1, s, r, h, hl => by
    unfold whN at h ⊢
    cases e : step s with
    | none => rw [e] at h; cases h
    | some o =>
      rw [e] at h
      cases o with
      | go s' => exact whN_mono (n := n) h (by omega)
      | dn s' => exact h
      | rt q => exact h
noncomputable def whX {σ ρ : Type} (step : σ → Option (WH σ ρ)) (s : σ) : Option (SO σ ρ) := open Classical in
  if h : ∃ n r, whN step n s = some r then some h.choose_spec.choose else none
theorem whX_of {σ ρ : Type} {step : σ → Option (WH σ ρ)} {n : Nat} {s : σ} {r : SO σ ρ} (h : whN step n s = some r) : whX step s = some r := by
  unfold whX
  have hh : ∃ n r, whN step n s = some r := ⟨n, r, h⟩
  rw [dif_pos hh]
  have h2 := hh.choose_spec.choose_spec
  have a := whN_mono h (Nat.le_max_left n hh.choose)
  have b := whN_mono h2 (Nat.le_max_right n hh.choose)
  exact b.symm.trans a
theorem whX_get {σ ρ : Type} {step : σ → Option (WH σ ρ)} {s : σ} {r : SO σ ρ} (h : whX step s = some r) : ∃ n, whN step n s = some r := by
  unfold whX at h
  split at h
  · rename_i hh
    cases h
    exact ⟨_, hh.choose_spec.choose_spec⟩
  · cases h
/-- one turn -/
theorem whX_eq {σ ρ : Type} (step : σ → Option (WH σ ρ)) (s : σ) : whX step s = (step s).bind fun o => o.cs (fun s' => whX step s') (fun s' => some (.nx s')) (fun r => some (.rt r)) := by
  cases e : step s with
  | none =>
    cases h : whX step s with
    | none => rfl
    | some r =>
      obtain ⟨n, hn⟩ := whX_get h
      cases n with
      | zero => cases hn
      | succ n => unfold whN at hn; rw [e] at hn; cases hn
  | some o =>
    have go : ∀ n, whN step (n + 1) s = o.cs (fun s' => whN step n s') (fun s' => some (.nx s')) (fun r => some (.rt r)) := fun n => by
      rw [whN, e]; rfl
    cases o with
    | dn s' => exact whX_of (n := 1) (go 0)
    | rt r => exact whX_of (n := 1) (go 0)
    | go s' =>
      show _ = whX step s'
      cases h : whX step s' with
      | some r =>
        obtain ⟨n, hn⟩ := whX_get h
        exact whX_of (n := n + 1) ((go n).trans hn)
      | none =>
        cases h2 : whX step s with
        | none => rfl
        | some r =>
          obtain ⟨n, hn⟩ := whX_get h2
          cases n with
          | zero => cases hn
          | succ n => rw [go n] at hn; rw [whX_of (show whN step n s' = some r from hn)] at h; cases h
theorem whileK_X {σ ρ : Type} (T : σ → TSt) (RT : ρ → Prop) (step : σ → Option (WH σ ρ)) {c : WT} {b : WS} {W : TX} {nx : TSt → Prop} {rt : R → TSt → Prop} {bk ct : TSt → Prop}
    (h : ∀ (s : σ) (nxt : TSt → Prop), c W (T s) (fun k t1 => if k = true then b W t1 ⟨nxt, rt, nx, nxt⟩ else nx t1) = oP (step s) fun o => o.cs (fun s' => nxt (T s')) (fun s' => nx (T s')) RT) (s : σ) :
    whileK c b W (T s) ⟨nx, rt, bk, ct⟩ ⟨⟩ = oP (whX step s) fun o => o.cs (fun s' => nx (T s')) RT := by
  refine propext ⟨fun z => ?_, fun z => ?_⟩
  · obtain ⟨I, ⟨m0, i0⟩, turn⟩ := (show wWhile c b W (T s) ⟨nx, rt, bk, ct⟩ from z)
    have key : ∀ m s, I m (T s) → ∃ n r, whN step n s = some r ∧ r.cs (fun s' => nx (T s')) RT := by
      intro m
      induction m using Nat.strongRecOn with
      | _ m ih =>
        intro s hi
        have t := turn m (T s) hi
        have t2 := (h s (fun t2 => ∃ m', m' < m ∧ I m' t2)).mp t
        obtain ⟨o, e, k⟩ := oP_get t2
        cases o with
        | go s' =>
          obtain ⟨m', hm, hi'⟩ := (show ∃ m', m' < m ∧ I m' (T s') from k)
          obtain ⟨n, r, h1, h2⟩ := ih m' hm s' hi'
          exact ⟨n + 1, r, by rw [whN, e]; exact h1, h2⟩
        | dn s' => exact ⟨1, .nx s', by rw [whN, e]; rfl, k⟩
        | rt r => exact ⟨1, .rt r, by rw [whN, e]; rfl, k⟩
    obtain ⟨n, r, h1, h2⟩ := key m0 s i0
    rw [whX_of h1]
    exact h2
  · obtain ⟨r, e, k⟩ := oP_get z
    obtain ⟨n, hn⟩ := whX_get e
    refine (show wWhile c b W (T s) ⟨nx, rt, bk, ct⟩ from ⟨fun m t => ∃ s r, t = T s ∧ whN step m s = some r ∧ r.cs (fun s' => nx (T s')) RT, ⟨n, s, r, rfl, hn, k⟩, ?_⟩)
    rintro m _ ⟨s, r, rfl, hm, k⟩
    refine (h s _).mpr ?_
    cases m with
    | zero => cases hm
    | succ m =>
      rw [whN] at hm
      cases e : step s with
      | none => rw [e] at hm; cases hm
      | some o =>
        rw [e] at hm
        cases o with
        | go s' => exact ⟨m, by omega, s', r, rfl, hm, k⟩
        | dn s' => cases hm; exact k
        | rt q => cases hm; exact k
def mapG (f : D → Option D) : List D → Option (List D)
  | [] => some []
  | d :: ds => (f d).bind fun y => (mapG f ds).bind fun l => some (y :: l)
def fmapG (f : D → Option (Option D)) : List D → Option (List D)
  | [] => some []
  | d :: ds => (f d).bind fun y => (fmapG f ds).bind fun l => some (match y with | some z => z :: l | none => l)
def mapSG {σ : Type} (f : σ → D → Option (D × σ)) : List D → σ → Option (List D × σ)
  | [], s => some ([], s)
  | d :: ds, s => (f s d).bind fun p => (mapSG f ds p.2).bind fun q => some (p.1 :: q.1, q.2)
def fmapSG {σ : Type} (f : σ → D → Option (Option D × σ)) : List D → σ → Option (List D × σ)
  | [], s => some ([], s)
  | d :: ds, s => (f s d).bind fun p => (fmapSG f ds p.2).bind fun q => some (match p.1 with | some z => z :: q.1 | none => q.1, q.2)
def mapX (f : D → Option D) (ds : List D) : Option (List D) := if ds.length ≤ sizeLine then mapG f ds else none
def fmapX (f : D → Option (Option D)) (ds : List D) : Option (List D) := if ds.length ≤ sizeLine then fmapG f ds else none
def mapSX {σ : Type} (f : σ → D → Option (D × σ)) (ds : List D) (s : σ) : Option (List D × σ) := if ds.length ≤ sizeLine then mapSG f ds s else none
def fmapSX {σ : Type} (f : σ → D → Option (Option D × σ)) (ds : List D) (s : σ) : Option (List D × σ) := if ds.length ≤ sizeLine then fmapSG f ds s else none
theorem lcK_fmapS {σ : Type} (T : σ → TSt) (f : σ → D → Option (Option D × σ)) {g : WG} {c : WT} {e : WE} {vs : List Nat} {Q : List D → TSt → Prop}
    (h : ∀ (s : σ) (d : D) (Y : D → TSt → Prop) (N : TSt → Prop), g d (T s) (fun t1 => c noX t1 fun b t2 => if b = true then e noX t2 fun r t3 => fz r fun y => Y y (wipeT t3 vs) else N (wipeT t2 vs)) =
      oP (f s d) fun p => match p.1 with | some y => Y y (T p.2) | none => N (T p.2)) :
    ∀ (ds acc : List D) (s : σ), acc.length + ds.length ≤ sizeLine → lcL g c e vs ds acc (T s) Q = oP (fmapSG f ds s) fun p => Q (acc ++ p.1) (T p.2)
  | [], acc, s, _ => by
    show Q acc (T s) = Q (acc ++ []) (T s)
    rw [List.append_nil]
  | d :: ds, acc, s, hl => by
    rw [List.length_cons] at hl
    refine (h s d (fun y t3 => acc.length < sizeLine ∧ lcL g c e vs ds (acc ++ [y]) t3 Q) (fun t2 => lcL g c e vs ds acc t2 Q)).trans ?_
    rw [fmapSG, oP_bind]
    congr 1
    funext p
    rw [oP_bind]
    cases hp : p.1 with
    | none =>
      show lcL g c e vs ds acc (T p.2) Q = _
      rw [lcK_fmapS T f h ds acc p.2 (by omega)]
      rfl
    | some y =>
      show (acc.length < sizeLine ∧ lcL g c e vs ds (acc ++ [y]) (T p.2) Q) = _
      rw [lcK_fmapS T f h ds (acc ++ [y]) p.2 (by rw [List.length_append]; simp; omega)]
      refine propext ⟨fun z => ?_, fun z => ⟨by omega, ?_⟩⟩
      · obtain ⟨q, e1, e2⟩ := oP_get z.2
        rw [e1]
        rw [List.append_assoc] at e2
        exact e2
      · obtain ⟨q, e1, e2⟩ := oP_get z
        rw [e1]
        show Q (acc ++ [y] ++ q.1) (T q.2)
        rw [List.append_assoc]
        exact e2
theorem mapSG_f {σ : Type} (f : σ → D → Option (D × σ)) : ∀ (ds : List D) (s : σ), fmapSG (fun s d => (f s d).bind fun p => some (some p.1, p.2)) ds s = mapSG f ds s
  | [], s => rfl
  | d :: ds, s => by
    rw [fmapSG, mapSG]
    cases f s d with
    | none => rfl
    | some p =>
      show (fmapSG _ ds p.2).bind _ = (mapSG f ds p.2).bind _
      rw [mapSG_f f ds p.2]
theorem fmapG_f (f : D → Option (Option D)) : ∀ (ds : List D), fmapSG (fun (s : Unit) d => (f d).bind fun p => some (p, s)) ds () = (fmapG f ds).bind fun l => some (l, ())
  | [] => rfl
  | d :: ds => by
    rw [fmapSG, fmapG]
    cases f d with
    | none => rfl
    | some p =>
      show (fmapSG _ ds ()).bind _ = ((fmapG f ds).bind _).bind _
      rw [fmapG_f f ds]
      cases fmapG f ds <;> rfl
theorem mapG_f (f : D → Option D) : ∀ (ds : List D), fmapG (fun d => (f d).bind fun p => some (some p)) ds = mapG f ds
  | [] => rfl
  | d :: ds => by
    rw [fmapG, mapG, mapG_f f ds]
    cases f d <;> rfl
theorem lc_fmapS {σ : Type} (T : σ → TSt) (f : σ → D → Option (Option D × σ)) {g : WG} {c : WT} {e : WE} {vs : List Nat} {Q : List D → TSt → Prop}
    (h : ∀ (s : σ) (d : D) (Y : D → TSt → Prop) (N : TSt → Prop), g d (T s) (fun t1 => c noX t1 fun b t2 => if b = true then e noX t2 fun r t3 => fz r fun y => Y y (wipeT t3 vs) else N (wipeT t2 vs)) =
      oP (f s d) fun p => match p.1 with | some y => Y y (T p.2) | none => N (T p.2)) (ds : List D) (s : σ) :
    (lenOk ds ∧ lcK g c e vs ds [] (T s) Q ⟨⟩) = oP (fmapSX f ds s) fun p => Q p.1 (T p.2) := by
  unfold fmapSX
  rw [oP_ite]
  split
  · rename_i hl
    refine (propext ⟨fun z => z.2, fun z => ⟨hl, z⟩⟩ : _ = lcK g c e vs ds [] (T s) Q ⟨⟩).trans ?_
    exact lcK_fmapS T f h ds [] s (by simpa using hl)
  · rename_i hl
    exact propext ⟨fun z => absurd z.1 hl, fun z => z.elim⟩
theorem lc_mapS {σ : Type} (T : σ → TSt) (f : σ → D → Option (D × σ)) {g : WG} {e : WE} {vs : List Nat} {Q : List D → TSt → Prop}
    (h : ∀ (s : σ) (d : D) (Y : D → TSt → Prop), g d (T s) (fun t1 => e noX t1 fun r t3 => fz r fun y => Y y (wipeT t3 vs)) = oP (f s d) fun p => Y p.1 (T p.2)) (ds : List D) (s : σ) :
    (lenOk ds ∧ lcK g wYes e vs ds [] (T s) Q ⟨⟩) = oP (mapSX f ds s) fun p => Q p.1 (T p.2) := by
  refine (lc_fmapS T (fun s d => (f s d).bind fun p => some (some p.1, p.2)) (c := wYes) (fun s d Y N => ?_) ds s).trans ?_
  · refine (h s d Y).trans ?_
    rw [oP_bind]; rfl
  · unfold fmapSX mapSX
    rw [mapSG_f]
theorem lc_fmap (t : TSt) (f : D → Option (Option D)) {g : WG} {c : WT} {e : WE} {vs : List Nat} {Q : List D → TSt → Prop}
    (h : ∀ (d : D) (Y : D → TSt → Prop) (N : TSt → Prop), g d t (fun t1 => c noX t1 fun b t2 => if b = true then e noX t2 fun r t3 => fz r fun y => Y y (wipeT t3 vs) else N (wipeT t2 vs)) =
      oP (f d) fun p => match p with | some y => Y y t | none => N t) (ds : List D) :
    (lenOk ds ∧ lcK g c e vs ds [] t Q ⟨⟩) = oP (fmapX f ds) fun l => Q l t := by
  refine (lc_fmapS (fun _ : Unit => t) (fun s d => (f d).bind fun p => some (p, s)) (fun s d Y N => ?_) ds ()).trans ?_
  · refine (h d Y N).trans ?_
    rw [oP_bind]; rfl
  · unfold fmapSX fmapX
    rw [fmapG_f]
    split
    · rw [oP_bind]; rfl
    · rfl
theorem lc_map (t : TSt) (f : D → Option D) {g : WG} {e : WE} {vs : List Nat} {Q : List D → TSt → Prop}
    (h : ∀ (d : D) (Y : D → TSt → Prop), g d t (fun t1 => e noX t1 fun r t3 => fz r fun y => Y y (wipeT t3 vs)) = oP (f d) fun y => Y y t) (ds : List D) :
    (lenOk ds ∧ lcK g wYes e vs ds [] t Q ⟨⟩) = oP (mapX f ds) fun l => Q l t := by
  refine (lc_fmap t (fun d => (f d).bind fun p => some (some p)) (c := wYes) (fun d Y N => ?_) ds).trans ?_
  · refine (h d Y).trans ?_
    rw [oP_bind]; rfl
  · unfold fmapX mapX
    rw [mapG_f]
end TL
namespace TL
open PySem PySem.Spec PyProof.Rows L2
instance (i j : Int) : Decidable (mulOk i j) := by unfold mulOk; infer_instance
instance (i : Int) : Decidable (small i) := by unfold small; infer_instance
instance (i j : Int) : Decidable (CPow i j) := by unfold CPow; infer_instance
instance (i j : Int) : Decidable (CMul i j) := by unfold CMul; infer_instance
instance (i j : Int) : Decidable (RgOk i j) := by unfold RgOk; infer_instance
instance (x y : D) : Decidable (eqOk x y) := by unfold eqOk; infer_instance
def asI : D → Option Int
  | .int i => some i
  | _ => none
def asB : D → Option Bool
  | .bl b => some b
  | _ => none
def asL : D → Option (List D)
  | .lst l => some l
  | _ => none
theorem asI_int (i : Int) : asI (.int i) = some i := rfl
theorem asB_bl (b : Bool) : asB (.bl b) = some b := rfl
theorem asL_lst (l : List D) : asL (.lst l) = some l := rfl
theorem rint_v (d : D) : rint? (.v d) = asI d := by cases d <;> rfl
theorem rbl_v (d : D) : rbl? (.v d) = asB d := by cases d <;> rfl
theorem rB_v (k : Bool → Prop) (d : D) : rB k (.v d) = oP (asB d) k := by cases d <;> rfl
theorem oneL_X (d : D) : oneL? [d] = asL d := by cases d <;> rfl
theorem fzv (d : D) (k : D → Prop) : fz (.v d) k = k d := rfl
theorem fzl (l : List D) (k : D → Prop) : fz (.own (.lst l)) k = k (.lst l) := rfl
theorem fzd (kk : KK) (l : List (D × D)) (k : D → Prop) : fz (.own (.dct kk l)) k = k (.dct kk l) := rfl
def addX : D → D → Option D
  | .int i, .int j => some (.int (i + j))
  | .tup a, .tup b => if a.length + b.length ≤ sizeLine then some (.tup (a ++ b)) else none
  | .lst a, .lst b => if a.length + b.length ≤ sizeLine then some (.lst (a ++ b)) else none
  | .str a, .str b => if a.length + b.length ≤ sizeLine then some (.str (a ++ b)) else none
  | _, _ => none
theorem oP_if {α : Type} {c : Prop} [Decidable c] (x : α) (k : α → Prop) : oP (if c then some x else none) k = (c ∧ k x) := by
  split
  · rename_i h; exact propext ⟨fun z => ⟨h, z⟩, fun z => z.2⟩
  · rename_i h; exact propext ⟨fun z => z.elim, fun z => absurd z.1 h⟩
theorem dAdd_X (x y : D) (k : D → Prop) : dAdd x y (fun z => fz z k) = oP (addX x y) k := by
  cases x <;> cases y <;> first | rfl | (refine Eq.symm ?_; apply oP_if)
def addLX : D → D → Option (List D)
  | .lst a, .lst b => if a.length + b.length ≤ sizeLine then some (a ++ b) else none
  | _, _ => none
/-- two lists put together, a new one -/
def dAddL : Op2 := fun x y Q => match x, y with
  | .lst a, .lst b => a.length + b.length ≤ sizeLine ∧ Q (.own (.lst (a ++ b)))
  | _, _ => False
theorem dAddL_X (x y : D) (Q : R → Prop) : dAddL x y Q = oP (addLX x y) fun l => Q (.own (.lst l)) := by
  cases x <;> cases y <;> first | rfl | (refine Eq.symm ?_; apply oP_if)
def subX : D → D → Option D
  | .int i, .int j => some (.int (i - j))
  | _, _ => none
theorem dSub_X (x y : D) (Q : R → Prop) : dSub x y Q = oP (subX x y) fun d => Q (.v d) := by cases x <;> cases y <;> rfl
def mulX : D → D → Option D
  | .int i, .int j => if mulOk i j then some (.int (i * j)) else none
  | .lst a, .int k => if small k then if a.length * k.toNat ≤ sizeLine then some (.lst (List.replicate k.toNat a).flatten) else none else none
  | _, _ => none
theorem dMul_X (x y : D) (k : D → Prop) : dMul x y (fun z => fz z k) = oP (mulX x y) k := by
  cases x <;> cases y <;> first | rfl | (refine Eq.symm ?_; apply oP_if; done) | skip
  rename_i a j
  show (small j ∧ a.length * j.toNat ≤ sizeLine ∧ k _) = oP (if small j then (if a.length * j.toNat ≤ sizeLine then some _ else none) else none) k
  rw [oP_ite]
  split
  · rename_i h; rw [oP_if]; exact propext ⟨fun z => z.2, fun z => ⟨h, z⟩⟩
  · rename_i h; exact propext ⟨fun z => absurd z.1 h, fun z => z.elim⟩
def divX : D → D → Option D
  | .int i, .int j => if 0 < j ∧ j.natAbs < 2 ^ 250 then some (.int (i / j)) else none
  | _, _ => none
theorem dDiv_X (x y : D) (Q : R → Prop) : dDiv x y Q = oP (divX x y) fun d => Q (.v d) := by cases x <;> cases y <;> first | rfl | (refine Eq.symm ?_; apply oP_if)
def modX : D → D → Option D
  | .int i, .int j => if 0 < j then some (.int (i % j)) else none
  | _, _ => none
theorem dMod_X (x y : D) (Q : R → Prop) : dMod x y Q = oP (modX x y) fun d => Q (.v d) := by cases x <;> cases y <;> first | rfl | (refine Eq.symm ?_; apply oP_if)
def powX : D → D → Option D
  | .int i, .int j => if CPow i j then some (.int (i ^ j.toNat)) else none
  | _, _ => none
theorem dPow_X (x y : D) (Q : R → Prop) : dPow x y Q = oP (powX x y) fun d => Q (.v d) := by cases x <;> cases y <;> first | rfl | (refine Eq.symm ?_; apply oP_if)
def shlX : D → D → Option D
  | .int i, .int j => if CPow i j then some (.int (i * 2 ^ j.toNat)) else none
  | _, _ => none
theorem dShl_X (x y : D) (Q : R → Prop) : dShl x y Q = oP (shlX x y) fun d => Q (.v d) := by cases x <;> cases y <;> first | rfl | (refine Eq.symm ?_; apply oP_if)
def shrX : D → D → Option D
  | .int i, .int j => if 0 ≤ j then some (.int (i / 2 ^ j.toNat)) else none
  | _, _ => none
theorem dShr_X (x y : D) (Q : R → Prop) : dShr x y Q = oP (shrX x y) fun d => Q (.v d) := by cases x <;> cases y <;> first | rfl | (refine Eq.symm ?_; apply oP_if)
def andX : D → D → Option D
  | .int i, .int j => some (.int (Builtin.bitAnd i j))
  | _, _ => none
theorem dAnd_X (x y : D) (Q : R → Prop) : dAnd x y Q = oP (andX x y) fun d => Q (.v d) := by cases x <;> cases y <;> rfl
def iaddX : D → D → Option D
  | .int i, .int j => some (.int (i + j))
  | _, _ => none
theorem iAdd_X (x y : D) (Q : R → Prop) : iAdd x y Q = oP (iaddX x y) fun d => Q (.v d) := by cases x <;> cases y <;> rfl
def imulX : D → D → Option D
  | .int i, .int j => if CMul i j then some (.int (i * j)) else none
  | _, _ => none
theorem iMul_X (x y : D) (Q : R → Prop) : iMul x y Q = oP (imulX x y) fun d => Q (.v d) := by cases x <;> cases y <;> first | rfl | (refine Eq.symm ?_; apply oP_if)
def eqX (x y : D) : Option Bool := if eqOk x y then some (pyEq x y) else none
theorem dEq_X (x y : D) (Q : R → Prop) : dEq x y Q = oP (eqX x y) fun b => Q (.v (.bl b)) := by refine Eq.symm ?_; apply oP_if
def neX (x y : D) : Option Bool := if eqOk x y then some (!pyEq x y) else none
theorem dNe_X (x y : D) (Q : R → Prop) : dNe x y Q = oP (neX x y) fun b => Q (.v (.bl b)) := by refine Eq.symm ?_; apply oP_if
def ltX : D → D → Option Bool
  | .int i, .int j => some (decide (i < j))
  | .str a, .str b => some (decide (a.cps.toList < b.cps.toList))
  | _, _ => none
theorem dLt_X (x y : D) (Q : R → Prop) : dLt x y Q = oP (ltX x y) fun b => Q (.v (.bl b)) := by cases x <;> cases y <;> rfl
def leX : D → D → Option Bool
  | .int i, .int j => some (decide (i ≤ j))
  | _, _ => none
theorem dLe_X (x y : D) (Q : R → Prop) : dLe x y Q = oP (leX x y) fun b => Q (.v (.bl b)) := by cases x <;> cases y <;> rfl
def gtX : D → D → Option Bool
  | .int i, .int j => some (decide (j < i))
  | _, _ => none
theorem dGt_X (x y : D) (Q : R → Prop) : dGt x y Q = oP (gtX x y) fun b => Q (.v (.bl b)) := by cases x <;> cases y <;> rfl
def geX : D → D → Option Bool
  | .int i, .int j => some (decide (j ≤ i))
  | _, _ => none
theorem dGe_X (x y : D) (Q : R → Prop) : dGe x y Q = oP (geX x y) fun b => Q (.v (.bl b)) := by cases x <;> cases y <;> rfl
def inX (x y : D) : Option Bool := match y with
  | .dct kk l => if D.isKey kk x = true then some (lookD l x).isSome else none
  | .tup l => if x.pl = true ∧ D.plL l = true ∧ x.py.depth ≤ 64 then some (memD x l) else none
  | .lst l => if x.pl = true ∧ D.plL l = true ∧ x.py.depth ≤ 64 then some (memD x l) else none
  | .str y => match x with
    | .str x => some (!(Builtin.Str.occurrences y x 0 y.length 1).isEmpty)
    | _ => none
  | _ => none
theorem and3 {a b c p : Prop} : (a ∧ b ∧ c ∧ p) = ((a ∧ b ∧ c) ∧ p) := propext ⟨fun ⟨x, y, z, w⟩ => ⟨⟨x, y, z⟩, w⟩, fun ⟨⟨x, y, z⟩, w⟩ => ⟨x, y, z, w⟩⟩
theorem dIn_X (x y : D) (Q : R → Prop) : dInA x y Q = oP (inX x y) fun b => Q (.v (.bl b)) := by
  cases y with
  | dct kk l => (refine Eq.symm ?_; apply oP_if)
  | tup l =>
    have e : dInA x (.tup l) Q = (x.pl = true ∧ D.plL l = true ∧ x.py.depth ≤ 64 ∧ Q (.v (.bl (memD x l)))) := by cases x <;> rfl
    rw [e, and3]; symm; apply oP_if
  | lst l =>
    have e : dInA x (.lst l) Q = (x.pl = true ∧ D.plL l = true ∧ x.py.depth ≤ 64 ∧ Q (.v (.bl (memD x l)))) := by cases x <;> rfl
    rw [e, and3]; symm; apply oP_if
  | str y => cases x <;> rfl
  | _ => cases x <;> rfl
def notInX (x y : D) : Option Bool := match y with
  | .dct kk l => if D.isKey kk x = true then some (!(lookD l x).isSome) else none
  | .tup l => if x.pl = true ∧ D.plL l = true ∧ x.py.depth ≤ 64 then some (!memD x l) else none
  | .lst l => if x.pl = true ∧ D.plL l = true ∧ x.py.depth ≤ 64 then some (!memD x l) else none
  | _ => none
theorem dNotIn_X (x y : D) (Q : R → Prop) : dNotInA x y Q = oP (notInX x y) fun b => Q (.v (.bl b)) := by
  cases y with
  | dct kk l => (refine Eq.symm ?_; apply oP_if)
  | tup l =>
    have e : dNotInA x (.tup l) Q = (x.pl = true ∧ D.plL l = true ∧ x.py.depth ≤ 64 ∧ Q (.v (.bl (!memD x l)))) := by cases x <;> rfl
    rw [e, and3]; symm; apply oP_if
  | lst l =>
    have e : dNotInA x (.lst l) Q = (x.pl = true ∧ D.plL l = true ∧ x.py.depth ≤ 64 ∧ Q (.v (.bl (!memD x l)))) := by cases x <;> rfl
    rw [e, and3]; symm; apply oP_if
  | _ => cases x <;> rfl
theorem dIs_X (x : D) (Q : R → Prop) : dIs x .non Q = Q (.v (.bl x.isNon)) := by cases x <;> rfl
theorem dIsNot_X (x : D) (Q : R → Prop) : dIsNot x .non Q = Q (.v (.bl (!x.isNon))) := by cases x <;> rfl
def truX : D → Option Bool
  | .non => some false
  | .bl b => some b
  | .int i => some (i != 0)
  | .str x => if x.length ≤ sizeLine then some ((x.length : Int) != 0) else none
  | .tup l => some (!l.isEmpty)
  | .lst l => some (!l.isEmpty)
  | .scr l => some (!l.isEmpty)
  | _ => none
theorem truD_X (d : D) (k : Bool → Prop) : truD k d = oP (truX d) k := by cases d <;> first | rfl | (refine Eq.symm ?_; apply oP_if)
def itX : D → Option (List D)
  | .tup l => some l
  | .lst l => some l
  | .scr l => some l
  | .str x => some (signs x)
  | _ => none
theorem itD_X (d : D) (k : List D → Prop) : itD k d = oP (itX d) k := by cases d <;> rfl
def getX : D → D → Option D
  | .tup l, .int i => L2.atI l i
  | .lst l, .int i => L2.atI l i
  | .scr l, .int i => L2.atI l i
  | .str x, .int i => if x.length ≤ sizeLine then (L2.atI x.cps.toList i).map fun c => .str ⟨#[c]⟩ else none
  | .dct kk l, k => if D.isKey kk k = true then lookD l k else none
  | _, _ => none
theorem dGet_X (x y : D) (Q : R → Prop) : dGet x y Q = oP (getX x y) fun d => Q (.v d) := by
  cases x with
  | dct kk l =>
    rw [dGet_dct, withO_oP]
    show _ = oP (if D.isKey kk y = true then lookD l y else none) _
    rw [oP_ite]
    split
    · rename_i h; exact propext ⟨fun z => z.2, fun z => ⟨h, z⟩⟩
    · rename_i h; exact propext ⟨fun z => absurd z.1 h, fun z => z.elim⟩
  | str x =>
    cases y with
    | int i =>
      rw [dGet_str, withO_oP]
      show _ = oP (if x.length ≤ sizeLine then (L2.atI x.cps.toList i).map _ else none) _
      rw [oP_ite]
      split
      · rename_i h
        refine propext ⟨fun z => ?_, fun z => ⟨h, ?_⟩⟩
        · have := z.2; cases q : L2.atI x.cps.toList i <;> rw [q] at this <;> exact this
        · cases q : L2.atI x.cps.toList i <;> rw [q] at z <;> exact z
      · rename_i h; exact propext ⟨fun z => absurd z.1 h, fun z => z.elim⟩
    | _ => rfl
  | tup l => cases y with
    | int i => show (match L2.atI l i with | some d => Q (.v d) | none => False) = oP (L2.atI l i) _; cases L2.atI l i <;> rfl
    | _ => rfl
  | lst l => cases y with
    | int i => show (match L2.atI l i with | some d => Q (.v d) | none => False) = oP (L2.atI l i) _; cases L2.atI l i <;> rfl
    | _ => rfl
  | scr l => cases y with
    | int i => show (match L2.atI l i with | some d => Q (.v d) | none => False) = oP (L2.atI l i) _; cases L2.atI l i <;> rfl
    | _ => rfl
  | _ => cases y <;> rfl
def slX (d : D) (lo hi : Option Int) : Option D := match d with
  | .tup l => some (.tup (cutD l lo hi))
  | .lst l => some (.lst (cutD l lo hi))
  | .scr l => some (.lst (cutD l lo hi))
  | .str x => if x.length ≤ sizeLine then some (.str (cutS x lo hi)) else none
  | _ => none
theorem dSl_X (d : D) (lo hi : Option Int) (k : D → Prop) : dSl d lo hi (fun z => fz z k) = oP (slX d lo hi) k := by cases d <;> first | rfl | (refine Eq.symm ?_; apply oP_if)
def lenX : D → Option D
  | .tup l => some (.int l.length)
  | .lst l => some (.int l.length)
  | .scr l => some (.int l.length)
  | .str x => if x.length ≤ sizeLine then some (.int x.length) else none
  | .dct _ l => some (.int l.length)
  | _ => none
theorem nLen_X (d : D) (Q : R → Prop) : nLen [d] Q = oP (lenX d) fun d => Q (.v d) := by
  cases d with
  | dct kk l => cases kk <;> rfl
  | str x => (refine Eq.symm ?_; apply oP_if)
  | _ => rfl
def intX : D → Option D
  | .int i => some (.int i)
  | .bl b => some (.int (if b then 1 else 0))
  | _ => none
theorem nInt_X (d : D) (Q : R → Prop) : nInt [d] Q = oP (intX d) fun d => Q (.v d) := by cases d <;> rfl
def absX : D → Option D
  | .int i => some (.int (if i < 0 then -i else i))
  | _ => none
theorem nAbs_X (d : D) (Q : R → Prop) : nAbs [d] Q = oP (absX d) fun d => Q (.v d) := by cases d <;> rfl
def max2X : D → D → Option D
  | .int i, .int j => some (.int (if j > i then j else i))
  | _, _ => none
theorem nMax2_X (x y : D) (Q : R → Prop) : nMax2 [x, y] Q = oP (max2X x y) fun d => Q (.v d) := by cases x <;> cases y <;> rfl
def min2X : D → D → Option D
  | .int i, .int j => some (.int (if j < i then j else i))
  | _, _ => none
theorem nMin2_X (x y : D) (Q : R → Prop) : nMin2 [x, y] Q = oP (min2X x y) fun d => Q (.v d) := by cases x <;> cases y <;> rfl
def sumX : D → Option D
  | .lst l => (D.ints l).map fun ns => .int ns.sum
  | _ => none
theorem oP_map {α β : Type} (o : Option α) (f : α → β) (k : β → Prop) : oP (o.map f) k = oP o fun a => k (f a) := by cases o <;> rfl
theorem onInts_oP (l : List D) (k : List Int → Prop) : onInts l k = oP (D.ints l) k := by unfold onInts; cases D.ints l <;> rfl
theorem onBls_oP (l : List D) (k : List Bool → Prop) : onBls l k = oP (D.bls l) k := by unfold onBls; cases D.bls l <;> rfl
theorem nSum_X (d : D) (Q : R → Prop) : nSum [d] Q = oP (sumX d) fun d => Q (.v d) := by
  cases d with
  | lst l => show onInts l _ = oP ((D.ints l).map _) _; rw [onInts_oP, oP_map]
  | _ => rfl
def allX : D → Option Bool
  | .lst l => (D.bls l).map fun bs => bs.all id
  | _ => none
theorem nAll_X (d : D) (Q : R → Prop) : nAll [d] Q = oP (allX d) fun b => Q (.v (.bl b)) := by
  cases d with
  | lst l => show onBls l _ = oP ((D.bls l).map _) _; rw [onBls_oP, oP_map]
  | _ => rfl
def anyX : D → Option Bool
  | .lst l => (D.bls l).map fun bs => bs.any id
  | _ => none
theorem nAny_X (d : D) (Q : R → Prop) : nAny [d] Q = oP (anyX d) fun b => Q (.v (.bl b)) := by
  cases d with
  | lst l => show onBls l _ = oP ((D.bls l).map _) _; rw [onBls_oP, oP_map]
  | _ => rfl
def tupleX : D → Option D
  | .lst l => some (.tup l)
  | .tup l => some (.tup l)
  | _ => none
theorem nTuple_X (d : D) (Q : R → Prop) : nTuple [d] Q = oP (tupleX d) fun d => Q (.v d) := by cases d <;> rfl
def listX : D → Option (List D)
  | .lst l => some l
  | .tup l => some l
  | .scr l => some l
  | _ => none
theorem nList_X (d : D) (Q : R → Prop) : nList [d] Q = oP (listX d) fun l => Q (.own (.lst l)) := by cases d <;> rfl
theorem nIsi_X (d : D) (n : String) (Q : R → Prop) : nIsi [d, .ty n] Q = oP (isiD d n) fun b => Q (.v (.bl b)) := by rw [nIsi_ap, withO_oP]
def appX (l : List D) (d : D) : Option (List D) := if l.length < sizeLine then some (l ++ [d]) else none
theorem appX_P (l : List D) (d : D) (k : List D → Prop) : oP (appX l d) k = (l.length < sizeLine ∧ k (l ++ [d])) := by apply oP_if
def extX (l m : List D) : Option (List D) := if l.length + m.length ≤ sizeLine then some (l ++ m) else none
theorem extX_P (l m : List D) (k : List D → Prop) : oP (extX l m) k = (l.length + m.length ≤ sizeLine ∧ k (l ++ m)) := by apply oP_if
def setX (l : List D) (key d : D) : Option (List D) := match key with
  | .int n => (ixN l.length n).map fun j => l.set j d
  | _ => none
theorem putC'_X (t : TSt) (i : Nat) (key d : D) (k : TSt → Prop) (l : List D) : putC' t i key d k (.lst l) = oP (setX l key d) fun l' => k (setCell t i (.lst l')) := by
  cases key with
  | int n => show withO _ _ = oP (Option.map _ _) _; rw [withO_oP, oP_map]
  | _ => rfl
def putX (kk : KK) (l : List (D × D)) (key d : D) : Option (List (D × D)) := if D.isKey kk key = true ∧ l.length < sizeLine then some (putD l key d) else none
theorem putX_P (kk : KK) (l : List (D × D)) (key d : D) (k : List (D × D) → Prop) : oP (putX kk l key d) k = (D.isKey kk key = true ∧ l.length < sizeLine ∧ k (putD l key d)) := by refine Eq.trans (b := ((D.isKey kk key = true ∧ l.length < sizeLine) ∧ k (putD l key d))) ?_ (propext and_assoc); apply oP_if
theorem getC'_L (key : D) (k : D → Prop) (l : List D) : getC' key k (.lst l) = oP (getX (.lst l) key) k := by
  cases key with
  | int n => exact withO_oP _ _ ⟨⟩
  | _ => rfl
theorem getC'_D (key : D) (k : D → Prop) (kk : KK) (l : List (D × D)) : getC' key k (.dct kk l) = oP (getX (.dct kk l) key) k := by
  rw [getC'_dct, withO_oP]
  show _ = oP (if D.isKey kk key = true then lookD l key else none) k
  rw [oP_ite]
  split
  · rename_i h; exact propext ⟨fun z => z.2, fun z => ⟨h, z⟩⟩
  · rename_i h; exact propext ⟨fun z => absurd z.1 h, fun z => z.elim⟩
def rg1X (x : D) : Option (List D) := (asI x).bind fun j => if small j then some (rangeD 0 1 j.toNat) else none
def rg2X (x y : D) : Option (List D) := (asI x).bind fun i => (asI y).bind fun j => if small i ∧ small j then some (rangeD i 1 (j - i).toNat) else none
theorem wR1_X (a : WA) (W : TX) (t : TSt) (Q : List D → TSt → Prop) : wR1 a W t Q = a W t fun ds t1 => withO (one? ds) fun x => oP (rg1X x) fun l => Q l t1 := by
  rw [wR1_ap]
  congr 1
  funext ds t1
  match ds with
  | [] => rfl
  | [x] =>
    cases x <;> try rfl
    (refine Eq.symm ?_; apply oP_if)
  | x :: y :: r => cases x <;> rfl
theorem wR2_X (a : WA) (W : TX) (t : TSt) (Q : List D → TSt → Prop) : wR2 a W t Q = a W t fun ds t1 => withO (two? ds) fun p => oP (rg2X p.1 p.2) fun l => Q l t1 := by
  rw [wR2_ap]
  congr 1
  funext ds t1
  match ds with
  | [] => rfl
  | [x] => cases x <;> rfl
  | [x, y] =>
    cases x <;> cases y <;> try rfl
    rename_i i j
    show (small i ∧ small j ∧ Q _ t1) = oP (if small i ∧ small j then some _ else none) _
    rw [oP_if]
    exact propext and_assoc.symm
  | x :: y :: z :: r => cases x <;> cases y <;> rfl
/-- a step, down or up -/
instance (i j c : Int) (n : Nat) : Decidable (RgC i j c n) := by unfold RgC; infer_instance
def rg3X (x y z : D) : Option (List D) := (asI x).bind fun i => (asI y).bind fun j => (asI z).bind fun c =>
  if RgC i j c (Builtin.Range.rangeSize i j c).toNat then some (rangeD i c (Builtin.Range.rangeSize i j c).toNat) else none
theorem wR3_X (a : WA) (W : TX) (t : TSt) (Q : List D → TSt → Prop) : wR3 a W t Q = a W t fun ds t1 => withO (three? ds) fun p => oP (rg3X p.1 p.2.1 p.2.2) fun l => Q l t1 := by
  rw [wR3_ap]
  congr 1
  funext ds t1
  match ds with
  | [] => rfl
  | [x] => cases x <;> rfl
  | [x, y] => cases x <;> cases y <;> rfl
  | [x, y, z] =>
    cases x <;> cases y <;> cases z <;> try rfl
    rename_i i j c
    show (∃ n, RgC i j c n ∧ Q (rangeD i c n) t1) = oP (if RgC i j c (Builtin.Range.rangeSize i j c).toNat then some _ else none) _
    rw [oP_if]
    refine propext ⟨fun ⟨n, h, q⟩ => ?_, fun h => ⟨_, h⟩⟩
    have e : (Builtin.Range.rangeSize i j c).toNat = n := by have := h.2.2.2; omega
    rw [e]; exact ⟨h, q⟩
  | x :: y :: z :: u :: r => cases x <;> cases y <;> cases z <;> rfl
end TL
namespace TL
open PySem PySem.Spec PyProof.Rows L2
theorem wGhN_ap (gs : List GO) (W : TX) (t : TSt) (nx : TSt → Prop) (rt : R → TSt → Prop) (bk ct : TSt → Prop) : wGhN gs W t ⟨nx, rt, bk, ct⟩ = nx (ghZ gs t) := rfl
theorem wRetG_ap (ks : List Bool) (a : WE) (W : TX) (t : TSt) (nx : TSt → Prop) (rt : R → TSt → Prop) (bk ct : TSt → Prop) : wRetG ks a W t ⟨nx, rt, bk, ct⟩ = a W t fun r t1 => rt r (klZ ks t1) := rfl
theorem wFr_ap (a : WE) (W : TX) (t : TSt) (Q : R → TSt → Prop) : wFr a W t Q = a W t fun r t1 => fz r fun d => Q (.v d) t1 := rfl
theorem wGhE_ap (gs : List GO) (a : WE) (W : TX) (t : TSt) (Q : R → TSt → Prop) : wGhE gs a W t Q = a W (ghZ gs t) Q := rfl
theorem wGX_ap (ks : List Bool) (a : WE) (W : TX) (t : TSt) (Q : R → TSt → Prop) : wGX ks a W t Q = a (fun cls pay t1 => W cls pay (klZ ks t1)) t Q := rfl
theorem wIG_ap (i : WI) (W : TX) (t : TSt) (Q : List D → TSt → Prop) : wIG i W t Q = i W t fun ds t1 => lenOk ds ∧ Q ds t1 := rfl
theorem ghZ_kp (g : List GO) (s : Slot) (t : TSt) : ghZ (.kp :: g) (s :: t) = s :: ghZ g t := rfl
theorem ghZ_fz (g : List GO) (s : Slot) (t : TSt) : ghZ (.fz :: g) (s :: t) = frzS s :: ghZ g t := rfl
theorem ghZ_kl (g : List GO) (s : Slot) (t : TSt) : ghZ (.kl :: g) (s :: t) = killS s :: ghZ g t := rfl
theorem ghZ_nil (t : TSt) : ghZ [] t = t := by cases t <;> rfl
theorem klZ_t (g : List Bool) (s : Slot) (t : TSt) : klZ (true :: g) (s :: t) = s :: klZ g t := rfl
theorem klZ_f (g : List Bool) (s : Slot) (t : TSt) : klZ (false :: g) (s :: t) = killS s :: klZ g t := rfl
theorem klZ_nil (t : TSt) : klZ [] t = t := by cases t <;> rfl
theorem frzS_l (l : List D) : frzS (.own (.lst l)) = .v (.lst l) := rfl
theorem frzS_d (kk : KK) (l : List (D × D)) : frzS (.own (.dct kk l)) = .v (.dct kk l) := rfl
theorem frzS_v (d : D) : frzS (.v d) = .v d := rfl
theorem frzS_un : frzS .un = .un := rfl
theorem killS_v (d : D) : killS (.v d) = .un := rfl
theorem killS_un : killS .un = .un := rfl
theorem killS_own (c : Cell) : killS (.own c) = .un := rfl
theorem killS_bor (c : Cell) : killS (.bor c) = .bor c := rfl
/-- the list is found, then slots are forgotten -/
def wIgh (gs : List GO) (i : WI) : WI := fun W t Q => i W t fun ds t1 => Q ds (ghZ gs t1)
theorem wIgh_ap (gs : List GO) (i : WI) (W : TX) (t : TSt) (Q : List D → TSt → Prop) : wIgh gs i W t Q = i W t fun ds t1 => Q ds (ghZ gs t1) := rfl
theorem Follows.up {K : PySem.W.Frag} {F F' : Hp} {J : It} {ds : List D} (h : Follows K F J ds) (s : Same F F') : Follows K F' J ds :=
  ⟨fun B i g t σ H hi s1 rl => h.go B i g t σ H hi (s.trans s1) rl, fun B i d g t σ H x H' hi s1 rl hy => h.yld B i d g t σ H x H' hi (s.trans s1) rl hy, fun B i g t σ H hi s1 rl => h.stop B i g t σ H hi (s.trans s1) rl⟩
theorem IT_gh {B : Base} {X : Cx} {tg iter : Expr} {wi : WI} {gs : List GO} (h : PIT B X tg iter wi) : PIT B X tg iter (wIgh gs wi) := fun W tk => PI.imp (h W tk) fun σ H R q => by
  obtain ⟨g, t, P, rl, m, k⟩ := q
  refine ⟨g, t, _, rl, m, fun ds t1 m1 g1 H1 J s1 rl1 fo => ?_⟩
  obtain ⟨g2, s2, rl2⟩ := rl1.gh (gs := gs)
  exact k _ _ m1 g2 H1 J (s1.trans s2) rl2 (fo.up s2)
def tup2X : D → Option (D × D)
  | .tup [a, b] => some (a, b)
  | _ => none
def tup3X : D → Option (D × D × D)
  | .tup [a, b, c] => some (a, b, c)
  | _ => none
theorem gT2_X (a b : WG) (d : D) (t : TSt) (k : TSt → Prop) : gT 2 (gsCons a (gsCons b gsNil)) d t k = oP (tup2X d) fun p => a p.1 t fun t1 => b p.2 t1 k := by
  unfold gT
  split
  · rename_i l
    match l with
    | [] => exact propext ⟨fun z => absurd z.1 (by decide), fun z => z.elim⟩
    | [x] => exact propext ⟨fun z => absurd z.1 (by simp), fun z => z.elim⟩
    | [x, y] => exact propext ⟨fun z => z.2, fun z => ⟨rfl, z⟩⟩
    | x :: y :: z :: r => exact propext ⟨fun w => absurd w.1 (by simp), fun w => w.elim⟩
  · rename_i h
    cases d <;> try rfl
    exact absurd rfl (h _)
theorem gT3_X (a b c : WG) (d : D) (t : TSt) (k : TSt → Prop) : gT 3 (gsCons a (gsCons b (gsCons c gsNil))) d t k = oP (tup3X d) fun p => a p.1 t fun t1 => b p.2.1 t1 fun t2 => c p.2.2 t2 k := by
  unfold gT
  split
  · rename_i l
    match l with
    | [] => exact propext ⟨fun z => absurd z.1 (by decide), fun z => z.elim⟩
    | [x] => exact propext ⟨fun z => absurd z.1 (by simp), fun z => z.elim⟩
    | [x, y] => exact propext ⟨fun z => absurd z.1 (by simp), fun z => z.elim⟩
    | [x, y, u] => exact propext ⟨fun z => z.2, fun z => ⟨rfl, z⟩⟩
    | x :: y :: z :: u :: r => exact propext ⟨fun w => absurd w.1 (by simp), fun w => w.elim⟩
  · rename_i h
    cases d <;> try rfl
    exact absurd rfl (h _)
theorem tup2_P (a b : D) (k : D × D → Prop) : oP (tup2X (.tup [a, b])) k = k (a, b) := rfl
theorem tup3_P (a b c : D) (k : D × D × D → Prop) : oP (tup3X (.tup [a, b, c])) k = k (a, b, c) := rfl
theorem withO_asI (d : D) (k : Int → Prop) (g : Tg k) : withO (asI d) k g = oP (asI d) k := withO_oP _ _ _
theorem withO_isi (d : D) (n : String) (k : Bool → Prop) (g : Tg k) : withO (isiD d n) k g = oP (isiD d n) k := withO_oP _ _ _
theorem withO_asL (d : D) (k : List D → Prop) (g : Tg k) : withO (asL d) k g = oP (asL d) k := withO_oP _ _ _
theorem asB_bl_P (b : Bool) (k : Bool → Prop) : oP (asB (.bl b)) k = k b := rfl
def popX (l : List D) : Option (D × List D) := (l[l.length - 1]?).map fun d => (d, l.dropLast)
theorem wPop_X (i : Nat) (W : TX) (t : TSt) (Q : R → TSt → Prop) : wPop i W t Q = withO (lstAt t i) fun l => oP (popX l) fun p => Q (.v p.1) (setCell t i (.lst p.2)) := by
  rw [wPop_ap, onLst_ap]
  cases lstAt t i with
  | none => rfl
  | some l =>
    show withO (l[l.length - 1]?) _ = oP (popX l) _
    unfold popX
    rw [withO_oP, oP_map]
/-- a dict written out -/
def dispX (ps : List (D × D)) : Option (List (D × D)) := if ps.length ≤ 15 ∧ (ps.all fun p => D.isKey .k p.1) = true then some (mergeD [] ps) else none
theorem dispX_P (ps : List (D × D)) (k : List (D × D) → Prop) : oP (dispX ps) k = (ps.length ≤ 15 ∧ (ps.all fun p => D.isKey .k p.1) = true ∧ k (mergeD [] ps)) := by
  unfold dispX; rw [oP_if]; exact propext and_assoc
def lrg1X (x : D) : Option (List D) := (asI x).bind fun i => if RgOk 0 i then some (rangeD 0 1 (i - 0).toNat) else none
theorem int_v (d : D) : int? (.v d) = asI d := by cases d <;> rfl
theorem wLrg1_X (a : WE) (W : TX) (t : TSt) (Q : R → TSt → Prop) : wLrg1 a W t Q = a W t fun r t1 => fz r fun d => oP (lrg1X d) fun l => Q (.own (.lst l)) t1 := by
  rw [wLrg1_ap]
  congr 1
  funext r t1
  cases r with
  | v d => cases d <;> first | rfl | (symm; apply oP_if)
  | own c => cases c <;> rfl
theorem wTrg1_X (a : WE) (W : TX) (t : TSt) (Q : R → TSt → Prop) : wTrg1 a W t Q = a W t fun r t1 => fz r fun d => oP (lrg1X d) fun l => Q (.v (.tup l)) t1 := by
  rw [wTrg1_ap]
  congr 1
  funext r t1
  cases r with
  | v d => cases d <;> first | rfl | (symm; apply oP_if)
  | own c => cases c <;> rfl
theorem oneX (d : D) : one? [d] = some d := rfl
theorem size_def : sizeLine = 16777216 := by decide
/-- a tuple so many times, too -/
def dMulA : Op2 := fun x y Q => match x with
  | .tup a => match y with
    | .int k => (k ≤ 1000 ∧ -(2 ^ 62) < k ∧ a.length ≤ 1000) ∧ Q (.v (.tup (List.replicate k.toNat a).flatten))
    | _ => False
  | _ => dMul x y Q
def mulAX (x y : D) : Option D := match x with
  | .tup a => match y with
    | .int k => if k ≤ 1000 ∧ -(2 ^ 62) < k ∧ a.length ≤ 1000 then some (.tup (List.replicate k.toNat a).flatten) else none
    | _ => none
  | _ => mulX x y
def mulLX : D → D → Option (List D)
  | .lst a, .int k => if small k ∧ a.length * k.toNat ≤ sizeLine then some (List.replicate k.toNat a).flatten else none
  | _, _ => none
/-- a list so many times, a new one -/
def dMulL : Op2 := fun x y Q => oP (mulLX x y) fun l => Q (.own (.lst l))
theorem dMulL_X (x y : D) (Q : R → Prop) : dMulL x y Q = oP (mulLX x y) fun l => Q (.own (.lst l)) := rfl
def isX : D → D → Option Bool
  | x, .non => some x.isNon
  | .bl a, .bl b => some (decide (a = b))
  | _, _ => none
def dIsA : Op2 := fun x y Q => oP (isX x y) fun b => Q (.v (.bl b))
def dIsNotA : Op2 := fun x y Q => oP (isX x y) fun b => Q (.v (.bl (!b)))
theorem dIsA_X (x y : D) (Q : R → Prop) : dIsA x y Q = oP (isX x y) fun b => Q (.v (.bl b)) := rfl
def isNotX (x y : D) : Option Bool := (isX x y).map (!·)
theorem dIsNotA_X (x y : D) (Q : R → Prop) : dIsNotA x y Q = oP (isNotX x y) fun b => Q (.v (.bl b)) := by
  unfold dIsNotA isNotX
  cases isX x y <;> rfl
theorem dMulA_X (x y : D) (k : D → Prop) : dMulA x y (fun z => fz z k) = oP (mulAX x y) k := by
  cases x <;> cases y <;> first | rfl | exact dMul_X (.lst _) (.int _) k | (symm; apply oP_if)
theorem truX_b (b : Bool) (k : Bool → Prop) : oP (truX (.bl b)) k = k b := rfl
theorem itX_l (l : List D) (k : List D → Prop) : oP (itX (.lst l)) k = k l := rfl
theorem itX_t (l : List D) (k : List D → Prop) : oP (itX (.tup l)) k = k l := rfl
theorem wNever_ap (W : TX) (t : TSt) (D0 : TD) : wNever W t D0 = False := rfl
def ltOk (x y : D) : Prop := x.pl = true ∧ y.pl = true ∧ PySem.W.alike x.py y.py = true ∧ min x.py.depth y.py.depth ≤ 64
instance (a b : D) : Decidable (ltOk a b) := by unfold ltOk; infer_instance
def ltD (x y : D) : Bool := PySem.W.dataLt x.py y.py
def ltAX (x y : D) : Option Bool := match x with
  | .tup a => if ltOk (.tup a) y then some (ltD (.tup a) y) else none
  | _ => ltX x y
def dLtA : Op2 := fun x y Q => match x with
  | .tup a => ltOk (.tup a) y ∧ Q (.v (.bl (ltD (.tup a) y)))
  | _ => dLt x y Q
theorem dLtA_X (x y : D) (Q : R → Prop) : dLtA x y Q = oP (ltAX x y) fun b => Q (.v (.bl b)) := by
  cases x with
  | tup a => symm; apply oP_if
  | int i => exact dLt_X _ _ _
  | str i => exact dLt_X _ _ _
  | _ => cases y <;> rfl
def seqX : D → Option (List D)
  | .tup l => some l
  | .lst l => some l
  | _ => none
def zip2L : List D → List D → List D
  | a :: as, b :: bs => .tup [a, b] :: zip2L as bs
  | _, _ => []
def zip3L : List D → List D → List D → List D
  | a :: as, b :: bs, c :: cs => .tup [a, b, c] :: zip3L as bs cs
  | _, _, _ => []
def enumL : Nat → List D → List D
  | _, [] => []
  | i, a :: as => .tup [.int i, a] :: enumL (i + 1) as
def zip2X (x y : D) : Option (List D) := (seqX x).bind fun a => (seqX y).bind fun b => some (zip2L a b)
def zip3X (x y z : D) : Option (List D) := (seqX x).bind fun a => (seqX y).bind fun b => (seqX z).bind fun c => some (zip3L a b c)
def enumerateX (x : D) : Option (List D) := (seqX x).bind fun a => some (enumL 0 a)
def reversedX (x : D) : Option (List D) := (seqX x).bind fun a => some a.reverse
def wIzip2 (a : WA) : WI := fun W t Q => a W t fun ds t1 => oP (two? ds) fun p => oP (zip2X p.1 p.2) fun l => Q l t1
def wIzip3 (a : WA) : WI := fun W t Q => a W t fun ds t1 => oP (three? ds) fun p => oP (zip3X p.1 p.2.1 p.2.2) fun l => Q l t1
def wIenumerate (a : WA) : WI := fun W t Q => a W t fun ds t1 => oP (one? ds) fun x => oP (enumerateX x) fun l => Q l t1
def wIreversed (a : WE) : WI := fun W t Q => a W t fun r t1 => fz r fun x => oP (reversedX x) fun l => Q l t1
theorem wIzip2_ap (a : WA) (W : TX) (t : TSt) (Q : List D → TSt → Prop) : wIzip2 a W t Q = a W t fun ds t1 => withO (two? ds) fun p => oP (zip2X p.1 p.2) fun l => Q l t1 := by
  unfold wIzip2; rfl
theorem wIzip3_ap (a : WA) (W : TX) (t : TSt) (Q : List D → TSt → Prop) : wIzip3 a W t Q = a W t fun ds t1 => withO (three? ds) fun p => oP (zip3X p.1 p.2.1 p.2.2) fun l => Q l t1 := by
  unfold wIzip3; rfl
theorem wIenumerate_ap (a : WA) (W : TX) (t : TSt) (Q : List D → TSt → Prop) : wIenumerate a W t Q = a W t fun ds t1 => withO (one? ds) fun x => oP (enumerateX x) fun l => Q l t1 := by
  unfold wIenumerate; rfl
theorem wIreversed_ap (a : WE) (W : TX) (t : TSt) (Q : List D → TSt → Prop) : wIreversed a W t Q = a W t fun r t1 => fz r fun x => oP (reversedX x) fun l => Q l t1 := rfl
def wParR2 (i j : Nat) (a b : WE) : WS := fun W t D => a W t fun r t1 => b W t1 fun s t2 => stR i r t2 fun t3 => stR j s t3 D.nx
def wParR3 (i j l : Nat) (a b c : WE) : WS := fun W t D => a W t fun r t1 => b W t1 fun s t2 => c W t2 fun u t3 => stR i r t3 fun t4 => stR j s t4 fun t5 => stR l u t5 D.nx
theorem wParR2_ap (i j : Nat) (a b : WE) (W : TX) (t : TSt) (nx : TSt → Prop) (rt : R → TSt → Prop) (bk ct : TSt → Prop) : wParR2 i j a b W t ⟨nx, rt, bk, ct⟩ = a W t fun r t1 => b W t1 fun s t2 => stR i r t2 fun t3 => stR j s t3 nx := rfl
theorem wParR3_ap (i j l : Nat) (a b c : WE) (W : TX) (t : TSt) (nx : TSt → Prop) (rt : R → TSt → Prop) (bk ct : TSt → Prop) : wParR3 i j l a b c W t ⟨nx, rt, bk, ct⟩ = a W t fun r t1 => b W t1 fun s t2 => c W t2 fun u t3 => stR i r t3 fun t4 => stR j s t4 fun t5 => stR l u t5 nx := rfl
/-- texts of data -/
def reprOk (d : D) : Prop := d.pl = true ∧ d.py.depth ≤ 64 ∧ d.py.showable = true ∧ d.py.shown.length ≤ sizeLine
instance (d : D) : Decidable (reprOk d) := by unfold reprOk; infer_instance
def reprX (d : D) : Option D := if reprOk d then some (.str d.py.shown) else none
def nRepr : OpN
  | [d], Q => oP (reprX d) fun x => Q (.v x)
  | _, _ => False
theorem nRepr_X (d : D) (Q : R → Prop) : nRepr [d] Q = oP (reprX d) fun x => Q (.v x) := rfl
def SortOk (l : List D) : Prop := D.plL l = true ∧ PySem.W.AllAlike (l.map D.py) ∧ PySem.W.Sortable (l.map D.py) ∧ l.length ≤ sizeLine ∧ ∀ b ∈ l, b.py.depth ≤ 60
def sortD (l : List D) : List D := l.mergeSort (PySem.W.dataLe false D.py)
noncomputable def sortedX (d : D) : Option (List D) := match d with
  | .lst l => open Classical in if SortOk l then some (sortD l) else none
  | _ => none
def nSorted : OpN
  | [d], Q => oP (sortedX d) fun l => Q (.own (.lst l))
  | _, _ => False
theorem nSorted_X (d : D) (Q : R → Prop) : nSorted [d] Q = oP (sortedX d) fun l => Q (.own (.lst l)) := rfl
def pairT : D → Bool
  | .tup [k, _] => D.isKey .t k
  | _ => false
def putP (acc : List (D × D)) : D → List (D × D)
  | .tup [k, v] => putD acc k v
  | _ => acc
def dictTX (d : D) : Option (List (D × D)) := match d with
  | .lst l => if l.all pairT = true ∧ l.length ≤ sizeLine then some (l.foldl putP []) else none
  | _ => none
def nDictT : OpN
  | [d], Q => oP (dictTX d) fun l => Q (.own (.dct .t l))
  | _, _ => False
theorem nDictT_X (d : D) (Q : R → Prop) : nDictT [d] Q = oP (dictTX d) fun l => Q (.own (.dct .t l)) := rfl
inductive Ex (α : Type) where
  | ok (a : α) | er (n : String)
def Ex.cs {α : Type} {β : Sort u} (o : Ex α) (f : α → β) (g : String → β) : β := match o with
  | .ok a => f a
  | .er n => g n
theorem Ex.cs_ok {α : Type} {β : Sort u} (a : α) (f : α → β) (g : String → β) : (Ex.ok a).cs f g = f a := rfl
theorem Ex.cs_er {α : Type} {β : Sort u} (n : String) (f : α → β) (g : String → β) : (Ex.er n : Ex α).cs f g = g n := rfl
theorem oP_exs {α β : Type} (o : Ex α) (f : α → Option β) (g : String → Option β) (k : β → Prop) : oP (o.cs f g) k = o.cs (fun a => oP (f a) k) (fun n => oP (g n) k) := by cases o <;> rfl
def Ex.un {α : Type} (o : Ex α) : Option α := o.cs some fun _ => none
theorem Ex.un_ok {α : Type} (a : α) : (Ex.ok a).un = some a := rfl
theorem oP_un {α : Type} (o : Ex α) (k : α → Prop) : oP o.un k = o.cs k fun _ => False := by cases o <;> rfl
def bindE {α β : Type} (m : Option (Ex α)) (h : String → Option β) (k : α → Option β) : Option β := m.bind fun o => o.cs k h
theorem oP_bindE {α β : Type} (m : Option (Ex α)) (h : String → Option β) (k : α → Option β) (Q : β → Prop) : oP (bindE m h k) Q = oP m fun o => o.cs (fun a => oP (k a) Q) (fun n => oP (h n) Q) := by
  unfold bindE
  rw [oP_bind]
  congr 1
  funext o
  exact oP_exs _ _ _ _
theorem bindE_er {α β : Type} {n : String} {h : String → Option β} {k : α → Option β} : bindE (some (.er n : Ex α)) h k = h n := rfl
theorem noX_ap (n : String) (p : Pay) (t : TSt) : noX n p t = False := rfl
/-- nothing is raised here -/
def wNoX (a : WE) : WE := fun _ t Q => a noX t Q
theorem wNoX_ap (a : WE) (W : TX) (t : TSt) (Q : R → TSt → Prop) : wNoX a W t Q = a noX t Q := rfl
def wRaise (n : String) : WS := fun W t _ => W n none t
theorem wRaise_ap (n : String) (W : TX) (t : TSt) (D0 : TD) : wRaise n W t D0 = W n none t := rfl
def unS (i : Nat) (t : TSt) : TSt := t.set i .un
/-- what a suite starts with -/
def catchK (i : Nat) (ns : List String) (suite : WS) (n : String) (pay : Pay) (t1 : TSt) (D0 : TD) : Prop := ns.contains n = true ∧ pay = none ∧ stR i (.v (.exc n)) t1 fun t2 => suite noX t2 ⟨fun t3 => D0.nx (unS i t3), D0.rt, fun t3 => D0.bk (unS i t3), fun t3 => D0.ct (unS i t3)⟩
def wTryAs (i : Nat) (ns : List String) (body suite : WS) : WS := fun _ t D0 => body (fun n pay t1 => catchK i ns suite n pay t1 D0) t D0
theorem wTryAs_ap (i : Nat) (ns : List String) (body suite : WS) (W : TX) (t : TSt) (nx : TSt → Prop) (rt : R → TSt → Prop) (bk ct : TSt → Prop) : wTryAs i ns body suite W t ⟨nx, rt, bk, ct⟩ = body (fun n pay t1 => catchK i ns suite n pay t1 ⟨nx, rt, bk, ct⟩) t ⟨nx, rt, bk, ct⟩ := rfl
theorem catchK_ap (i : Nat) (ns : List String) (suite : WS) (n : String) (t1 : TSt) (nx : TSt → Prop) (rt : R → TSt → Prop) (bk ct : TSt → Prop) : catchK i ns suite n none t1 ⟨nx, rt, bk, ct⟩ = (ns.contains n = true ∧ stR i (.v (.exc n)) t1 fun t2 => suite noX t2 ⟨fun t3 => nx (unS i t3), rt, fun t3 => bk (unS i t3), fun t3 => ct (unS i t3)⟩) := by
  unfold catchK
  simp
/-- is one of class n one of class m -/
def subB (n m : String) : Bool := n == m || m == "EvenError"
def isE1 (ns ms : List String) (n : String) (c : D) : Option Bool := match c with
  | .cl m => if ns.contains n && ms.contains m then some (subB n m) else none
  | .ty m => if ns.contains n && m == "ValueError" then some true else none
  | _ => none
def isEs (ns ms : List String) (n : String) : List D → Option Bool
  | [] => some false
  | c :: cs => (isE1 ns ms n c).bind fun b => (isEs ns ms n cs).bind fun r => some (b || r)
/-- isinstance of an exception -/
def isEX (ns ms : List String) (x c : D) : Option Bool := match x with
  | .exc n => match c with
    | .tup cs => if cs.isEmpty then none else isEs ns ms n cs
    | c => isE1 ns ms n c
  | _ => none
def nIsE (ns ms : List String) : OpN
  | [x, c], Q => oP (isEX ns ms x c) fun b => Q (.v (.bl b))
  | _, _ => False
theorem nIsE_X (ns ms : List String) (x c : D) (Q : R → Prop) : nIsE ns ms [x, c] Q = oP (isEX ns ms x c) fun b => Q (.v (.bl b)) := rfl
/-- how often is True in a list of truths; the place of the first -/
def countTX (d : D) : Option D := match d with
  | .lst l => (D.bls l).map fun bs => .int (bs.count true : Nat)
  | _ => none
def indexTX (d : D) : Option D := match d with
  | .lst l => (D.bls l).bind fun bs => if true ∈ bs then some (.int (bs.findIdx id : Nat)) else none
  | _ => none
def pkL (t : TSt) (i : Nat) (k : List D → Prop) : Prop := match peek t i with
  | some (.lst l) => k l
  | _ => False
def wLm1 (o : Op2) (i : Nat) (b : WE) : WE := fun W t Q => pkL t i fun _ => b W t fun r t1 => fz r fun y => pkL t1 i fun x => o (.lst x) y fun z => Q z t1
theorem wLm1_ap (o : Op2) (i : Nat) (b : WE) (W : TX) (t : TSt) (Q : R → TSt → Prop) : wLm1 o i b W t Q = pkL t i fun _ => b W t fun r t1 => fz r fun y => pkL t1 i fun x => o (.lst x) y fun z => Q z t1 := rfl
theorem pkL_ap (t : TSt) (i : Nat) (k : List D → Prop) : pkL t i k = withO (peek t i) fun d => oP (asL d) k := by
  unfold pkL
  split
  · rename_i h; rw [h]; rfl
  · rename_i h
    cases q : peek t i with
    | none => rfl
    | some d => cases d <;> first | rfl | exact absurd q (h _)
def dCountT : Op2 := fun x y Q => match y with
  | .bl true => oP (countTX x) fun d => Q (.v d)
  | _ => False
def dIndexT : Op2 := fun x y Q => match y with
  | .bl true => oP (indexTX x) fun d => Q (.v d)
  | _ => False
theorem dCountT_X (x : D) (Q : R → Prop) : dCountT x (.bl true) Q = oP (countTX x) fun d => Q (.v d) := rfl
theorem dIndexT_X (x : D) (Q : R → Prop) : dIndexT x (.bl true) Q = oP (indexTX x) fun d => Q (.v d) := rfl
def guardX (b : Bool) : Option Unit := if b = true then some () else none
theorem guard_P (b : Bool) (k : Unit → Prop) : oP (guardX b) k = (b = true ∧ k ()) := by unfold guardX; exact oP_if _ _
end TL
namespace TL
open PySem PySem.Spec PyProof.Rows L2
theorem tuple_mul1 (l : Addr) (items : Array Value) (n : Nat) (dd : Option Addr) (sl : Array (Option Value)) (x : Int) (u : Tok) (c0 : (decide (x < -(2 ^ 63)) || decide (x ≥ 2 ^ 63)) = false) (c1 : (items.isEmpty || x == 1) = true) :
    Meets (Builtin.«tuple.__mul__» ⟨[.ref l, .int x u], []⟩) (fun _ R s => s.heap.get? l = some { cls := .type "tuple", dict := dd, data := .seq items n, slots := sl } ∧
      R (.ok (.ret (Value.ref l))) s) :=
  .of_wp fun prog w A R s h => by
    obtain ⟨hp, g, d, tk, os⟩ := s
    obtain ⟨hl, h⟩ := h
    have f1 := AutoSeq1.idx_int
    wp_walk using wpAny_loadPart' hl
    repeat (first
      | (refine wpAny_ite_false (decide_eq_false (by rw [c0]; exact Bool.false_ne_true)) ?_; wp_walk using wpAny_loadPart' hl)
      | (refine wpAny_ite_true (decide_eq_true (by rw [c1])) ?_; wp_walk using wpAny_loadPart' hl))
    exact ⟨_, rfl, h⟩
theorem tuple_mul0 (l : Addr) (items : Array Value) (n : Nat) (dd : Option Addr) (sl : Array (Option Value)) (x : Int) (u : Tok) (c0 : (decide (x < -(2 ^ 63)) || decide (x ≥ 2 ^ 63)) = false) (c1 : (items.isEmpty || x == 1) = false) (c2 : (decide (x ≤ 0) || items.isEmpty) = true) :
    Meets (Builtin.«tuple.__mul__» ⟨[.ref l, .int x u], []⟩) (fun _ R s => s.heap.get? l = some { cls := .type "tuple", dict := dd, data := .seq items n, slots := sl } ∧
      R (.ok (.ret (Value.ref s.heap.objs.size))) { s with heap := s.heap.push { cls := Value.type "tuple", data := Data.seq #[] }, toks := s.toks }) :=
  .of_wp fun prog w A R s h => by
    obtain ⟨hp, g, d, tk, os⟩ := s
    obtain ⟨hl, h⟩ := h
    have f1 := AutoSeq1.idx_int
    wp_walk using wpAny_loadPart' hl
    repeat (first
      | (refine wpAny_ite_false (decide_eq_false (by rw [c0]; exact Bool.false_ne_true)) ?_; wp_walk using wpAny_loadPart' hl)
      | (refine wpAny_ite_false (decide_eq_false (by rw [c1]; exact Bool.false_ne_true)) ?_; wp_walk using wpAny_loadPart' hl)
      | (refine wpAny_ite_true (decide_eq_true (by rw [c2])) ?_; wp_walk using wpAny_loadPart' hl))
    exact ⟨_, rfl, h⟩
def rRepA (K : PySem.W.Frag) : R2 := fun x y H Q => ∃ l k xs, x = .ref l ∧ y = .int k ∧ SqT K H l xs ∧ k ≤ 1000 ∧ -(2 ^ 62) < k ∧ xs.length ≤ 1000 ∧ (xs = [] ∨ k = 1 → Q (.ref l) H) ∧ (xs ≠ [] → k ≠ 1 → ∀ p, H p = none → Q (.ref p) (upd H p (.tup (List.replicate k.toNat xs).flatten)))
theorem op_repA {X : Cx} : OpR X (binaryOp .Mult) (rRepA X.K) := by
  intro pins s σ H x y v u Q I rx ry h
  obtain ⟨l, k, xs, rfl, rfl, hT, h2, h1, hz, q1, q⟩ := h
  by_cases z : xs ≠ [] ∧ 2 ≤ k
  · exact op_repT pins s σ H _ _ v u Q I rx ry ⟨l, k, xs, rfl, rfl, hT, z.1, z.2, h2, hz, q z.1 (by omega)⟩
  cases rx
  obtain ⟨t, rfl⟩ := ry
  obtain ⟨its, r, ⟨⟨cls, dd, data, sl⟩, ho, hc, n, hd⟩, hs⟩ := I.tuple hT
  simp only at hc hd
  subst hc hd
  have hle : its.length = xs.length := r.length.symm
  have c0 : (decide (k < -(2 ^ 63)) || decide (k ≥ 2 ^ 63)) = false := by
    rw [decide_eq_false (by omega), decide_eq_false (by omega)] <;> rfl
  by_cases w : xs = [] ∨ k = 1
  · have c1 : (its.toArray.isEmpty || k == 1) = true := by
      rcases w with w | w
      · have : its = [] := List.eq_nil_of_length_eq_zero (by rw [hle, w]; rfl)
        subst this; rfl
      · subst w; simp
    refine wpAny_binaryOp_repeat_ref (T := "tuple") (U := "int") (by decide) ⟨_, ho, rfl⟩ (fun s' => typeIs_int s' k t) noFill_tuple_mul F.fills_int_mul F.slot_int_rmul repeat_tuple F.slot_int_index.lookup
      (call_meets F.slot_int_rmul (typeIs_int s k t) F.entry_int_rmul (F.args_int_rmul_2 _ _) (int_rmul_tuple k t l its.toArray n dd sl)
        ⟨ho, rfl, ⟨_, ho, rfl⟩, call_meets F.slot_tuple_mul ⟨_, ho, rfl⟩ F.entry_tuple_mul (F.args_tuple_mul_2 _ _) (tuple_mul1 l its.toArray n dd sl k t c0 c1) ⟨ho, ?_⟩⟩)
    exact ⟨.ref l, H, I, rfl, q1 w⟩
  · have w1 : xs ≠ [] := fun e => w (.inl e)
    have w2 : k ≠ 1 := fun e => w (.inr e)
    have w3 : k ≤ 0 := by
      rcases Int.lt_or_le 1 k with y | y
      · exact absurd ⟨w1, by omega⟩ z
      · omega
    have hi : its.toArray.isEmpty = false := by
      cases its with
      | nil => exact absurd (List.eq_nil_of_length_eq_zero hle.symm) w1
      | cons a b => rfl
    have c1 : (its.toArray.isEmpty || k == 1) = false := by
      rw [hi, Bool.false_or]
      exact beq_eq_false_iff_ne.mpr w2
    have c2 : (decide (k ≤ 0) || its.toArray.isEmpty) = true := by rw [decide_eq_true w3]; rfl
    refine wpAny_binaryOp_repeat_ref (T := "tuple") (U := "int") (by decide) ⟨_, ho, rfl⟩ (fun s' => typeIs_int s' k t) noFill_tuple_mul F.fills_int_mul F.slot_int_rmul repeat_tuple F.slot_int_index.lookup
      (call_meets F.slot_int_rmul (typeIs_int s k t) F.entry_int_rmul (F.args_int_rmul_2 _ _) (int_rmul_tuple k t l its.toArray n dd sl)
        ⟨ho, rfl, ⟨_, ho, rfl⟩, call_meets F.slot_tuple_mul ⟨_, ho, rfl⟩ F.entry_tuple_mul (F.args_tuple_mul_2 _ _) (tuple_mul0 l its.toArray n dd sl k t c0 c1 c2) ⟨ho, ?_⟩⟩)
    have e : (List.replicate k.toNat xs).flatten = [] := by rw [show k.toNat = 0 by omega]; rfl
    have q' := q w1 w2
    rw [e] at q'
    exact ⟨.ref s.heap.objs.size, _, I.laid (t' := s.toks) (o := .tup []) (fun b ob q => Heap.get?_push_of_some _ q) (Nat.le_refl _) ⟨by rw [sizeLine_eq]; decide, [], .nil, IsTup.new _ _⟩, rfl, q' _ (I.hok.fresh (Nat.le_refl _))⟩
section
variable {B : Base} {X : Cx}
theorem O_mulA : OpT B X (binaryOp .Mult) dMulA := .mk fun pins s σ H x y v u Q g t σ' dx dy P I rx ry rl r1 r2 m k => by
  unfold dMulA at m
  split at m
  · rename_i a
    split at m
    · rename_i j
      obtain ⟨⟨h1, h1', h2⟩, m⟩ := m
      obtain ⟨p, vs, rfl, ha, ra⟩ := r1.tup_inv rl.sub
      cases r2.int_inv
      refine op_repA pins s σ H _ _ v u Q I rx ry ⟨p, j, vs, rfl, rfl, .of ha, h1, h1', by rw [ra.length]; exact h2, fun w => ?_, fun w1 w2 p hp => ?_⟩
      · have e : (List.replicate j.toNat a).flatten = a := by
          rcases w with w | w
          · have : a = [] := ra.nil_iff.mp w
            subst this; simp
          · subst w; simp
        rw [e] at m
        cases r1 with
        | rep r1 => exact k _ m g _ H sRefl rl r1
      · obtain ⟨g', s', rl', rr⟩ := newTup rl hp (ra.rep j.toNat)
        exact k _ m g' _ _ s' rl' rr
    · exact m.elim
  · exact O_mul (B := B) pins s σ H x y v u Q I rx ry ⟨g, t, σ', dx, dy, P, rl, r1, r2, m, k⟩
theorem O_ltA (hu : X.A.units + 66 < cLine) : OpT B X (compareOp .Lt) dLtA := .mk fun pins s σ H x y v u Q g t σ' dx dy P I rx ry rl r1 r2 m k => by
  unfold dLtA at m
  split at m
  · rename_i a
    obtain ⟨⟨p1, p2, p3, p4⟩, m⟩ := m
    obtain ⟨as, e1⟩ := Dp.reads I _ x v (r1.dp rl.sub p1) rx
    obtain ⟨bs, e2⟩ := Dp.reads I _ y u (r2.dp rl.sub p2) ry
    exact PySem.W.lt_data e1 e2 p3 (by intro e; cases e) (by omega) ⟨.bl _, H, I, rfl, k _ m g _ H sRefl rl (Rep.bl _)⟩
  · exact O_lt (B := B) pins s σ H x y v u Q I rx ry ⟨g, t, σ', dx, dy, P, rl, r1, r2, m, k⟩
end
end TL
set_option maxHeartbeats 4000000
namespace TL
open PySem PySem.Spec PyProof.Rows L2
inductive SK where
  | l | t
def SK.It (b : SK) (h : Heap) (it l : Addr) (k : Nat) : Prop := match b with
  | .l => h.IsListIter it l k
  | .t => h.IsTupleIter it l k
def SK.Sq (b : SK) (h : Heap) (l : Addr) (xs : Array Value) : Prop := match b with
  | .l => h.IsList l xs
  | .t => h.IsTuple l xs
def SK.SqV (b : SK) (K : PySem.W.Frag) (H : Hp) (a : Addr) (xs : List V) : Prop := match b with
  | .l => SqL K H a xs
  | .t => SqT K H a xs
theorem SK.It.to {b : SK} {h h' : Heap} {it l : Addr} {k : Nat} (x : b.It h it l k) (e : ∀ o, h.get? it = some o → h'.get? it = some o) : b.It h' it l k := by
  cases b with
  | l => exact Heap.IsListIter.at x e
  | t => exact Heap.IsTupleIter.at x e
theorem SK.Sq.to {b : SK} {h h' : Heap} {l : Addr} {xs : Array Value} (x : b.Sq h l xs) (e : ∀ o, h.get? l = some o → h'.get? l = some o) : b.Sq h' l xs := by
  cases b with
  | l => exact Heap.IsList.at x e
  | t => exact Heap.IsTuple.at x e
theorem SK.It.get {b : SK} {h : Heap} {it l : Addr} {k : Nat} (x : b.It h it l k) : ∃ o, h.get? it = some o ∧ ∀ v, o.data ≠ .cell v := by
  cases b with
  | l => obtain ⟨o, e, _, d⟩ := x; exact ⟨o, e, fun v q => by rw [d] at q; cases q⟩
  | t => obtain ⟨o, e, _, d⟩ := x; exact ⟨o, e, fun v q => by rw [d] at q; cases q⟩
theorem SK.Sq.get {b : SK} {h : Heap} {l : Addr} {xs : Array Value} (x : b.Sq h l xs) : ∃ o, h.get? l = some o := by
  cases b with
  | l => obtain ⟨o, e, _⟩ := x; exact ⟨o, e⟩
  | t => obtain ⟨o, e, _⟩ := x; exact ⟨o, e⟩
section
variable {prog : Program} {w : World} {A : Around} {E : Value → Shared → Prop} {s : Shared}
theorem SK.nextItem {b : SK} {it l : Addr} {i : Nat} {items : Array Value} {x : Value} {Q : Value → Shared → Prop} (hit : b.It s.heap it l i)
    (hl : b.Sq s.heap l items) (hx : items[i]? = some x)
    (hQ : ∀ h', b.It h' it l (i + 1) → Heap.SameBut it s.heap h' → Q x { s with heap := h' }) :
    wpAny (model prog w) A (Builtin.SmallTypes.nextOf (.ref it)) Q E s := by
  cases b with
  | l => exact wpAny_nextOf_list_item hit hl hx hQ
  | t => exact RZ.nextOf_tuple_item hit hl hx hQ
theorem SK.nextEnd {b : SK} {it l : Addr} {i : Nat} {items : Array Value} {Q : Value → Shared → Prop} (hh : A.handled = none)
    (hit : b.It s.heap it l i) (hl : b.Sq s.heap l items) (hx : items[i]? = none)
    (hE : ∀ h' e, Heap.ExtBut it s.heap h' → (∃ o, h'.get? e = some o ∧ o.cls = .type "StopIteration") → E (.ref e) { s with heap := h' }) :
    wpAny (model prog w) A (Builtin.SmallTypes.nextOf (.ref it)) Q E s := by
  cases b with
  | l => exact wpAny_nextOf_list_end hh hit hl hx hE
  | t => exact RZ.nextOf_tuple_end hh hit hl hx hE
end
abbrev IsTupA (h : Heap) (T : Addr) (vs : Array Value) : Prop := h.get? T = some { cls := .type "tuple", data := .seq vs }
section
variable {prog : Program} {w : World} {A : Around} {E : Value → Shared → Prop} {s : Shared}
theorem wpAny_updateSeq_tup {T : Addr} {vs : Array Value} {x : Value} {k : Nat} {Q : Unit → Shared → Prop} (hT : IsTupA s.heap T vs) (hv : vs.size ≤ 8)
    (h : ∀ h', IsTupA h' T (vs.setIfInBounds k x) → Heap.SameBut T s.heap h' → Q () { s with heap := h' }) :
    wpAny (model prog w) A (updateSeq T (·.setIfInBounds k x)) Q E s := by
  refine wpAny_updateSeq (hz := by rw [size_def]; omega) (_hz' := by rw [Array.size_setIfInBounds, size_def]; omega) hT rfl (h _ ?_ (Heap.SameBut.update ..))
  show (s.heap.update T _).get? T = _
  rw [Heap.get?_update_self _ hT rfl]
  simp [Obj.mapSeq]
end
section
variable {prog : Program} {w : World} {A : Around} {E : Value → Shared → Prop} {s : Shared}
theorem zip2_next_item {m : Nat} {b1 b2 : SK} {l1 l2 : Nat} {k : Nat} {x1 x2 : Array Value} {y1 y2 : Value} {o1 o2 : Value} {Q : Value → Shared → Prop} (a1 : l1 < m) (a2 : l2 < m)
    (hz : IsZip s.heap (m + 4) (m + 2) (m + 3) .none) (hTI : IsTupA s.heap (m + 2) #[.ref m, .ref (m + 1)]) (hTO : IsTupA s.heap (m + 3) #[o1, o2])
    (h1 : b1.It s.heap m l1 k) (h2 : b2.It s.heap (m + 1) l2 k) (s1 : b1.Sq s.heap l1 x1) (s2 : b2.Sq s.heap l2 x2) (e1 : x1[k]? = some y1) (e2 : x2[k]? = some y2)
    (hQ : ∀ h', IsZip h' (m + 4) (m + 2) (m + 3) (rawInt s.heap.objs.size) → IsTupA h' (m + 3) #[y1, y2] → b1.It h' m l1 (k + 1) → b2.It h' (m + 1) l2 (k + 1) → IsTupA h' s.heap.objs.size #[y1, y2] → h'.objs.size = s.heap.objs.size + 1 →
      (∀ c o, c ≠ (m + 4) → c ≠ (m + 3) → c ≠ m → c ≠ (m + 1) → s.heap.get? c = some o → h'.get? c = some o) → Q (.ref s.heap.objs.size) { s with heap := h' }) :
    wpAny (model prog w) A (Builtin.«zip.__next__» ⟨[.ref (m + 4)], []⟩) (fun fin s' => ∃ v, fin = .done (.ret v) ∧ Q v s') E s := by
  show wpAny _ _ (field (.ref (m + 4)) 2 >>= _) _ _ _
  refine wpAny_bind (wpAny_field hz rfl (x := .bool false) rfl ?_)
  show wpAny _ _ (field (.ref (m + 4)) 3 >>= _) _ _ _
  refine wpAny_bind (wpAny_field hz rfl (x := .ref (m + 2)) rfl ?_)
  refine wpAny_bind (wpAny_seqItems hTI rfl ?_)
  show wpAny _ _ (Builtin.SmallTypes.ownedTupleIsFree (.ref (m + 4)) >>= _) _ _ _
  refine wpAny_bind ?_
  unfold Builtin.SmallTypes.ownedTupleIsFree
  refine wpAny_bind (wpAny_field hz rfl (x := .none) rfl (wpAny_pure ?_))
  simp only [if_true]
  refine wpAny_bind (wpAny_rule ?_)
  refine wpAny_bind (wpAny_field hz rfl (x := .ref (m + 3)) rfl ?_)
  refine wpAny_bind (wpAny_setField_rec hz (by simp) fun g1 hz1 t1 => ?_)
  replace hz1 : IsZip g1 (m + 4) (m + 2) (m + 3) .ellipsis := hz1
  have ext1 : ∀ c o, c ≠ (m + 4) → s.heap.get? c = some o → g1.get? c = some o := fun c o c1 e => t1.extBut _ _ c1 e
  refine wpAny_bind ?_
  simp only [List.zipIdx_cons, List.zipIdx_nil, List.forIn_cons, List.forIn_nil]
  have hTOg : IsTupA g1 (m + 3) #[o1, o2] := ext1 _ _ (by show @Ne Nat _ _; omega) hTO
  have i1g : b1.It g1 m l1 k := h1.to fun o e => ext1 _ o (by show @Ne Nat _ _; omega) e
  have s1g : b1.Sq g1 l1 x1 := s1.to fun o e => ext1 _ o (by show @Ne Nat _ _; omega) e
  have i2g : b2.It g1 (m + 1) l2 k := h2.to fun o e => ext1 _ o (by show @Ne Nat _ _; omega) e
  have s2g : b2.Sq g1 l2 x2 := s2.to fun o e => ext1 _ o (by show @Ne Nat _ _; omega) e
  have hzg := hz1
  have szg : g1.objs.size = s.heap.objs.size := t1.1
  have kg : ∀ c o, c ≠ (m + 4) → c ≠ (m + 3) → c ≠ m → c ≠ (m + 1) → s.heap.get? c = some o → g1.get? c = some o := fun c o c1 c2 d1 d2 e => ext1 c o c1 e
  refine wpAny_bind (wpAny_bind (wpAny_onRaise ?_))
  show wpAny _ _ (Builtin.SmallTypes.nextOf (.ref m) >>= _) _ _ _
  refine wpAny_bind (SK.nextItem i1g s1g e1 fun p1 i1n u1 => wpAny_pure ?_)
  have x1 : ∀ c o, c ≠ m → g1.get? c = some o → p1.get? c = some o := fun c o c1 e => u1.extBut _ _ c1 e
  replace hTOg : IsTupA p1 (m + 3) #[o1, o2] := x1 _ _ (by show @Ne Nat _ _; omega) hTOg
  replace s1g := s1g.to fun o e => x1 _ o (by show @Ne Nat _ _; omega) e
  replace i2g := i2g.to fun o e => x1 _ o (by show @Ne Nat _ _; omega) e
  replace s2g := s2g.to fun o e => x1 _ o (by show @Ne Nat _ _; omega) e
  clear i1g; have i1g := i1n; clear i1n
  replace hzg : IsZip p1 (m + 4) (m + 2) (m + 3) .ellipsis := x1 _ _ (by show @Ne Nat _ _; omega) hzg
  replace szg : p1.objs.size = s.heap.objs.size := u1.1.trans szg
  replace kg : ∀ c o, c ≠ (m + 4) → c ≠ (m + 3) → c ≠ m → c ≠ (m + 1) → s.heap.get? c = some o → p1.get? c = some o := fun c o c1 c2 d1 d2 e => x1 c o d1 (kg c o c1 c2 d1 d2 e)
  refine wpAny_bind (wpAny_seqItems hTOg rfl ?_)
  refine wpAny_bind (wpAny_updateSeq_tup hTOg (by simp) fun q1 hTOn v1 => ?_)
  replace hTOg : IsTupA q1 (m + 3) #[y1, o2] := hTOn
  clear hTOn x1
  have x1 : ∀ c o, c ≠ (m + 3) → p1.get? c = some o → q1.get? c = some o := fun c o c1 e => v1.extBut _ _ c1 e
  replace i1g := i1g.to fun o e => x1 _ o (by show @Ne Nat _ _; omega) e
  replace s1g := s1g.to fun o e => x1 _ o (by show @Ne Nat _ _; omega) e
  replace i2g := i2g.to fun o e => x1 _ o (by show @Ne Nat _ _; omega) e
  replace s2g := s2g.to fun o e => x1 _ o (by show @Ne Nat _ _; omega) e
  replace hzg : IsZip q1 (m + 4) (m + 2) (m + 3) .ellipsis := x1 _ _ (by show @Ne Nat _ _; omega) hzg
  replace szg : q1.objs.size = s.heap.objs.size := v1.1.trans szg
  replace kg : ∀ c o, c ≠ (m + 4) → c ≠ (m + 3) → c ≠ m → c ≠ (m + 1) → s.heap.get? c = some o → q1.get? c = some o := fun c o c1 c2 d1 d2 e => x1 c o c2 (kg c o c1 c2 d1 d2 e)
  clear x1
  refine wpAny_bind (wpAny_letGo (wpAny_pure ?_))
  refine wpAny_bind (wpAny_bind (wpAny_onRaise ?_))
  show wpAny _ _ (Builtin.SmallTypes.nextOf (.ref (m + 1)) >>= _) _ _ _
  refine wpAny_bind (SK.nextItem i2g s2g e2 fun p2 i2n u2 => wpAny_pure ?_)
  have x1 : ∀ c o, c ≠ (m + 1) → q1.get? c = some o → p2.get? c = some o := fun c o c1 e => u2.extBut _ _ c1 e
  replace hTOg : IsTupA p2 (m + 3) #[y1, o2] := x1 _ _ (by show @Ne Nat _ _; omega) hTOg
  replace i1g := i1g.to fun o e => x1 _ o (by show @Ne Nat _ _; omega) e
  replace s1g := s1g.to fun o e => x1 _ o (by show @Ne Nat _ _; omega) e
  replace s2g := s2g.to fun o e => x1 _ o (by show @Ne Nat _ _; omega) e
  clear i2g; have i2g := i2n; clear i2n
  replace hzg : IsZip p2 (m + 4) (m + 2) (m + 3) .ellipsis := x1 _ _ (by show @Ne Nat _ _; omega) hzg
  replace szg : p2.objs.size = s.heap.objs.size := u2.1.trans szg
  replace kg : ∀ c o, c ≠ (m + 4) → c ≠ (m + 3) → c ≠ m → c ≠ (m + 1) → s.heap.get? c = some o → p2.get? c = some o := fun c o c1 c2 d1 d2 e => x1 c o d2 (kg c o c1 c2 d1 d2 e)
  refine wpAny_bind (wpAny_seqItems hTOg rfl ?_)
  refine wpAny_bind (wpAny_updateSeq_tup hTOg (by simp) fun q2 hTOn v2 => ?_)
  replace hTOg : IsTupA q2 (m + 3) #[y1, y2] := hTOn
  clear hTOn x1
  have x1 : ∀ c o, c ≠ (m + 3) → p2.get? c = some o → q2.get? c = some o := fun c o c1 e => v2.extBut _ _ c1 e
  replace i1g := i1g.to fun o e => x1 _ o (by show @Ne Nat _ _; omega) e
  replace s1g := s1g.to fun o e => x1 _ o (by show @Ne Nat _ _; omega) e
  replace i2g := i2g.to fun o e => x1 _ o (by show @Ne Nat _ _; omega) e
  replace s2g := s2g.to fun o e => x1 _ o (by show @Ne Nat _ _; omega) e
  replace hzg : IsZip q2 (m + 4) (m + 2) (m + 3) .ellipsis := x1 _ _ (by show @Ne Nat _ _; omega) hzg
  replace szg : q2.objs.size = s.heap.objs.size := v2.1.trans szg
  replace kg : ∀ c o, c ≠ (m + 4) → c ≠ (m + 3) → c ≠ m → c ≠ (m + 1) → s.heap.get? c = some o → q2.get? c = some o := fun c o c1 c2 d1 d2 e => x1 c o c2 (kg c o c1 c2 d1 d2 e)
  clear x1
  refine wpAny_bind (wpAny_letGo (wpAny_pure (wpAny_pure ?_)))
  refine wpAny_bind (wpAny_seqItems hTOg rfl ?_)
  refine wpAny_bind (wpAny_newTuple ?_)
  have hzlt : (m + 4) < q2.objs.size := Heap.lt_size hzg
  show wpAny _ _ (Builtin.SmallTypes.ownedTupleHandOut (.ref (m + 4)) (.ref q2.objs.size) >>= _) _ _ _
  refine wpAny_bind ?_
  unfold Builtin.SmallTypes.ownedTupleHandOut
  have hz6 : IsZip (q2.push { cls := .type "tuple", data := .seq #[y1, y2] }) (m + 4) (m + 2) (m + 3) .ellipsis := Heap.get?_push_of_some _ hzg
  refine wpAny_bind (wpAny_setField_rec hz6 (by simp) fun r7 hz7 t7 => ?_)
  replace hz7 : IsZip r7 (m + 4) (m + 2) (m + 3) (rawInt q2.objs.size) := hz7
  refine wpAny_setField_rec hz7 (by simp) fun r8 hz8 t8 => ?_
  replace hz8 : IsZip r8 (m + 4) (m + 2) (m + 3) (rawInt q2.objs.size) := hz8
  have up : ∀ c o, c ≠ (m + 4) → q2.get? c = some o → r8.get? c = some o := fun c o c1 e => t8.extBut _ _ c1 (t7.extBut _ _ c1 (Heap.get?_push_of_some _ e))
  have hT8 : IsTupA r8 q2.objs.size #[y1, y2] := t8.extBut _ _ (Nat.ne_of_gt hzlt) (t7.extBut _ _ (Nat.ne_of_gt hzlt) (Heap.get?_push_size _ rfl))
  have hz9 : r8.objs.size = q2.objs.size + 1 := by rw [t8.1, t7.1, Heap.size_push]
  rw [szg] at hz8 hT8 hz9
  refine wpAny_pure ⟨_, rfl, ?_⟩
  show Q (.ref q2.objs.size) _
  rw [szg]
  exact hQ r8 hz8 (up _ _ (by show @Ne Nat _ _; omega) hTOg) (i1g.to fun o e => up _ o (by show @Ne Nat _ _; omega) e) (i2g.to fun o e => up _ o (by show @Ne Nat _ _; omega) e) hT8 hz9 fun c o c1 c2 d1 d2 e => up c o c1 (kg c o c1 c2 d1 d2 e)
theorem zip2_next_end {m : Nat} {b1 b2 : SK} {l1 l2 : Nat} {k : Nat} {x1 x2 : Array Value} {o1 o2 : Value} {Q : Fin → Shared → Prop} (hh : A.handled = none) (a1 : l1 < m) (a2 : l2 < m)
    (hz : IsZip s.heap (m + 4) (m + 2) (m + 3) .none) (hTI : IsTupA s.heap (m + 2) #[.ref m, .ref (m + 1)]) (hTO : IsTupA s.heap (m + 3) #[o1, o2])
    (h1 : b1.It s.heap m l1 k) (h2 : b2.It s.heap (m + 1) l2 k) (s1 : b1.Sq s.heap l1 x1) (s2 : b2.Sq s.heap l2 x2) (hend : x1[k]? = none ∨ x2[k]? = none)
    (hE : ∀ h' e, (∀ c o, c ≠ (m + 4) → c ≠ (m + 3) → c ≠ m → c ≠ (m + 1) → s.heap.get? c = some o → h'.get? c = some o) → (∃ o, h'.get? e = some o ∧ o.cls = .type "StopIteration") → E (.ref e) { s with heap := h' }) :
    wpAny (model prog w) A (Builtin.«zip.__next__» ⟨[.ref (m + 4)], []⟩) Q E s := by
  show wpAny _ _ (field (.ref (m + 4)) 2 >>= _) _ _ _
  refine wpAny_bind (wpAny_field hz rfl (x := .bool false) rfl ?_)
  show wpAny _ _ (field (.ref (m + 4)) 3 >>= _) _ _ _
  refine wpAny_bind (wpAny_field hz rfl (x := .ref (m + 2)) rfl ?_)
  refine wpAny_bind (wpAny_seqItems hTI rfl ?_)
  show wpAny _ _ (Builtin.SmallTypes.ownedTupleIsFree (.ref (m + 4)) >>= _) _ _ _
  refine wpAny_bind ?_
  unfold Builtin.SmallTypes.ownedTupleIsFree
  refine wpAny_bind (wpAny_field hz rfl (x := .none) rfl (wpAny_pure ?_))
  simp only [if_true]
  refine wpAny_bind (wpAny_rule ?_)
  refine wpAny_bind (wpAny_field hz rfl (x := .ref (m + 3)) rfl ?_)
  refine wpAny_bind (wpAny_setField_rec hz (by simp) fun g1 hz1 t1 => ?_)
  replace hz1 : IsZip g1 (m + 4) (m + 2) (m + 3) .ellipsis := hz1
  have ext1 : ∀ c o, c ≠ (m + 4) → s.heap.get? c = some o → g1.get? c = some o := fun c o c1 e => t1.extBut _ _ c1 e
  refine wpAny_bind ?_
  simp only [List.zipIdx_cons, List.zipIdx_nil, List.forIn_cons, List.forIn_nil]
  have hTOg : IsTupA g1 (m + 3) #[o1, o2] := ext1 _ _ (by show @Ne Nat _ _; omega) hTO
  have i1g : b1.It g1 m l1 k := h1.to fun o e => ext1 _ o (by show @Ne Nat _ _; omega) e
  have s1g : b1.Sq g1 l1 x1 := s1.to fun o e => ext1 _ o (by show @Ne Nat _ _; omega) e
  have i2g : b2.It g1 (m + 1) l2 k := h2.to fun o e => ext1 _ o (by show @Ne Nat _ _; omega) e
  have s2g : b2.Sq g1 l2 x2 := s2.to fun o e => ext1 _ o (by show @Ne Nat _ _; omega) e
  have hzg := hz1
  have kg : ∀ c o, c ≠ (m + 4) → c ≠ (m + 3) → c ≠ m → c ≠ (m + 1) → s.heap.get? c = some o → g1.get? c = some o := fun c o c1 c2 d1 d2 e => ext1 c o c1 e
  refine wpAny_bind (wpAny_bind (wpAny_onRaise ?_))
  show wpAny _ _ (Builtin.SmallTypes.nextOf (.ref m) >>= _) _ _ _
  cases y1 : x1[k]? with
  | none =>
    refine wpAny_bind (SK.nextEnd hh i1g s1g y1 fun f1 e u1 he => ?_)
    obtain ⟨oe, hoe, hce⟩ := he
    have hz2 : IsZip f1 (m + 4) (m + 2) (m + 3) .ellipsis := u1 _ _ (by show @Ne Nat _ _; omega) hzg
    have hez : e ≠ (m + 4) := fun x => by subst x; rw [hz2] at hoe; cases hoe; simp at hce
    exact wpAny_setField_rec hz2 (by simp) fun f3 _ t3 => hE f3 e (fun c o c1 c2 d1 d2 x => t3.extBut _ _ c1 (u1 _ _ d1 (kg c o c1 c2 d1 d2 x))) ⟨oe, t3.extBut _ _ hez hoe, hce⟩
  | some w1 =>
    refine wpAny_bind (SK.nextItem i1g s1g y1 fun p1 i1n u1 => wpAny_pure ?_)
    have x1 : ∀ c o, c ≠ m → g1.get? c = some o → p1.get? c = some o := fun c o c1 e => u1.extBut _ _ c1 e
    replace hTOg : IsTupA p1 (m + 3) #[o1, o2] := x1 _ _ (by show @Ne Nat _ _; omega) hTOg
    replace s1g := s1g.to fun o e => x1 _ o (by show @Ne Nat _ _; omega) e
    replace i2g := i2g.to fun o e => x1 _ o (by show @Ne Nat _ _; omega) e
    replace s2g := s2g.to fun o e => x1 _ o (by show @Ne Nat _ _; omega) e
    replace hzg : IsZip p1 (m + 4) (m + 2) (m + 3) .ellipsis := x1 _ _ (by show @Ne Nat _ _; omega) hzg
    replace kg : ∀ c o, c ≠ (m + 4) → c ≠ (m + 3) → c ≠ m → c ≠ (m + 1) → s.heap.get? c = some o → p1.get? c = some o := fun c o c1 c2 d1 d2 e => x1 c o d1 (kg c o c1 c2 d1 d2 e)
    refine wpAny_bind (wpAny_seqItems hTOg rfl ?_)
    refine wpAny_bind (wpAny_updateSeq_tup hTOg (by simp) fun q1 hTOn v1 => ?_)
    replace hTOg : IsTupA q1 (m + 3) #[w1, o2] := hTOn
    clear hTOn x1 i1g
    have x1 : ∀ c o, c ≠ (m + 3) → p1.get? c = some o → q1.get? c = some o := fun c o c1 e => v1.extBut _ _ c1 e
    replace s1g := s1g.to fun o e => x1 _ o (by show @Ne Nat _ _; omega) e
    replace i2g := i2g.to fun o e => x1 _ o (by show @Ne Nat _ _; omega) e
    replace s2g := s2g.to fun o e => x1 _ o (by show @Ne Nat _ _; omega) e
    replace hzg : IsZip q1 (m + 4) (m + 2) (m + 3) .ellipsis := x1 _ _ (by show @Ne Nat _ _; omega) hzg
    replace kg : ∀ c o, c ≠ (m + 4) → c ≠ (m + 3) → c ≠ m → c ≠ (m + 1) → s.heap.get? c = some o → q1.get? c = some o := fun c o c1 c2 d1 d2 e => x1 c o c2 (kg c o c1 c2 d1 d2 e)
    clear x1
    refine wpAny_bind (wpAny_letGo (wpAny_pure ?_))
    refine wpAny_bind (wpAny_bind (wpAny_onRaise ?_))
    show wpAny _ _ (Builtin.SmallTypes.nextOf (.ref (m + 1)) >>= _) _ _ _
    have y2 : x2[k]? = none := by
      rcases hend with h | h
      · rw [h] at y1; cases y1
      · exact h
    refine wpAny_bind (SK.nextEnd hh i2g s2g y2 fun f1 e u1 he => ?_)
    obtain ⟨oe, hoe, hce⟩ := he
    have hz2 : IsZip f1 (m + 4) (m + 2) (m + 3) .ellipsis := u1 _ _ (by show @Ne Nat _ _; omega) hzg
    have hez : e ≠ (m + 4) := fun x => by subst x; rw [hz2] at hoe; cases hoe; simp at hce
    exact wpAny_setField_rec hz2 (by simp) fun f3 _ t3 => hE f3 e (fun c o c1 c2 d1 d2 x => t3.extBut _ _ c1 (u1 _ _ d2 (kg c o c1 c2 d1 d2 x))) ⟨oe, t3.extBut _ _ hez hoe, hce⟩
theorem pyNext_zip2_item {m : Nat} {b1 b2 : SK} {l1 l2 : Nat} {k : Nat} {x1 x2 : Array Value} {y1 y2 : Value} {o1 o2 : Value} {Q : Option Value → Shared → Prop} (a1 : l1 < m) (a2 : l2 < m)
    (hz : IsZip s.heap (m + 4) (m + 2) (m + 3) .none) (hTI : IsTupA s.heap (m + 2) #[.ref m, .ref (m + 1)]) (hTO : IsTupA s.heap (m + 3) #[o1, o2])
    (h1 : b1.It s.heap m l1 k) (h2 : b2.It s.heap (m + 1) l2 k) (s1 : b1.Sq s.heap l1 x1) (s2 : b2.Sq s.heap l2 x2) (e1 : x1[k]? = some y1) (e2 : x2[k]? = some y2)
    (hQ : ∀ h', IsZip h' (m + 4) (m + 2) (m + 3) (rawInt s.heap.objs.size) → IsTupA h' (m + 3) #[y1, y2] → b1.It h' m l1 (k + 1) → b2.It h' (m + 1) l2 (k + 1) → IsTupA h' s.heap.objs.size #[y1, y2] → h'.objs.size = s.heap.objs.size + 1 →
      (∀ c o, c ≠ (m + 4) → c ≠ (m + 3) → c ≠ m → c ≠ (m + 1) → s.heap.get? c = some o → h'.get? c = some o) → Q (some (.ref s.heap.objs.size)) { s with heap := h' }) :
    wpAny (model prog w) A (pyNext (.ref (m + 4))) Q E s := by
  have hT : s.TypeIs (.ref (m + 4)) "zip" := ⟨_, hz, rfl⟩
  unfold pyNext
  exact wpAny_bind (wpAny_attempt (wpAny_callSpecial?_slot (name := Str.ofString "__next__") hT F.slot_zip_next
    (wpAny_call_entry F.slot_zip_next hT F.entry_zip_next
      (zip2_next_item a1 a2 hz hTI hTO h1 h2 s1 s2 e1 e2 fun h' c0 c1 c2 c3 c4 c5 c6 => wpAny_pure (hQ h' c0 c1 c2 c3 c4 c5 c6)) (F.args_zip_next_1 _))))
theorem pyNext_zip2_end {m : Nat} {b1 b2 : SK} {l1 l2 : Nat} {k : Nat} {x1 x2 : Array Value} {o1 o2 : Value} {Q : Option Value → Shared → Prop} (hh : A.handled = none) (a1 : l1 < m) (a2 : l2 < m)
    (hz : IsZip s.heap (m + 4) (m + 2) (m + 3) .none) (hTI : IsTupA s.heap (m + 2) #[.ref m, .ref (m + 1)]) (hTO : IsTupA s.heap (m + 3) #[o1, o2])
    (h1 : b1.It s.heap m l1 k) (h2 : b2.It s.heap (m + 1) l2 k) (s1 : b1.Sq s.heap l1 x1) (s2 : b2.Sq s.heap l2 x2) (hend : x1[k]? = none ∨ x2[k]? = none)
    (hQ : ∀ h', (∀ c o, c ≠ (m + 4) → c ≠ (m + 3) → c ≠ m → c ≠ (m + 1) → s.heap.get? c = some o → h'.get? c = some o) → Q none { s with heap := h' }) : wpAny (model prog w) A (pyNext (.ref (m + 4))) Q E s := by
  have hT : s.TypeIs (.ref (m + 4)) "zip" := ⟨_, hz, rfl⟩
  unfold pyNext
  refine wpAny_bind (wpAny_attempt (wpAny_callSpecial?_slot (name := Str.ofString "__next__") hT F.slot_zip_next
    (wpAny_call_entry F.slot_zip_next hT F.entry_zip_next (zip2_next_end hh a1 a2 hz hTI hTO h1 h2 s1 s2 hend fun h' e hk he => ?_) (F.args_zip_next_1 _))))
  obtain ⟨o, ho, hc⟩ := he
  refine wpAny_bind (wpAny_isInstance (T := "StopIteration") (b := true) ⟨o, ho, hc⟩ isSubtype_stop ?_)
  exact wpAny_pure (hQ _ hk)
end
section
variable {prog : Program} {w : World} {A : Around} {E : Value → Shared → Prop} {s : Shared}
end
end TL
namespace TL
open PySem PySem.Spec PyProof.Rows L2
def SK.nm : SK → String
  | .l => "list_iterator"
  | .t => "tuple_iterator"
def SK.ob (b : SK) (l : Addr) : Obj := { cls := .type b.nm, data := .fields #[.ref l, .int 0 0] }
theorem SK.ob_it {b : SK} {h : Heap} {i l : Addr} (e : h.get? i = some (b.ob l)) : b.It h i l 0 := by
  cases b with
  | l => exact ⟨_, e, rfl, rfl⟩
  | t => exact ⟨_, e, rfl, rfl⟩
section
variable {prog : Program} {w : World} {A : Around} {E : Value → Shared → Prop} {s : Shared}
theorem SK.pyIter {b : SK} {l : Addr} {items : Array Value} {Q : Value → Shared → Prop} (h : b.Sq s.heap l items) (hQ : Q (.ref s.heap.objs.size) { s with heap := s.heap.push (b.ob l) }) : wpAny (model prog w) A (PySem.pyIter (.ref l)) Q E s := by
  cases b with
  | l => exact wpAny_pyIter_list h hQ
  | t => exact wpAny_pyIter_tuple h hQ
end
theorem SK.Sq.push {b : SK} {h : Heap} {l : Addr} {xs : Array Value} (x : b.Sq h l xs) (o : Obj) : b.Sq (h.push o) l xs := x.to fun _ e => Heap.get?_push_of_some _ e
theorem typeCall_zip_2 (a b : Value) : checkTypeCall "zip" ⟨[a, b], []⟩ = pure () := by kernel_rfl
theorem newCall_zip_2 (a b : Value) : checkBuiltinCall "zip.__new__" ⟨[.type "zip", a, b], []⟩ = pure () := by kernel_rfl
theorem args_object_init_3 (a b c : Value) : argsOk "object.__init__" ⟨[a, b, c], []⟩ := F.args_object_init_3 a b c
abbrev zh2_1 (b1 : SK) (b2 : SK) (l1 : Addr) (l2 : Addr) (h : Heap) : Heap := Heap.push (h) (b1.ob l1)
abbrev zh2_2 (b1 : SK) (b2 : SK) (l1 : Addr) (l2 : Addr) (h : Heap) : Heap := Heap.push (zh2_1 b1 b2 l1 l2 h) (b2.ob l2)
abbrev zh2_3 (b1 : SK) (b2 : SK) (l1 : Addr) (l2 : Addr) (h : Heap) : Heap := Heap.push (zh2_2 b1 b2 l1 l2 h) { cls := .type "tuple", data := .seq #[.ref h.objs.size, .ref (zh2_1 b1 b2 l1 l2 h).objs.size] }
abbrev zh2_4 (b1 : SK) (b2 : SK) (l1 : Addr) (l2 : Addr) (h : Heap) : Heap := Heap.push (zh2_3 b1 b2 l1 l2 h) { cls := .type "tuple", data := .seq #[.none, .none] }
abbrev zh2_5 (b1 : SK) (b2 : SK) (l1 : Addr) (l2 : Addr) (h : Heap) : Heap := Heap.push (zh2_4 b1 b2 l1 l2 h) { cls := .type "zip", data := .fields #[.none, .bool false, .bool false, .ref (zh2_2 b1 b2 l1 l2 h).objs.size, .ref (zh2_3 b1 b2 l1 l2 h).objs.size] }
theorem meets_zip2_new (b1 : SK) (b2 : SK) (l1 : Addr) (l2 : Addr) (x1 : Array Value) (x2 : Array Value) :
    Meets (Builtin.«zip.__new__» ⟨[.type "zip", .ref l1, .ref l2], []⟩) (fun _ R s => b1.Sq s.heap l1 x1 ∧ b2.Sq s.heap l2 x2 ∧
      R (.ok (.ret (.ref (zh2_4 b1 b2 l1 l2 s.heap).objs.size))) { s with heap := zh2_5 b1 b2 l1 l2 s.heap }) :=
  .of_wp fun prog w A R s h => by
    obtain ⟨hp, g, d, tk, os⟩ := s; obtain ⟨s1, s2, h⟩ := h
    have hsub := sub_zip
    have q1 : b1.Sq (Shared.heap ⟨hp, g, d, tk, os⟩) l1 x1 := s1
    have q2 : b2.Sq (Shared.heap ⟨zh2_1 b1 b2 l1 l2 hp, g, d, tk, os⟩) l2 x2 := SK.Sq.to s2 fun _ e => Heap.get?_push_of_some _ (e)
    wp_walk using SK.pyIter q1, SK.pyIter q2
    exact ⟨_, rfl, h⟩
section
variable {prog : Program} {w : World} {A : Around} {E : Value → Shared → Prop} {s : Shared}
theorem call_zip2 {b1 b2 : SK} {l1 l2 : Addr} {x1 x2 : Array Value} {Q : Value → Shared → Prop} (s1 : b1.Sq s.heap l1 x1) (s2 : b2.Sq s.heap l2 x2)
    (h : ∀ h', IsZip h' (s.heap.objs.size + 4) (s.heap.objs.size + 2) (s.heap.objs.size + 3) .none → IsTupA h' (s.heap.objs.size + 2) #[.ref s.heap.objs.size, .ref (s.heap.objs.size + 1)] → IsTupA h' (s.heap.objs.size + 3) #[.none, .none] → b1.It h' s.heap.objs.size l1 0 → b2.It h' (s.heap.objs.size + 1) l2 0 →
      (∀ c o, s.heap.get? c = some o → h'.get? c = some o) → Q (.ref (s.heap.objs.size + 4)) { s with heap := h' }) :
    wpAny (model prog w) A (call (.type "zip") [.ref l1, .ref l2]) Q E s := by
  refine callType_new F.called_zip (by decide) (typeCall_zip_2 _ _) (newCall_zip_2 _ _) (fun obj => args_object_init_3 obj _ _) F.entry_zip_new
    (meets_zip2_new b1 b2 l1 l2 x1 x2) ⟨s1, s2, ?_⟩
  have z1 : (zh2_1 b1 b2 l1 l2 s.heap).objs.size = (s.heap.objs.size + 1) := Heap.size_push ..
  have z2 : (zh2_2 b1 b2 l1 l2 s.heap).objs.size = (s.heap.objs.size + 2) := by rw [Heap.size_push, z1]
  have z3 : (zh2_3 b1 b2 l1 l2 s.heap).objs.size = (s.heap.objs.size + 3) := by rw [Heap.size_push, z2]
  have z4 : (zh2_4 b1 b2 l1 l2 s.heap).objs.size = (s.heap.objs.size + 4) := by rw [Heap.size_push, z3]
  have g0 : (zh2_5 b1 b2 l1 l2 s.heap).get? s.heap.objs.size = some _ := Heap.get?_push_of_some _ (Heap.get?_push_of_some _ (Heap.get?_push_of_some _ (Heap.get?_push_of_some _ (Heap.get?_push_size _ rfl))))
  have g1 : (zh2_5 b1 b2 l1 l2 s.heap).get? (zh2_1 b1 b2 l1 l2 s.heap).objs.size = some _ := Heap.get?_push_of_some _ (Heap.get?_push_of_some _ (Heap.get?_push_of_some _ (Heap.get?_push_size _ rfl)))
  have g2 : (zh2_5 b1 b2 l1 l2 s.heap).get? (zh2_2 b1 b2 l1 l2 s.heap).objs.size = some _ := Heap.get?_push_of_some _ (Heap.get?_push_of_some _ (Heap.get?_push_size _ rfl))
  have g3 : (zh2_5 b1 b2 l1 l2 s.heap).get? (zh2_3 b1 b2 l1 l2 s.heap).objs.size = some _ := Heap.get?_push_of_some _ (Heap.get?_push_size _ rfl)
  have g4 : (zh2_5 b1 b2 l1 l2 s.heap).get? (zh2_4 b1 b2 l1 l2 s.heap).objs.size = some _ := Heap.get?_push_size _ rfl
  show _ ∧ _
  rw [z2, z3, z4] at g4
  rw [z1, z2] at g2
  rw [z3] at g3
  rw [z1] at g1
  rw [z4]
  exact ⟨⟨_, g4, rfl⟩, h _ g4 g2 g3 (SK.ob_it g0) (SK.ob_it g1) fun c o x => Heap.get?_push_of_some _ (Heap.get?_push_of_some _ (Heap.get?_push_of_some _ (Heap.get?_push_of_some _ (Heap.get?_push_of_some _ (x)))))⟩
end
section
variable {prog : Program} {w : World} {A : Around} {E : Value → Shared → Prop} {s : Shared}
end
end TL
namespace TL
open PySem PySem.Spec PyProof.Rows L2
theorem SK.inv {X : Cx} {pins : List (Addr × Obj)} {σ : L2.St} {H : Hp} {s : Shared} (b : SK) (I : Inv X pins σ H s) {a : Addr} {xs : List V} (h : b.SqV X.K H a xs) : ∃ its, Vals xs its ∧ b.Sq s.heap a its.toArray := by
  cases b with
  | l => obtain ⟨its, rv, p, _⟩ := I.list h; exact ⟨its, rv, p.isList⟩
  | t => obtain ⟨its, rv, p, _⟩ := I.tuple h; exact ⟨its, rv, p⟩
theorem SK.inj {X : Cx} {pins : List (Addr × Obj)} {σ : L2.St} {H : Hp} {s : Shared} (b : SK) (I : Inv X pins σ H s) {a : Addr} {xs ys : List V} (h : b.SqV X.K H a xs) (h2 : b.SqV X.K H a ys) : xs = ys := by
  cases b with
  | l => exact I.list_inj h h2
  | t => exact I.tuple_inj h h2
theorem SK.SqV.up {b : SK} {K : PySem.W.Frag} {F F' : Hp} {a : Addr} {xs : List V} (s : Same F F') (h : b.SqV K F a xs) : b.SqV K F' a xs := by
  cases b with
  | l => exact TL.SqL.up s h
  | t => exact TL.SqT.up s h
theorem seq_rep {K : PySem.W.Frag} {F : Hp} {d : D} {v : V} {l : List D} (r : Rep K F d v) (h : seqX d = some l) : ∃ (b : SK) (a : Addr) (xs : List V), v = .ref a ∧ b.SqV K F a xs ∧ Reps K F l xs := by
  cases r with
  | tup e rs => cases h; exact ⟨.t, _, _, rfl, .inl (.inl e), rs⟩
  | lst e rs => cases h; exact ⟨.l, _, _, rfl, .inl (.inl e), rs⟩
  | _ => cases h
def Itz2 (K : PySem.W.Frag) (b1 b2 : SK) (a1 a2 : Addr) : It :=
  ⟨fun i H => ∃ (x1 x2 : List V) (y1 y2 : V), b1.SqV K H a1 x1 ∧ b2.SqV K H a2 x2 ∧ x1[i]? = some y1 ∧ x2[i]? = some y2,
    fun i H v H' => ∃ (T : Addr) (y1 y2 : V), v = .ref T ∧ H T = none ∧ H' = upd H T (.tup [y1, y2]) ∧ (∀ xs, b1.SqV K H a1 xs → xs[i]? = some y1) ∧ (∀ xs, b2.SqV K H a2 xs → xs[i]? = some y2),
    fun i H => ∃ (x1 x2 : List V), b1.SqV K H a1 x1 ∧ b2.SqV K H a2 x2 ∧ (x1.length ≤ i ∨ x2.length ≤ i)⟩
theorem turn_zip2 {P : Program} {w : World} {K : PySem.W.Frag} {elts : List Expr} {kk : Nat} {tpos : Pos} {m : Nat} {b1 b2 : SK} {a1 a2 : Nat} (q1 : a1 < m) (q2 : a2 < m) :
    Turn P w K (.Tuple elts kk tpos) (Itz2 K b1 b2 a1 a2) [(m + 4), (m + 2), (m + 3), m, (m + 1)] (m + 4) (fun i h => IsZip h (m + 4) (m + 2) (m + 3) .none ∧ IsTupA h (m + 2) #[.ref m, .ref (m + 1)] ∧ (∃ o1 o2, IsTupA h (m + 3) #[o1, o2]) ∧ b1.It h m a1 i ∧ b2.It h (m + 1) a2 i) where
  mem := by simp
  obj := fun i h st c hc => by
    obtain ⟨hz, hTI, ⟨o1, o2, hTO⟩, h1, h2⟩ := st
    have e' : c = (m + 4) ∨ c = (m + 2) ∨ c = (m + 3) ∨ c = m ∨ c = (m + 1) := by simpa using hc
    rcases e' with r | r | r | r | r
    · rw [r]; exact ⟨_, hz, fun v q => nomatch q⟩
    · rw [r]; exact ⟨_, hTI, fun v q => nomatch q⟩
    · rw [r]; exact ⟨_, hTO, fun v q => nomatch q⟩
    · rw [r]; exact h1.get
    · rw [r]; exact h2.get
  keep := fun i h h' st k => by
    obtain ⟨hz, hTI, ⟨o1, o2, hTO⟩, h1, h2⟩ := st
    exact ⟨k _ (by simp) _ hz, k _ (by simp) _ hTI, ⟨_, _, k _ (by simp) _ hTO⟩, h1.to fun o q => k _ (by simp) o q, h2.to fun o q => k _ (by simp) o q⟩
  item := by
    intro X hP hw hK hc i pins s σ H E I hf st hg
    subst hP hw hK
    obtain ⟨hz, hTI, ⟨o1, o2, hTO⟩, h1, h2⟩ := st
    obtain ⟨x1, x2, y1, y2, p1, p2, e1, e2⟩ := hg
    obtain ⟨i1, v1, s1⟩ := b1.inv I p1
    obtain ⟨u1, hu1, ru1⟩ := v1.get e1
    obtain ⟨i2, v2, s2⟩ := b2.inv I p2
    obtain ⟨u2, hu2, ru2⟩ := v2.get e2
    have hzl : (m + 4) < s.heap.objs.size := Heap.lt_size hz
    refine pyNext_zip2_item q1 q2 hz hTI hTO h1 h2 s1 s2 (by simpa using hu1) (by simpa using hu2) fun h' z' TO' k1 k2 hT hsz hk => ?_
    refine ⟨_, rfl, wpAny_letOwnedTupleGo_zip (s := { s with heap := h' }) z' fun h'' z'' sb => ?_⟩
    have hT2 : h''.get? s.heap.objs.size = some { cls := .type "tuple", data := .seq #[u1, u2] } := (sb.2 _ (Nat.ne_of_gt hzl)).trans hT
    have new : ObjOk X.prog X.w (upd H s.heap.objs.size (.tup [y1, y2])) h'' s.heap.objs.size (.tup [y1, y2]) :=
      ⟨by show 2 ≤ sizeLine; decide, [u1, u2], .cons ru1 (.cons ru2 (.nil)), ⟨_, hT2, rfl, _, rfl⟩⟩
    have I1 : Inv X pins σ (upd H s.heap.objs.size (.tup [y1, y2])) { s with heap := h'' } :=
      I.turnedNew (t' := s.toks) (ch := [(m + 4), (m + 2), (m + 3), m, (m + 1)]) (fun c o hb q => (sb.2 c (fun q' => hb (by simp [q']))).trans (hk c o (fun q' => hb (by simp [q'])) (fun q' => hb (by simp [q'])) (fun q' => hb (by simp [q'])) (fun q' => hb (by simp [q'])) q)) hf (Nat.le_refl _) new
    refine ⟨.ref s.heap.objs.size, _, I1, rfl, ⟨_, y1, y2, rfl, I.hok.fresh (Nat.le_refl _), rfl, fun l hl => by rw [b1.inj I hl p1]; exact e1, fun l hl => by rw [b2.inj I hl p2]; exact e2⟩, ⟨z'', ?_, ⟨u1, u2, ?_⟩, ?_, ?_⟩, fun c hcm => ?_⟩
    · exact (sb.2 _ (by show @Ne Nat _ _; omega)).trans (hk _ _ (by show @Ne Nat _ _; omega) (by show @Ne Nat _ _; omega) (by show @Ne Nat _ _; omega) (by show @Ne Nat _ _; omega) hTI)
    · exact (sb.2 _ (by show @Ne Nat _ _; omega)).trans TO'
    · exact k1.to fun o q => (sb.2 _ (by show @Ne Nat _ _; omega)).trans q
    · exact k2.to fun o q => (sb.2 _ (by show @Ne Nat _ _; omega)).trans q
    · have hlt : c < s.heap.objs.size := by
        have e' : c = (m + 4) ∨ c = (m + 2) ∨ c = (m + 3) ∨ c = m ∨ c = (m + 1) := by simpa using hcm
        rcases e' with r | r | r | r | r
        · rw [r]; exact hzl
        · rw [r]; exact Heap.lt_size hTI
        · rw [r]; exact Heap.lt_size hTO
        · rw [r]; obtain ⟨_, e1, _⟩ := h1.get; exact Heap.lt_size e1
        · rw [r]; obtain ⟨_, e1, _⟩ := h2.get; exact Heap.lt_size e1
      rw [upd_ne (Nat.ne_of_lt hlt)]
      exact (hf c hcm).1
  done := by
    intro X hP hw hK hc i pins s σ H E I hf st hg
    subst hP hw hK
    obtain ⟨hz, hTI, ⟨o1, o2, hTO⟩, h1, h2⟩ := st
    obtain ⟨x1, x2, p1, p2, hend⟩ := hg
    obtain ⟨i1, v1, s1⟩ := b1.inv I p1
    have l1 := v1.length
    obtain ⟨i2, v2, s2⟩ := b2.inv I p2
    have l2 := v2.length
    have he : i1.toArray[i]? = none ∨ i2.toArray[i]? = none := by
      rcases hend with q | q
      · exact .inl (by simp; omega)
      · exact .inr (by simp; omega)
    exact pyNext_zip2_end (I.ok.hd hc) q1 q2 hz hTI hTO h1 h2 s1 s2 he fun h' hk => ⟨rfl, I.turnedL (t' := s.toks) (ch := [(m + 4), (m + 2), (m + 3), m, (m + 1)]) (fun c o hb q =>
      hk c o (fun q' => hb (by simp [q'])) (fun q' => hb (by simp [q'])) (fun q' => hb (by simp [q'])) (fun q' => hb (by simp [q'])) q) hf⟩
  self := fun A i s Q E st h => wpAny_pyIter_zip st.1 h
def iZip2 (K : PySem.W.Frag) (ta : TA) : TI := fun σ H R => ta σ H fun vs H1 => ∃ (b1 b2 : SK) (a1 a2 : Addr) (x1 x2 : List V), vs = [.ref a1, .ref a2] ∧ b1.SqV K H1 a1 x1 ∧ b2.SqV K H1 a2 x2 ∧ R (Itz2 K b1 b2 a1 a2) H1
theorem pi_zip2 {X : Cx} {e1 e2 : Expr} {ta : TA} {p pos tpos : Pos} {elts : List Expr} {kk : Nat} (hg : Gl X "zip") (hm : X.mg "zip" = none) (ha : PA X [e1, e2] ta)
    (hs : starEach [e1, e2] X.env = (false, eval e1 X.env) :: starEach [e2] X.env := by rfl) (hpl : (backTo pos (starEach [e2] X.env)).any (·.1) = false := by rfl) :
    PI X (.Tuple elts kk tpos) (.Call (.Name "zip" p) [e1, e2] [] pos) (iZip2 X.K ta) := by
  refine ⟨fun pins s σ H R I h => ?_⟩
  refine Call_ (ld_blt I hg hm PyProof.Rows.boot_zip (PyProof.Rows.callWith_type1 (thn (ha.run pos pins s σ H _ I h) fun us s1 ⟨vs, H1, I1, r1, q1⟩ => ?_) hs hpl))
  obtain ⟨b1, b2, a1, a2, x1, x2, ev, p1, p2, q⟩ := q1
  subst ev
  cases r1 with
  | cons t1 r2 =>
    cases r2 with
    | cons t2 r3 =>
      cases r3
      cases t1
      cases t2
      have fresh : ∀ c, c ∈ [s1.heap.objs.size + 4, s1.heap.objs.size + 2, s1.heap.objs.size + 3, s1.heap.objs.size, s1.heap.objs.size + 1] → FpOk X pins H1 c := fun c hcm => by
        have e' : c = s1.heap.objs.size + 4 ∨ c = s1.heap.objs.size + 2 ∨ c = s1.heap.objs.size + 3 ∨ c = s1.heap.objs.size ∨ c = s1.heap.objs.size + 1 := by simpa using hcm
        have hle : s1.heap.objs.size ≤ c := by
          rcases e' with z | z | z | z | z
          · rw [z]; exact Nat.le_add_right _ _
          · rw [z]; exact Nat.le_add_right _ _
          · rw [z]; exact Nat.le_add_right _ _
          · rw [z]; exact Nat.le_refl _
          · rw [z]; exact Nat.le_add_right _ _
        exact I1.fpOk hle (I1.hok.fresh hle)
      obtain ⟨i1, v1, sq1⟩ := b1.inv I1 p1
      obtain ⟨_, w1⟩ := sq1.get
      obtain ⟨i2, v2, sq2⟩ := b2.inv I1 p2
      obtain ⟨_, w2⟩ := sq2.get
      refine call_zip2 sq1 sq2 fun h' hz hTI hTO k1 k2 hk => wpAny_pyIter_zip hz ?_
      have I2 : Inv X pins σ H1 { s1 with heap := h' } := I1.kept (t' := s1.toks) hk
      exact ⟨s1.heap.objs.size + 4, [s1.heap.objs.size + 4, s1.heap.objs.size + 2, s1.heap.objs.size + 3, s1.heap.objs.size, s1.heap.objs.size + 1], _, _, H1, rfl, I2, turn_zip2 (m := s1.heap.objs.size) (Heap.lt_size w1) (Heap.lt_size w2), ⟨hz, hTI, ⟨_, _, hTO⟩, k1, k2⟩, fresh, q⟩
theorem zip2L_get : ∀ {i : Nat} {d1 d2 : List D} {d : D}, (zip2L d1 d2)[i]? = some d → ∃ c1 c2, d = .tup [c1, c2] ∧ d1[i]? = some c1 ∧ d2[i]? = some c2
  | _, [], _, _, h => by simp [zip2L] at h
  | _, _ :: _, [], _, h => by simp [zip2L] at h
  | 0, a :: as, b :: bs, d, h => by simp [zip2L] at h; exact ⟨a, b, h.symm, rfl, rfl⟩
  | i + 1, a :: as, b :: bs, d, h => by
    obtain ⟨c1, c2, e, h1, h2⟩ := zip2L_get (i := i) (d1 := as) (d2 := bs) (d := d) (by simpa [zip2L] using h)
    exact ⟨c1, c2, e, by simpa using h1, by simpa using h2⟩
theorem zip2L_end : ∀ {i : Nat} {d1 d2 : List D}, (zip2L d1 d2).length ≤ i → d1.length ≤ i ∨ d2.length ≤ i
  | _, [], _, h => .inl (Nat.zero_le _)
  | _, _ :: _, [], h => .inr (Nat.zero_le _)
  | 0, a :: as, b :: bs, h => by simp [zip2L] at h
  | i + 1, a :: as, b :: bs, h => by
    have := zip2L_end (i := i) (d1 := as) (d2 := bs) (by simpa [zip2L] using h)
    simpa using this
theorem follows_zip2 {K : PySem.W.Frag} {F0 : Hp} {b1 b2 : SK} {a1 a2 : Addr} {d1 d2 : List D} {x1 x2 : List V} (h1 : b1.SqV K F0 a1 x1) (h2 : b2.SqV K F0 a2 x2) (r1 : Reps K F0 d1 x1) (r2 : Reps K F0 d2 x2) : Follows K F0 (Itz2 K b1 b2 a1 a2) (zip2L d1 d2) where
  go := fun B i g t σ H hi s rl => by
    obtain ⟨c1, c2, _, e1, e2⟩ := zip2L_get (List.getElem?_eq_getElem hi)
    obtain ⟨v1, w1, _⟩ := r1.get e1
    obtain ⟨v2, w2, _⟩ := r2.get e2
    exact ⟨x1, x2, v1, v2, SK.SqV.up rl.sub (SK.SqV.up s h1), SK.SqV.up rl.sub (SK.SqV.up s h2), w1, w2⟩
  yld := fun B i d g t σ H x H' hi s rl hy => by
    obtain ⟨c1, c2, rfl, e1, e2⟩ := zip2L_get hi
    obtain ⟨v1, w1, t1⟩ := r1.get e1
    obtain ⟨v2, w2, t2⟩ := r2.get e2
    obtain ⟨T, y1, y2, rfl, hT, rfl, f1, f2⟩ := hy
    cases (f1 _ (SK.SqV.up rl.sub (SK.SqV.up s h1))).symm.trans w1
    cases (f2 _ (SK.SqV.up rl.sub (SK.SqV.up s h2))).symm.trans w2
    obtain ⟨g', s', rl', rr⟩ := newTup rl hT (ds := [c1, c2]) (.cons (t1.up s) (.cons (t2.up s) (.nil)))
    exact ⟨g', s', rl', rr⟩
  stop := fun B i g t σ H hi s rl => by
    refine ⟨x1, x2, SK.SqV.up rl.sub (SK.SqV.up s h1), SK.SqV.up rl.sub (SK.SqV.up s h2), ?_⟩
    rw [r1.length, r2.length]; exact zip2L_end hi
theorem IT_zip2 {B : Base} {X : Cx} {e1 e2 : Expr} {wa : WA} {p pos tpos : Pos} {elts : List Expr} {kk : Nat} (hm : X.mg "zip" = none) (h : PAT B X [e1, e2] wa) (hg : Gl X "zip" := by rfl) (hs : starEach [e1, e2] X.env = (false, eval e1 X.env) :: starEach [e2] X.env := by rfl) (hpl : (backTo pos (starEach [e2] X.env)).any (·.1) = false := by rfl) :
    PIT B X (.Tuple elts kk tpos) (.Call (.Name "zip" p) [e1, e2] [] pos) (wIzip2 wa) := by
  refine fun W tk => PI.imp (pi_zip2 hg hm (h W tk) hs hpl) fun σ H R q => ?_
  obtain ⟨g, t, P, rl, m, k⟩ := q
  refine ⟨g, t, _, rl, m, fun ds t1 m1 g1 vs H1 s1 rl1 rs1 => ?_⟩
  obtain ⟨⟨c1, c2⟩, e0, m1⟩ := oP_get m1
  obtain ⟨l, e1, m1⟩ := oP_get m1
  obtain rfl : ds = [c1, c2] := by
    match ds, e0 with
    | [_, _], e => cases e; rfl
  obtain ⟨v1, v2, rfl, q1, q2⟩ := rs1.two
  have e1' : (seqX c1).bind (fun a => (seqX c2).bind fun b => some (zip2L a b)) = some l := e1
  obtain ⟨d1, z1, e1'⟩ := Option.bind_eq_some_iff.mp e1'
  obtain ⟨d2, z2, e1'⟩ := Option.bind_eq_some_iff.mp e1'
  cases e1'
  obtain ⟨b1, a1, x1, rfl, p1, r1⟩ := seq_rep q1 z1
  obtain ⟨b2, a2, x2, rfl, p2, r2⟩ := seq_rep q2 z2
  exact ⟨b1, b2, a1, a2, x1, x2, rfl, SK.SqV.up rl1.sub p1, SK.SqV.up rl1.sub p2, k _ _ m1 g1 H1 _ s1 rl1 (follows_zip2 p1 p2 r1 r2)⟩
end TL
namespace TL
open PySem PySem.Spec PyProof.Rows L2
section
variable {prog : Program} {w : World} {A : Around} {E : Value → Shared → Prop} {s : Shared}
theorem SK.enumNext {b : SK} {e it l : Addr} {i : Nat} {items : Array Value} {x old : Value} {Q : Value → Shared → Prop}
    (he : IsEnum s.heap e it i old) (hit : b.It s.heap it l i) (hl : b.Sq s.heap l items) (hx : items[i]? = some x) (hne : e ≠ it)
    (hQ : ∀ h', IsEnumOut h' e it ((i : Int) + 1) x s.heap.objs.size → b.It h' it l (i + 1) →
      h'.get? s.heap.objs.size = some { cls := .type "tuple", data := .seq #[.int i s.toks, x] } →
      (∀ b o, b ≠ e → b ≠ it → s.heap.get? b = some o → h'.get? b = some o) → Q (.ref s.heap.objs.size) { s with heap := h', toks := s.toks + 1 }) :
    wpAny (model prog w) A (Builtin.«enumerate.__next__» ⟨[.ref e], []⟩) (fun fin s' => ∃ v, fin = .done (.ret v) ∧ Q v s') E s := by
  obtain ⟨hp, g, d, tk, os⟩ := s
  show wpAny _ _ (field (.ref e) 2 >>= _) _ _ _
  refine wpAny_bind (wpAny_field he rfl (x := .ref it) rfl ?_)
  refine wpAny_bind (SK.nextItem hit hl hx fun g1 k1 t1 => ?_)
  have f1 : IsEnum g1 e it i old := (t1.2 e hne).trans he
  have x1 : ∀ b o, b ≠ it → hp.get? b = some o → g1.get? b = some o := fun b o c q => (t1.2 b c).trans q
  have z1 : g1.objs.size = hp.objs.size := t1.1
  show wpAny _ _ (field (.ref e) 3 >>= _) _ _ ⟨g1, g, d, tk, os⟩
  refine wpAny_bind (wpAny_field f1 rfl (x := rawInt i) rfl ?_)
  show wpAny _ _ (field (.ref e) 4 >>= _) _ _ ⟨g1, g, d, tk, os⟩
  refine wpAny_bind (wpAny_field f1 rfl (x := .none) rfl ?_)
  show wpAny _ _ (mkInt i >>= _) _ _ ⟨g1, g, d, tk, os⟩
  refine wpAny_bind (wpAny_mkInt ?_)
  show wpAny _ _ (setField (.ref e) 3 (rawInt ((i : Int) + 1)) >>= _) _ _ ⟨g1, g, d, tk + 1, os⟩
  refine wpAny_bind (wpAny_setField_rec f1 (by simp) fun g2 f2 t2 => ?_)
  replace f2 : IsEnum g2 e it ((i : Int) + 1) old := f2
  show wpAny _ _ (setField (.ref e) 4 .none >>= _) _ _ ⟨g2, g, d, tk + 1, os⟩
  refine wpAny_bind (wpAny_setField_rec f2 (by simp) fun g3 f3 t3 => ?_)
  replace f3 : IsEnum g3 e it ((i : Int) + 1) old := f3
  show wpAny _ _ (newTuple [.int i tk, x] >>= _) _ _ ⟨g3, g, d, tk + 1, os⟩
  refine wpAny_bind (wpAny_newTuple ?_)
  have x3 : ∀ b o, b ≠ e → g1.get? b = some o → g3.get? b = some o := fun b o c q => t3.extBut b o c (t2.extBut b o c q)
  have z3 : g3.objs.size = hp.objs.size := by rw [t3.1, t2.1]; exact z1
  have f4 : IsEnum (g3.push { cls := .type "tuple", data := .seq #[.int i tk, x] }) e it ((i : Int) + 1) old := Heap.get?_push_of_some _ f3
  have hel : e < hp.objs.size := Heap.lt_size he
  have n4 : (g3.push { cls := .type "tuple", data := .seq #[.int i tk, x] }).get? hp.objs.size = some { cls := .type "tuple", data := .seq #[.int i tk, x] } := by rw [← z3]; exact Heap.get?_push_size _ rfl
  have x4 : ∀ b o, b ≠ e → g1.get? b = some o → (g3.push { cls := .type "tuple", data := .seq #[.int i tk, x] }).get? b = some o := fun b o c q => Heap.get?_push_of_some _ (x3 b o c q)
  generalize hg4 : g3.push { cls := .type "tuple", data := .seq #[.int i tk, x] } = g4 at f4 n4 x4
  show wpAny _ _ (Builtin.SmallTypes.ownedTupleIsFree (.ref e) >>= _) _ _ ⟨g4, g, d, tk + 1, os⟩
  rw [z3]
  refine wpAny_bind ?_
  unfold Builtin.SmallTypes.ownedTupleIsFree
  refine wpAny_bind (wpAny_field f4 rfl (x := .none) rfl (wpAny_pure ?_))
  simp only [if_true]
  refine wpAny_bind (wpAny_rule ?_)
  refine wpAny_bind (wpAny_field f4 rfl (x := old) rfl ?_)
  refine wpAny_bind (wpAny_setField_rec f4 (by simp) fun g5 f5 t5 => ?_)
  replace f5 : IsEnum g5 e it ((i : Int) + 1) x := f5
  show wpAny _ _ (Builtin.SmallTypes.ownedTupleHandOut (.ref e) (.ref hp.objs.size) >>= _) _ _ ⟨g5, g, d, tk + 1, os⟩
  refine wpAny_bind ?_
  unfold Builtin.SmallTypes.ownedTupleHandOut
  refine wpAny_bind (wpAny_setField_rec f5 (by simp) fun g6 f6 t6 => ?_)
  replace f6 : IsEnumOut g6 e it ((i : Int) + 1) x hp.objs.size := f6
  refine wpAny_setField_rec f6 (by simp) fun g7 f7 t7 => ?_
  replace f7 : IsEnumOut g7 e it ((i : Int) + 1) x hp.objs.size := f7
  have x7 : ∀ b o, b ≠ e → g4.get? b = some o → g7.get? b = some o := fun b o c q => t7.extBut b o c (t6.extBut b o c (t5.extBut b o c q))
  exact wpAny_bind (wpAny_letGo (wpAny_pure ⟨_, rfl, hQ g7 f7 (k1.to fun o q => x7 _ o (Ne.symm hne) (x4 _ o (Ne.symm hne) q)) (x7 _ _ (Nat.ne_of_gt hel) n4) fun b o c1 c2 q => x7 b o c1 (x4 b o c1 (x1 b o c2 q))⟩))
theorem SK.pyNextEnum {b : SK} {e it l : Addr} {i : Nat} {items : Array Value} {x old : Value} {Q : Option Value → Shared → Prop}
    (he : IsEnum s.heap e it i old) (hit : b.It s.heap it l i) (hl : b.Sq s.heap l items) (hx : items[i]? = some x) (hne : e ≠ it)
    (hQ : ∀ h', IsEnumOut h' e it ((i : Int) + 1) x s.heap.objs.size → b.It h' it l (i + 1) →
      h'.get? s.heap.objs.size = some { cls := .type "tuple", data := .seq #[.int i s.toks, x] } →
      (∀ b o, b ≠ e → b ≠ it → s.heap.get? b = some o → h'.get? b = some o) → Q (some (.ref s.heap.objs.size)) { s with heap := h', toks := s.toks + 1 }) :
    wpAny (model prog w) A (pyNext (.ref e)) Q E s := by
  have hT : s.TypeIs (.ref e) "enumerate" := ⟨_, he, rfl⟩
  unfold pyNext
  exact wpAny_bind (wpAny_attempt (wpAny_callSpecial?_slot (name := Str.ofString "__next__") hT F.slot_enumerate_next
    (wpAny_call_entry F.slot_enumerate_next hT F.entry_enumerate_next (SK.enumNext he hit hl hx hne fun h' a b c k => wpAny_pure (hQ h' a b c k)) (F.args_enumerate_next_1 _))))
theorem SK.pyEndEnum {b : SK} {e it l : Addr} {i : Nat} {items : Array Value} {old : Value} {Q : Option Value → Shared → Prop} (hh : A.handled = none)
    (he : IsEnum s.heap e it i old) (hit : b.It s.heap it l i) (hl : b.Sq s.heap l items) (hx : items[i]? = none)
    (hQ : ∀ h', Heap.ExtBut it s.heap h' → Q none { s with heap := h' }) : wpAny (model prog w) A (pyNext (.ref e)) Q E s := by
  have hT : s.TypeIs (.ref e) "enumerate" := ⟨_, he, rfl⟩
  unfold pyNext
  refine wpAny_bind (wpAny_attempt (wpAny_callSpecial?_slot (name := Str.ofString "__next__") hT F.slot_enumerate_next
    (wpAny_call_entry F.slot_enumerate_next hT F.entry_enumerate_next ?_ (F.args_enumerate_next_1 _))))
  show wpAny _ _ (field (.ref e) 2 >>= _) _ _ _
  refine wpAny_bind (wpAny_field he rfl (x := .ref it) rfl ?_)
  refine wpAny_bind (SK.nextEnd hh hit hl hx fun h' x he' hx' => ?_)
  obtain ⟨o, ho, hc⟩ := hx'
  refine wpAny_bind (wpAny_isInstance (T := "StopIteration") (b := true) ⟨o, ho, hc⟩ isSubtype_stop ?_)
  exact wpAny_pure (hQ _ he')
end
theorem SK.meetsEnum (b : SK) (l : Addr) (items : Array Value) :
    Meets (Builtin.«enumerate.__new__» ⟨[.type "enumerate", .ref l], []⟩) (fun _ R s => b.Sq s.heap l items ∧
      R (.ok (.ret (.ref (s.heap.push (b.ob l)).objs.size)))
        { s with heap := (s.heap.push (b.ob l)).push { cls := .type "enumerate", data := .fields #[.none, .bool false, .ref s.heap.objs.size, rawInt 0, .none, .none] } }) :=
  .of_wp fun prog w A R s h => by
    obtain ⟨hp, g, d, tk, os⟩ := s; obtain ⟨hl, h⟩ := h
    have hsub := sub_enumerate
    have hL : b.Sq (Shared.heap ⟨hp, g, d, tk, os⟩) l items := hl
    have key : ∃ ob, hp.get? l = some ob := hl.get
    obtain ⟨⟨cls, dct, dt, sl⟩, hg⟩ := key
    wp_walk using wpAny_loadPart' hg
    refine wpAny_stack_any fun st => wpAny_pure ?_
    split
    · rename_i c _ _ _ _ _
      cases (c == Value.type "enumerate")
      · wp_walk using wpAny_loadPart' hg, SK.pyIter hL
        exact ⟨_, rfl, h⟩
      · wp_walk using wpAny_loadPart' hg, SK.pyIter hL
        exact ⟨_, rfl, h⟩
    · wp_walk using wpAny_loadPart' hg, SK.pyIter hL
      exact ⟨_, rfl, h⟩
end TL
namespace TL
open PySem PySem.Spec PyProof.Rows L2
section
variable {prog : Program} {w : World} {A : Around} {E : Value → Shared → Prop} {s : Shared}
theorem SK.callEnum {b : SK} {l : Addr} {items : Array Value} {Q : Value → Shared → Prop} (hL : b.Sq s.heap l items)
    (h : ∀ h', IsEnum h' (s.heap.objs.size + 1) s.heap.objs.size 0 .none → b.It h' s.heap.objs.size l 0 →
      (∀ b o, s.heap.get? b = some o → h'.get? b = some o) → Q (.ref (s.heap.objs.size + 1)) { s with heap := h' }) :
    wpAny (model prog w) A (call (.type "enumerate") [.ref l]) Q E s := by
  refine callType_new F.called_enumerate (by decide) (F.typeCall_enumerate_1 _) (F.newCall_enumerate_1 _) (fun obj => F.args_object_init_2 obj _) F.entry_enumerate_new
    (SK.meetsEnum b l items) ⟨hL, ?_⟩
  have hz : (s.heap.push (b.ob l)).objs.size = s.heap.objs.size + 1 := Heap.size_push ..
  show _ ∧ _
  rw [hz]
  have he : IsEnum ((s.heap.push (b.ob l)).push
      { cls := .type "enumerate", data := .fields #[.none, .bool false, .ref s.heap.objs.size, rawInt 0, .none, .none] }) (s.heap.objs.size + 1) s.heap.objs.size 0 .none := by
    have := Heap.get?_push_size (s.heap.push (b.ob l))
      (o := { cls := .type "enumerate", data := .fields #[.none, .bool false, .ref s.heap.objs.size, rawInt 0, .none, .none] }) rfl
    rw [hz] at this; exact this
  refine ⟨⟨_, he, rfl⟩, h _ he (SK.ob_it (Heap.get?_push_of_some _ (Heap.get?_push_size _ (by cases b <;> rfl)))) fun b o x => Heap.get?_push_of_some _ (Heap.get?_push_of_some _ x)⟩
end
def ItE (K : PySem.W.Frag) (b : SK) (a : Addr) : It :=
  ⟨fun i H => ∃ xs x, b.SqV K H a xs ∧ xs[i]? = some x,
    fun i H v H' => ∃ (T : Addr) (x : V), v = .ref T ∧ H T = none ∧ H' = upd H T (.tup [.int (i : Nat), x]) ∧ ∀ xs, b.SqV K H a xs → xs[i]? = some x,
    fun i H => ∃ xs, b.SqV K H a xs ∧ xs.length ≤ i⟩
theorem turn_enumS {P : Program} {w : World} {K : PySem.W.Frag} {elts : List Expr} {kk : Nat} {tpos : Pos} (b : SK) (a e it : Addr) :
    Turn P w K (.Tuple elts kk tpos) (ItE K b a) [e, it] e (fun i h => (∃ old, IsEnum h e it ((i : Nat) : Int) old) ∧ b.It h it a i ∧ e ≠ it) where
  mem := by simp
  obj := fun i h st c hc => by
    obtain ⟨⟨old, he⟩, h1, _⟩ := st
    have e' : c = e ∨ c = it := by simpa using hc
    rcases e' with z | z
    · rw [z]; exact ⟨_, he, fun v q => nomatch q⟩
    · rw [z]; exact h1.get
  keep := fun i h h' st k => let ⟨⟨old, he⟩, hi, hne⟩ := st; ⟨⟨old, k e (by simp) _ he⟩, hi.to fun o q => k it (by simp) o q, hne⟩
  item := by
    intro X hP hw hK hc i pins s σ H E I hf st hg
    subst hP hw hK
    obtain ⟨⟨old, he⟩, hit, hne⟩ := st
    obtain ⟨xs, x, hq, hx⟩ := hg
    obtain ⟨its, rv, p⟩ := b.inv I hq
    obtain ⟨u, hu, ru⟩ := rv.get hx
    have hel : e < s.heap.objs.size := Heap.lt_size he
    have hil : it < s.heap.objs.size := by obtain ⟨_, q, _⟩ := hit.get; exact Heap.lt_size q
    refine SK.pyNextEnum he hit p (x := u) (by simpa using hu) hne fun h' ho hit' hT hk => ?_
    refine ⟨_, rfl, wpAny_letOwnedTupleGo_enum (s := { s with heap := h', toks := s.toks + 1 }) ho fun h'' he' sb => ?_⟩
    have hT2 : h''.get? s.heap.objs.size = some { cls := .type "tuple", data := .seq #[.int i s.toks, u] } := (sb.2 _ (Nat.ne_of_gt hel)).trans hT
    have new : ObjOk X.prog X.w (upd H s.heap.objs.size (.tup [.int (i : Nat), x])) h'' s.heap.objs.size (.tup [.int (i : Nat), x]) :=
      ⟨by show 2 ≤ sizeLine; decide, [.int i s.toks, u], .cons ⟨_, rfl⟩ (.cons ru .nil), ⟨_, hT2, rfl, _, rfl⟩⟩
    have I1 : Inv X pins σ (upd H s.heap.objs.size (.tup [.int (i : Nat), x])) { s with heap := h'', toks := s.toks + 1 } :=
      I.turnedNew (ch := [e, it]) (fun b ob hb q => (sb.2 b (fun z => hb (by simp [z]))).trans (hk b ob (fun z => hb (by simp [z])) (fun z => hb (by simp [z])) q)) hf (Nat.le_refl _) new
    refine ⟨.ref s.heap.objs.size, _, I1, rfl, ⟨_, x, rfl, I.hok.fresh (Nat.le_refl _), rfl, fun ys hy => by rw [b.inj I hy hq]; exact hx⟩, ⟨⟨u, ?_⟩, hit'.to fun o q => (sb.2 it (Ne.symm hne)).trans q, hne⟩, fun c hb => ?_⟩
    · have e1 : ((i + 1 : Nat) : Int) = (i : Int) + 1 := by omega
      rw [e1]; exact he'
    · have hb' : c < s.heap.objs.size := by
        have e' : c = e ∨ c = it := by simpa using hb
        rcases e' with z | z
        · rw [z]; exact hel
        · rw [z]; exact hil
      rw [upd_ne (Nat.ne_of_lt hb')]
      exact (hf c hb).1
  done := by
    intro X hP hw hK hc i pins s σ H E I hf st hg
    subst hP hw hK
    obtain ⟨⟨old, he⟩, hit, hne⟩ := st
    obtain ⟨xs, hq, hx⟩ := hg
    obtain ⟨its, rv, p⟩ := b.inv I hq
    obtain ⟨f0, f1, f2, f3, f4, f5⟩ := hf it (by simp)
    have hl := rv.length
    exact SK.pyEndEnum (I.ok.hd hc) he hit p (by simp; omega) fun h' eb => ⟨rfl, I.turned (t' := s.toks) (fun b o hb q => eb b o hb q) f0 f1 f3 f4 f5⟩
  self := fun A i s Q E st h => let ⟨⟨_, he⟩, _⟩ := st; wpAny_pyIter_enum he h
def iEnumS (K : PySem.W.Frag) (ta : TA) : TI := fun σ H R => ta σ H fun vs H1 => ∃ (b : SK) (a : Addr) (xs : List V), vs = [.ref a] ∧ b.SqV K H1 a xs ∧ R (ItE K b a) H1
theorem pi_enumS {X : Cx} {e : Expr} {ta : TA} {p pos tpos : Pos} {elts : List Expr} {kk : Nat} (hg : Gl X "enumerate") (hm : X.mg "enumerate" = none) (ha : PA X [e] ta) (hs : starEach [e] X.env = [(false, eval e X.env)] := by rfl) :
    PI X (.Tuple elts kk tpos) (.Call (.Name "enumerate" p) [e] [] pos) (iEnumS X.K ta) := by
  refine ⟨fun pins s σ H R I h => ?_⟩
  refine Call_ (ld_blt I hg hm boot_enumerate (PyProof.Rows.callWith_type1 (thn (ha.run pos pins s σ H _ I h) fun us s1 ⟨vs, H1, I1, r1, q1⟩ => ?_) hs rfl))
  obtain ⟨b, a, xs, ex, hq, q⟩ := q1
  subst ex
  cases r1 with
  | cons r rr =>
    cases rr
    cases r
    obtain ⟨its, rv, p'⟩ := b.inv I1 hq
    refine SK.callEnum p' fun h' he hit hk => wpAny_pyIter_enum he ?_
    have I2 : Inv X pins σ H1 { s1 with heap := h' } := I1.kept (t' := s1.toks) hk
    refine ⟨s1.heap.objs.size + 1, [s1.heap.objs.size + 1, s1.heap.objs.size], _, _, H1, rfl, I2, turn_enumS b a (s1.heap.objs.size + 1) s1.heap.objs.size, ⟨⟨.none, he⟩, hit, Nat.succ_ne_self _⟩, fun b hb => ?_, q⟩
    have e' : b = s1.heap.objs.size + 1 ∨ b = s1.heap.objs.size := by simpa using hb
    have hle : s1.heap.objs.size ≤ b := by
      rcases e' with z | z
      · rw [z]; exact Nat.le_add_right _ _
      · rw [z]; exact Nat.le_refl _
    exact I1.fpOk hle (I1.hok.fresh hle)
theorem enumL_get : ∀ {ds : List D} {k i : Nat} {d : D}, (enumL k ds)[i]? = some d → ∃ c, d = .tup [.int ((k + i : Nat) : Int), c] ∧ ds[i]? = some c
  | [], _, _, _, h => by simp [enumL] at h
  | a :: as, k, 0, d, h => by simp [enumL] at h; exact ⟨a, h.symm, rfl⟩
  | a :: as, k, i + 1, d, h => by
    obtain ⟨c, e, h1⟩ := enumL_get (ds := as) (k := k + 1) (i := i) (d := d) (by simpa [enumL] using h)
    exact ⟨c, by rw [e, show k + 1 + i = k + (i + 1) by omega], by simpa using h1⟩
theorem enumL_len : ∀ {ds : List D} {k : Nat}, (enumL k ds).length = ds.length
  | [], _ => rfl
  | a :: as, k => by show (enumL (k + 1) as).length + 1 = _; rw [enumL_len]; rfl
theorem follows_enum {K : PySem.W.Frag} {F0 : Hp} {b : SK} {a : Addr} {ds : List D} {xs : List V} (h1 : b.SqV K F0 a xs) (r1 : Reps K F0 ds xs) : Follows K F0 (ItE K b a) (enumL 0 ds) where
  go := fun B i g t σ H hi s rl => by
    obtain ⟨c, _, e1⟩ := enumL_get (List.getElem?_eq_getElem hi)
    obtain ⟨v, w, _⟩ := r1.get e1
    exact ⟨xs, v, SK.SqV.up rl.sub (SK.SqV.up s h1), w⟩
  yld := fun B i d g t σ H x H' hi s rl hy => by
    obtain ⟨c, rfl, e1⟩ := enumL_get hi
    obtain ⟨v, w, t1⟩ := r1.get e1
    obtain ⟨T, y, rfl, hT, rfl, f1⟩ := hy
    cases (f1 _ (SK.SqV.up rl.sub (SK.SqV.up s h1))).symm.trans w
    obtain ⟨g', s', rl', rr⟩ := newTup rl hT (ds := [.int ((0 + i : Nat) : Int), c]) (.cons (by rw [Nat.zero_add]; exact .int _) (.cons (t1.up s) .nil))
    exact ⟨g', s', rl', rr⟩
  stop := fun B i g t σ H hi s rl => ⟨xs, SK.SqV.up rl.sub (SK.SqV.up s h1), by rw [r1.length]; rw [enumL_len] at hi; exact hi⟩
theorem IT_enumerate {B : Base} {X : Cx} {e : Expr} {wa : WA} {p pos tpos : Pos} {elts : List Expr} {kk : Nat} (hm : X.mg "enumerate" = none) (h : PAT B X [e] wa) (hg : Gl X "enumerate" := by rfl) (hs : starEach [e] X.env = [(false, eval e X.env)] := by rfl) :
    PIT B X (.Tuple elts kk tpos) (.Call (.Name "enumerate" p) [e] [] pos) (wIenumerate wa) := by
  refine fun W tk => PI.imp (pi_enumS hg hm (h W tk) hs) fun σ H R q => ?_
  obtain ⟨g, t, P, rl, m, k⟩ := q
  refine ⟨g, t, _, rl, m, fun ds t1 m1 g1 vs H1 s1 rl1 rs1 => ?_⟩
  obtain ⟨c1, e0, m1⟩ := oP_get m1
  obtain ⟨l, e1, m1⟩ := oP_get m1
  obtain rfl : ds = [c1] := by
    match ds, e0 with
    | [_], e => cases e; rfl
  obtain ⟨v1, rfl, q1⟩ := rs1.one
  have e1' : (seqX c1).bind (fun a => some (enumL 0 a)) = some l := e1
  obtain ⟨d1, z1, e1'⟩ := Option.bind_eq_some_iff.mp e1'
  cases e1'
  obtain ⟨b1, a1, x1, rfl, p1, r1⟩ := seq_rep q1 z1
  exact ⟨b1, a1, x1, rfl, SK.SqV.up rl1.sub p1, k _ _ m1 g1 H1 _ s1 rl1 (follows_enum p1 r1)⟩
theorem Reps.reverse {K : PySem.W.Frag} {F : Hp} : ∀ {ds : List D} {vs : List V}, Reps K F ds vs → Reps K F ds.reverse vs.reverse
  | _, _, .nil => .nil
  | _, _, .cons a b => by
    rw [List.reverse_cons, List.reverse_cons]
    exact (Reps.reverse b).append (.cons a .nil)
end TL
namespace TL
open PySem PySem.Spec PyProof.Rows L2
section
variable {K : PySem.W.Frag} {B B' : Base} {g g' : Gh} {t : TSt} {σ : L2.St} {H H' : Hp} {r : R} {v : V} {fp fq : List Addr}
/-- objects of nobody -/
def Fre (B : Base) (g : Gh) (H : Hp) (fp : List Addr) : Prop := ∀ b ∈ fp, g.ow b = none ∧ g.F b = none ∧ B.H b = none ∧ ∃ o, H b = some o
def ResF (K : PySem.W.Frag) (B : Base) (g : Gh) (H : Hp) (fp : List Addr) : R → V → Prop
  | .v d, v => fp = [] ∧ Rep K g.F d v
  | .own c, v => ∃ a, v = .ref a ∧ CellRel K g.F H c a fp ∧ fp.Nodup ∧ Fre B g H fp
theorem ResRel.fr (x : ResRel K B g H r v) : ∃ fp, ResF K B g H fp r v := by
  cases r with
  | v d => exact ⟨[], rfl, x⟩
  | own c =>
    obtain ⟨a, fp, e, cr, nd, h⟩ := x
    exact ⟨fp, a, e, cr, nd, fun b hb => ⟨(h b hb).1, (h b hb).2.1, (h b hb).2.2, cr.there b hb⟩⟩
theorem ResF.free (x : ResF K B g H fp r v) : Fre B g H fp := by
  cases r with
  | v d => rw [x.1]; exact fun b hb => nomatch hb
  | own c => obtain ⟨a, e, cr, nd, h⟩ := x; exact h
theorem ResF.res (x : ResF K B g H fp r v) : ResRel K B g H r v := by
  cases r with
  | v d => exact x.2
  | own c => obtain ⟨a, e, cr, nd, h⟩ := x; exact ⟨a, fp, e, cr, nd, fun b hb => ⟨(h b hb).1, (h b hb).2.1, (h b hb).2.2.1⟩⟩
theorem ResF.up (x : ResF K B g H fp r v) (s : Same g.F g'.F) (k : ∀ b ∈ fp, H' b = H b) (f : Fre B' g' H' fp) : ResF K B' g' H' fp r v := by
  cases r with
  | v d => exact ⟨x.1, Rep.up s x.2⟩
  | own c => obtain ⟨a, e, cr, nd, h⟩ := x; exact ⟨a, e, cr.up s k, nd, f⟩
/-- the ground with these objects in it -/
structure Ext (B : Base) where
  H0 : Hp
  fp : List Addr
  h : ∀ b ∈ fp, B.H b = none ∧ B.F b = none ∧ ∃ o, H0 b = some o
  ft : ∀ b ∈ B.foot, ∃ o, B.H b = some o
noncomputable def Ext.bs {B : Base} (x : Ext B) : Base := { B with H := fun b => if b ∈ x.fp then x.H0 b else B.H b }
theorem Ext.at {B : Base} (x : Ext B) {b : Addr} (hb : b ∈ x.fp) : x.bs.H b = x.H0 b := if_pos hb
theorem Ext.out {B : Base} (x : Ext B) {b : Addr} (hb : b ∉ x.fp) : x.bs.H b = B.H b := if_neg hb
theorem Ext.non {B : Base} (x : Ext B) {b : Addr} (e : x.bs.H b = none) : b ∉ x.fp ∧ B.H b = none := by
  have n : b ∉ x.fp := fun hb => by
    obtain ⟨_, _, o, ho⟩ := x.h b hb
    rw [x.at hb, ho] at e; cases e
  exact ⟨n, by rw [← x.out n]; exact e⟩
theorem Ext.nfoot {B : Base} (x : Ext B) {b : Addr} (hb : b ∈ x.fp) : b ∉ B.foot := fun z => by
  obtain ⟨o, ho⟩ := x.ft b z
  rw [(x.h b hb).1] at ho; cases ho
theorem Fre.baseF (rl : Rel K B g t σ H) (f : Fre B g H fp) {b : Addr} (hb : b ∈ fp) : B.F b = none := by
  cases q : B.F b with
  | none => rfl
  | some u => have := rl.base _ _ q; rw [(f b hb).2.1] at this; cases this
def extOf (rl : Rel K B g t σ H) (f : Fre B g H fp) : Ext B := ⟨H, fp, fun b hb => ⟨(f b hb).2.2.1, f.baseF rl hb, (f b hb).2.2.2⟩, rl.ft⟩
theorem slot_base {i : Nat} {x : Option (Option V)} {s : Slot} (h : SlotRel K B g H i x s) (e : B.home = B'.home) : SlotRel K B' g H i x s := by
  cases s with
  | bor c =>
    obtain ⟨a, fp, h1, h2, h3⟩ := h
    exact ⟨a, fp, h1, by rw [← e]; exact h2, h3⟩
  | _ => exact h
theorem Rel.addL (rl : Rel K B g t σ H) (f : Fre B g H fp) : Rel K (extOf rl f).bs g t σ H := by
  refine ⟨rl.base, rl.sub, rl.ff, fun b u e n => ?_, fun b hb => ?_, ⟨fun b e => ?_, rl.tf⟩, rl.there, rl.len, fun i s e => slot_base (rl.slot i s e) rfl⟩
  · by_cases hb : b ∈ fp
    · rw [(extOf rl f).at hb] at e
      exact ⟨e, (f b hb).1, fun _ => (f b hb).2.1⟩
    · rw [(extOf rl f).out hb] at e
      exact rl.old b u e n
  · obtain ⟨u, hu⟩ := rl.ft b hb
    exact ⟨u, by rw [(extOf rl f).out (fun z => by rw [(f b z).2.2.1] at hu; cases hu)]; exact hu⟩
  · by_cases hb : b ∈ fp
    · obtain ⟨o, ho⟩ := (f b hb).2.2.2
      rw [e] at ho; cases ho
    · rw [(extOf rl f).out hb]; exact rl.dom b e
theorem Rel.subL {x : Ext B} (rl : Rel K x.bs g t σ H) : Rel K B g t σ H ∧ (∀ b ∈ x.fp, H b = x.H0 b) ∧ Fre B g H x.fp := by
  have hp : ∀ b ∈ x.fp, H b = x.H0 b ∧ g.ow b = none ∧ g.F b = none := fun b hb => by
    obtain ⟨h1, h2, o, ho⟩ := x.h b hb
    obtain ⟨z1, z2, z3⟩ := rl.old b o (by rw [x.at hb]; exact ho) (x.nfoot hb)
    exact ⟨z1.trans ho.symm, z2, z3 h2⟩
  refine ⟨⟨rl.base, rl.sub, rl.ff, fun b u e n => rl.old b u (by rw [x.out (fun z => by rw [(x.h b z).1] at e; cases e)]; exact e) n, x.ft, ⟨fun b e => (x.non (rl.dom b e)).2, rl.tf⟩, rl.there, rl.len, fun i s e => slot_base (rl.slot i s e) rfl⟩,
    fun b hb => (hp b hb).1, fun b hb => ⟨(hp b hb).2.1, (hp b hb).2.2, (x.h b hb).1, ?_⟩⟩
  obtain ⟨_, _, o, ho⟩ := x.h b hb
  exact ⟨o, (hp b hb).1.trans ho⟩
/-- set while others wait -/
theorem Rel.setF {i : Nat} {k : TSt → Prop} (rl : Rel K B g t σ H) (rr : ResF K B g H fp r v) (f : Fre B g H fq) (dis : ∀ b ∈ fp, b ∉ fq) (h : stR i r t k) :
    ∃ ow' t', k t' ∧ Rel K B ⟨g.F, ow'⟩ t' (σ.set i (some v)) H ∧ Fre B ⟨g.F, ow'⟩ H fq := by
  have rl1 := rl.addL f
  have rr1 : ResF K (extOf rl f).bs g H fp r v := rr.up sRefl (fun _ _ => rfl) fun b hb => ⟨(rr.free b hb).1, (rr.free b hb).2.1, by rw [(extOf rl f).out (dis b hb)]; exact (rr.free b hb).2.2.1, (rr.free b hb).2.2.2⟩
  obtain ⟨ow', t', m, rl2⟩ := rl1.set rr1.res h
  obtain ⟨rl3, _, f3⟩ := rl2.subL
  exact ⟨ow', t', m, rl3, f3⟩
end
section
variable {B : Base} {X : Cx} {x y z : Str} {a b c : Expr} {wa wb wc : WE} {px py pz pt pos : Pos} {kt k2 : Nat} {pt2 : Pos}
theorem takes_ext {W : TX} (tk : L2N.Takes X (wxOf X.K B W)) (x : Ext B) : L2N.Takes X (wxOf X.K x.bs W) := tk.imp fun c d σ H ⟨nm, hcl, g, t, pay, rl, pr, w⟩ => ⟨nm, hcl, g, t, pay, rl.subL.1, pr, w⟩
theorem ResF.ofExt {K : PySem.W.Frag} {x : Ext B} {g : Gh} {H : Hp} {r : R} {v : V} {fp : List Addr} (q : ResF K x.bs g H fp r v) : ResF K B g H fp r v ∧ ∀ b ∈ fp, b ∉ x.fp :=
  ⟨q.up sRefl (fun _ _ => rfl) fun b hb => ⟨(q.free b hb).1, (q.free b hb).2.1, (x.non (q.free b hb).2.2.1).2, (q.free b hb).2.2.2⟩, fun b hb => (x.non (q.free b hb).2.2.1).1⟩
theorem S_parR2 (i j : Nat) (hN : X.N.Nodup) (ha : ∀ B, PET B X a wa) (hb : ∀ B, PET B X b wb) (hi : X.N[i]? = some x := by rfl) (hj : X.N[j]? = some y := by rfl) (hij : i ≠ j := by decide)
    (hx : X.env.scope.names.lookup x = some .local := by rfl) (hy : X.env.scope.names.lookup y = some .local := by rfl) (hc : X.calm = true := by rfl)
    (hw : swappedStores [.Tuple [.Name x px, .Name y py] kt pt] (.Tuple [a, b] k2 pt2) X.env = pure (some [x, y]) := by rfl)
    (hs : swapsWithSole [.Tuple [.Name x px, .Name y py] kt pt] (.Tuple [a, b] k2 pt2) pos.line X.env = pure false := by rfl)
    (s1 : starEach [a, b] X.env = (false, eval a X.env) :: starEach [b] X.env := by rfl) (s2 : starEach [b] X.env = (false, eval b X.env) :: starEach [] X.env := by rfl) :
    PST B X (.Assign [.Tuple [.Name x px, .Name y py] kt pt] (.Tuple [a, b] k2 pt2) pos) (wParR2 i j wa wb) := fun W tk =>
  PS.imp (ps_par hc hN hi hj hij hx hy (pa_cons (ha B W tk) (pa_cons (PE.ex (f := fun x : Ext B => tOf X.K x.bs (wb W)) fun x => hb x.bs W (takes_ext tk x)) pa_nil s2) s1) hw hs) fun D σ H q => by
  obtain ⟨g, t, P, rl, m, k, _⟩ := q
  refine ⟨g, t, _, rl, m, fun r1 t1 m1 g1 v1 H1 s1 rl1 rr1 => ?_⟩
  obtain ⟨fp, rf⟩ := rr1.fr
  refine ⟨extOf rl1 rf.free, g1, t1, _, rl1.addL rf.free, m1, fun r2 t2 m2 g2 v2 H2 s2 rl2 rr2 => ?_⟩
  obtain ⟨fq, rq⟩ := rr2.fr
  obtain ⟨rq, dis⟩ := rq.ofExt
  obtain ⟨rl3, eH, f3⟩ := rl2.subL
  have rf2 : ResF X.K B g2 H2 fp r1 v1 := rf.up s2 eH f3
  obtain ⟨ow1, t3, m3, rl4, f4⟩ := rl3.setF rf2 rq.free (fun b hb hq => dis b hq hb) m2
  obtain ⟨ow2, t4, m4, rl5⟩ := rl4.set (rq.up (g' := ⟨g2.F, ow1⟩) sRefl (fun _ _ => rfl) f4).res m3
  exact ⟨v1, v2, rfl, k _ m4 ⟨g2.F, ow2⟩ _ H2 (s1.trans s2) rl5⟩
end
end TL
namespace TL
open PySem PySem.Spec PyProof.Rows L2
structure RoomG (k : Nat) (A : Around) : Prop where
  r : Room k A
  g : A.guards = some []
theorem RoomG.mono {j k : Nat} {A : Around} (h : RoomG k A) (l : j ≤ k) : RoomG j A := ⟨h.r.mono l, h.g⟩
theorem RoomG.un {k : Nat} {A : Around} (h : RoomG k A) : A.units + 16 * k + 200 < cLine := h.r.un
theorem RoomG.deeper {k : Nat} {A : Around} (h : RoomG (k + 1) A) (env : Env) : RoomG k (A.deeper env) := ⟨h.r.deeper env, h.g⟩
structure FnG (P : Program) (w : World) (K : PySem.W.Frag) (mg : Str → Option Value) (base : Heap) (CX : CXT) (k : Nat) (f : Addr) (fd : FuncData) (ps : List Str) (sp : Sp) : Prop where
  len : ∀ vs H Q E, sp vs H Q E → vs.length = ps.length
  run : ∀ (A : Around) (outer : List Env) (s : Shared) (H : Hp) (args : Args) (us : List Value) (vs : List V) (Q : VK) (E : XK), RoomG k A → Env0 P w K mg base A outer s H → BindsTo s fd args (ps.zip us) → Vals vs us → sp vs H Q E →
    codeAny (model P w) A (.call (.ref f) args) (CR CX outer P w H s Q E) s
theorem FnG.mono {P : Program} {w : World} {K : PySem.W.Frag} {mg : Str → Option Value} {base : Heap} {CX : CXT} {j k : Nat} {f : Addr} {fd : FuncData} {ps : List Str} {sp : Sp} (F : FnG P w K mg base CX j f fd ps sp) (h : j ≤ k) :
    FnG P w K mg base CX k f fd ps sp := ⟨F.len, fun A outer s H args us vs Q E hr => F.run A outer s H args us vs Q E (hr.mono h)⟩
section
variable {P : Program} {w : World} {K : PySem.W.Frag} {mg : Str → Option Value} {base : Heap}
theorem okG {x qual : Str} {st : Stmt} {f : Addr} {fd : FuncData} {N ps : List Str} {k : Nat} {sp : Sp} (F : Fun K x qual st f fd) (S : FnScope N ps (defScope st)) (len : ∀ vs H Q E, sp vs H Q E → vs.length = ps.length)
    (hbody : ∀ (cdv : Value) (A : Around) (outer : List Env) (s : Shared) (H : Hp) (vs : List V) (Q : VK) (E : XK), RoomG k (A.deeper (envOfC qual (defScope st) s.heap.objs.size f cdv)) → sp vs H Q E →
      ∃ t, PSs (cxOf (L2N.CX P w) P w K mg base N qual (defScope st) f cdv A outer s H E) (defBody st) t ∧ t { nx := fun _ H' => Q .non H', rt := Q } (start N vs) H) : FnG P w K mg base (L2N.CX P w) (k + 1) f fd ps sp := by
  obtain ⟨oc, od, kV, doc, pm, an, cdv, ct, osl, rfl, lk, hcd⟩ := F.ex
  refine ⟨len, fun A outer s H args us vs Q E hr e0 hb r hsp => ?_⟩
  have hin : K.In s.heap := e0.mod.kin.keeps fun b o e => (e0.bs b o e).1
  have hli : s.heap.NoLimit := e0.mod.nolimit.keeps fun b o e => (e0.bs b o e).1
  refine codeAny_call_function hr.r.depth (hin _ _ lk) rfl S.co S.gen rfl (PySem.W.codeRec_of hin hcd) (hb _ _ _ _ ?_)
  refine wpAny_newFunctionEnv_cells S.kind (fun y hy => ?_) fun env he s1 x => ?_
  · rcases S.par y.1 (List.of_mem_zip hy).1 with q | q
    · exact .inl q
    · exact .inr ⟨q, PySem.W.cellsFrom_some _ _ _ (.inl q)⟩
  subst he
  refine ⟨hli.keeps x.toInCall.keep, codeAny_func ?_⟩
  obtain ⟨t, ht, hq⟩ := hbody cdv A outer s H vs Q E (hr.deeper _) hsp
  refine wpAny_mono (ht.run [] s1 (start N vs) H _ (inv_start S hr.r.hd e0 (len _ _ _ _ hsp) r x) hq) (fun fl s' hs => ?_) fun e s' hs => hs
  cases fl with
  | next => obtain ⟨σ', H', J, q⟩ := hs; exact ⟨.non, H', J.os, J.bare, J.base, J.hok, rfl, q⟩
  | ret u => obtain ⟨v, σ', H', J, rv, q⟩ := hs; exact ⟨v, H', J.os, J.bare, J.base, J.hok, rv, q⟩
  | brk => obtain ⟨_, _, _, q⟩ := hs; exact False.elim q
  | cont => obtain ⟨_, _, _, q⟩ := hs; exact False.elim q
theorem fnG {x qual : Str} {st : Stmt} {f : Addr} {fd : FuncData} {N ps : List Str} {k : Nat} {ts : TSpec} {wb : WS} (F : Fun K x qual st f fd) (S : FnScope N ps (defScope st)) (hl : ∀ args PQ PX, ts args PQ PX → args.length = ps.length)
    (hb : ∀ (B : Base) (cdv : Value) (A : Around) (outer : List Env) (s : Shared) (H : Hp) (E : XK), RoomG k (A.deeper (envOfC qual (defScope st) s.heap.objs.size f cdv)) → PSsT B (cxOf (L2N.CX P w) P w K mg base N qual (defScope st) f cdv A outer s H E) (defBody st) wb)
    (hw : ∀ args PQ PX, ts args PQ PX → wb (fnX args PX) (start0 N.length args) (fnD args PQ)) : FnG P w K mg base (L2N.CX P w) (k + 1) f fd ps (toSp K ps.length ts) := by
  have hN : ps.length ≤ N.length := by
    have := congrArg List.length S.pre
    rw [List.length_take] at this
    omega
  refine okG F S (fun vs H Q E h => h.1) (fun cdv A outer s H vs Q E hr h => ?_)
  obtain ⟨hv, F0, args, fp, PQ, PX, sF, ar, hts, hq, hx⟩ := h
  have hlen := hl _ _ _ hts
  have tk : L2N.Takes (cxOf (L2N.CX P w) P w K mg base N qual (defScope st) f cdv A outer s H E) (wxOf K (base0 H F0 args vs fp) (fnX args PX)) := by
    refine (L2N.takes_of rfl rfl rfl rfl).imp fun cls d σ H' z => ?_
    obtain ⟨nm, hcl, g, t, pay, rl, pr, m⟩ := z
    unfold fnX retO at m
    split at m
    · rename_i outs ho
      obtain ⟨fp', po, _⟩ := post_of ar rl ho
      exact hx nm pay outs m cls hcl d g.F H' fp' po pr
    · exact m.elim
  refine ⟨_, hb (base0 H F0 args vs fp) cdv A outer s H E hr (fnX args PX) tk, ?_⟩
  obtain ⟨ow, r0⟩ := rel0 (N := N) sF ar (by omega)
  refine ⟨_, _, _, r0, hw _ _ _ hts, fun t' m g σ H' s1 rl => ?_, fun r t' m g σ v H' s1 rl rr => ?_, fun _ m => m.elim, fun _ m => m.elim⟩
  · have m' : retO args t' (PQ (.v .non)) := m
    unfold retO at m'
    split at m'
    · rename_i outs ho
      obtain ⟨fp', po, _⟩ := post_of ar rl ho
      exact hq _ _ m' _ g.F H' fp' po .non
    · exact m'.elim
  · have m' : retO args t' (PQ r) := m
    unfold retO at m'
    split at m'
    · rename_i outs ho
      obtain ⟨fp', po, hf⟩ := post_of ar rl ho
      exact hq _ _ m' _ g.F H' fp' po (ret_of hf rr)
    · exact m'.elim
end
section
variable {B : Base} {X : Cx} {e : Expr} {es : List Expr} {pos p : Pos} {wa : WAA}
theorem pe_callG {CX : CXT} {k : Nat} {f : Addr} {fd : FuncData} {ps : List Str} {x : Str} {sp : Sp} {t : TA} {E : L2.St → XK} (F : FnG X.prog X.w X.K X.mg X.base CX k f fd ps sp) (hr : RoomG k X.A) (hg : Gl X x) (hm : X.mg x = some (.ref f)) (hk : PySem.W.keepIn X.K (.ref f) = true) (hb : Binds X.K fd ps []) (hx : ∀ σ, PassesAt CX X σ (E σ))
    (ha : PA X (e :: es) t) (hdb : (x == ("__debug__" : Str)) = false := by decide) (he : starEach (e :: es) X.env = (false, eval e X.env) :: starEach es X.env := by rfl) (hpl : (backTo pos (starEach es X.env)).any (·.1) = false := by rfl) :
    PE X (.Call (.Name x p) (e :: es) [] pos) (tCallS sp E t) := by
  refine ⟨fun pins s σ H Q I h => ?_⟩
  refine wpAny_Call_Name_kw (ld_glob I hg hm ?_ hdb)
  refine PySem.W.callWith_K (h₀ := X.base) I.ok.mod.kin hk (thn (ha.run pos pins s σ H _ I h) fun us s1 ⟨vs, H1, I1, r, q⟩ => ⟨I1.kIn, ?_⟩) he hpl
  have b := hb s1 us I1.kIn (by rw [List.append_nil, ← r.length]; exact F.len _ _ _ _ q)
  rw [List.append_nil] at b
  refine wpAny_call (codeAny_mono (F.run X.A X.stack s1 H1 ⟨us, []⟩ us vs Q (E σ) hr I1.env0 b r q) fun z s' hq => ?_)
  match z, hq with
  | .error e, hq => exact hx σ pins H1 s1 e s' I1 hq
  | .ok (.ret u), hq => exact I1.after hq
  | .ok .next, hq => exact False.elim hq
  | .ok .brk, hq => exact False.elim hq
  | .ok .cont, hq => exact False.elim hq
theorem T_callG {ts : TSpec} {k : Nat} {f : Addr} {fd : FuncData} {ps : List Str} {x : Str} (F : FnG X.prog X.w X.K X.mg X.base (L2N.CX X.prog X.w) k f fd ps (toSp X.K ps.length ts)) (hr : RoomG k X.A) (hm : X.mg x = some (.ref f)) (hk : PySem.W.keepIn X.K (.ref f) = true) (hb : Binds X.K fd ps [])
    (hl : ∀ args PQ PX, ts args PQ PX → args.length = ps.length) (ha : PAAT B X (e :: es) wa) (hg : Gl X x := by rfl) (hdb : (x == ("__debug__" : Str)) = false := by rfl) (he : starEach (e :: es) X.env = (false, eval e X.env) :: starEach es X.env := by rfl) (hpl : (backTo pos (starEach es X.env)).any (·.1) = false := by rfl) :
    PET B X (.Call (.Name x p) (e :: es) [] pos) (wCall ts wa) := by
  refine fun W tk => PE.imp (pe_callG F hr hg hm hk hb (fun σ => L2N.passAt tk σ) (ha W tk) hdb he hpl) fun σ H Q q => ?_
  obtain ⟨g, t, P, rl, m, kk⟩ := q
  refine ⟨g, t, _, rl, m, fun as t1 m1 g1 vs H1 s1 rl1 av => ?_⟩
  obtain ⟨nd, args, hres, hts⟩ := m1
  obtain ⟨fp, ar, hf⟩ := args_of rl1 nd hres av
  refine ⟨by rw [ar.len]; exact hl _ _ _ hts, g1.F, args, fp, _, _, rl1.sub, ar, hts, fun r outs hq v F' H' fp' po rr => ?_, fun nm pay outs hx cls hcl d F' H' fp' po pr => ?_⟩
  · obtain ⟨ow', rl2, ho⟩ := rel_post rl1 nd hres av hf ar po
    refine kk _ _ hq ⟨F', ow'⟩ v H' (s1.trans po.up) rl2 ?_
    cases r with
    | v d => exact rr
    | own c =>
      obtain ⟨a, l, rfl, cr, n, hh⟩ := rr
      refine ⟨a, l, rfl, cr, n, fun b hb => ⟨?_, (hh b hb).1, rl1.dom b (hh b hb).2.1⟩⟩
      refine Classical.byContradiction fun z => ?_
      rcases ho b z with w | w
      · exact (hh b hb).2.2 w
      · cases q : g1.ow b with
        | none => exact w q
        | some i =>
          obtain ⟨u, hu⟩ := rl1.there b i q
          rw [(hh b hb).2.1] at hu; cases hu
  · obtain ⟨ow', rl2, _⟩ := rel_post rl1 nd hres av hf ar po
    exact ⟨nm, hcl, ⟨F', ow'⟩, _, pay, rl2, pr, hx⟩
end
structure CalG (P : Program) (w : World) (K : PySem.W.Frag) (mg : Str → Option Value) (base : Heap) (k : Nat) (x : Str) (n : Nat) (ts : TSpec) : Prop where
  ex : ∃ f fd ps, ps.length = n ∧ FnG P w K mg base (L2N.CX P w) k f fd ps (toSp K n ts) ∧ mg x = some (.ref f) ∧ PySem.W.keepIn K (.ref f) = true ∧ Binds K fd ps []
  hl : ∀ args PQ PX, ts args PQ PX → args.length = n
section
variable {B : Base} {X : Cx} {e : Expr} {es : List Expr} {wA : WAA} {pos p : Pos} {P : Program} {w : World} {K : PySem.W.Frag} {mg : Str → Option Value} {base : Heap}
theorem T_calG {k n : Nat} {x : Str} {ts : TSpec} (c : CalG X.prog X.w X.K X.mg X.base k x n ts) (hr : RoomG k X.A) (ha : PAAT B X (e :: es) wA) (hg : Gl X x := by rfl) (hdb : (x == ("__debug__" : Str)) = false := by rfl) (he : starEach (e :: es) X.env = (false, eval e X.env) :: starEach es X.env := by rfl) (hpl : (backTo pos (starEach es X.env)).any (·.1) = false := by rfl) :
    PET B X (.Call (.Name x p) (e :: es) [] pos) (wCall ts wA) := by
  obtain ⟨f, fd, ps, rfl, F, hm, hk, hb⟩ := c.ex
  exact T_callG F hr hm hk hb c.hl ha hg hdb he hpl
theorem CalG.mono {j k n : Nat} {x : Str} {ts : TSpec} (c : CalG P w K mg base j x n ts) (h : j ≤ k) : CalG P w K mg base k x n ts := by
  obtain ⟨f, fd, ps, h1, F, h2⟩ := c.ex
  exact ⟨⟨f, fd, ps, h1, F.mono h, h2⟩, c.hl⟩
theorem calG_of {x : Str} {st : Stmt} {N ps : List Str} {k : Nat} {ts : TSpec} {wb : WS} (Df : Def K mg x st ps) (S : FnScope N ps (defScope st)) (hl : ∀ args PQ PX, ts args PQ PX → args.length = ps.length)
    (hb : ∀ (f : Addr) (B : Base) (cdv : Value) (A : Around) (outer : List Env) (s : Shared) (H : Hp) (E : XK), RoomG k (A.deeper (envOfC x (defScope st) s.heap.objs.size f cdv)) → PSsT B (cxOf (L2N.CX P w) P w K mg base N x (defScope st) f cdv A outer s H E) (defBody st) wb)
    (hw : ∀ args PQ PX, ts args PQ PX → wb (fnX args PX) (start0 N.length args) (fnD args PQ)) : CalG P w K mg base (k + 1) x ps.length ts := by
  obtain ⟨f, fd, F, hm, hbi⟩ := Df.ex
  exact ⟨⟨f, fd, ps, rfl, fnG F S hl (hb f) hw, hm, F.kp, hbi⟩, hl⟩
/-- the law's call, from its def's promise under callerA -/
theorem lawG {mb : Str → Option Value} {CX : CXT} {k : Nat} {fa a : Addr} {fd : FuncData} {x : Str} {sp : Sp} {s₁ : Shared} {vs : List Value} {ns : List Int}
    (KX : K.In s₁.heap) (hns : s₁.heap.Ns mainGlobals mg) (hb : s₁.heap.Ns builtinsNs mb) (hbb : ∀ x : Str, x ≠ "__name__" → mb x = bootBuiltins x) (hlim : s₁.heap.NoLimit) (hg : s₁.gens = #[])
    (ha : s₁.heap.get? a = some { cls := .type "list", data := .seq vs.toArray }) (hi : IntsAre vs ns) (hl : ns.length ≤ sizeLine) (hr : RoomG k callerA)
    (F : ∀ base : Heap, K.In base → base.Ns mainGlobals mg → FnG P w K mg base CX k fa fd [x] sp) (hbind : ∀ (s : Shared) (u : Value), BindsTo s fd ⟨[u], []⟩ [(x, u)])
    (hsp : ∀ H : Hp, SqL K H a (ns.map V.int) → sp [.ref a] H (fun v _ => v = .bl true) fun _ _ _ => False)
    (hCX : ∀ H e s', CX [] H s₁ (fun _ _ _ => False) e s' → False) :
    codeAny (model P w) callerA (.call (.ref fa) ⟨[.ref a], []⟩) (fun r s' => r = .ok (.ret (.bool true)) ∧ OldK s₁.heap s'.heap ∧ s'.os = s₁.os ∧ AllBare s'.gens) s₁ := by
  have rv := vals_ints hi
  -- the abstract heap: the script alone, if it is not one of the fragment's own objects
  let o : HO := .frz { cls := .type "list", data := .seq vs.toArray } (.lst (ns.map V.int))
  let H : Hp := fun b => if b = a ∧ K.lookup a = none then some o else none
  have Hs : ∀ {b u}, H b = some u → b = a ∧ K.lookup a = none ∧ u = o := fun {b u} z => by
    by_cases c : b = a ∧ K.lookup a = none
    · exact ⟨c.1, c.2, (Option.some.inj ((if_pos c).symm.trans z)).symm⟩
    · exact absurd ((if_neg c).symm.trans z) (by simp)
  have hok : HOk P w H s₁.heap := fun b u z => by
    obtain ⟨rfl, _, rfl⟩ := Hs z
    exact ⟨ha, by rw [List.length_map]; exact hl, vs, _, rv, ha⟩
  have hS : SqL K H a (ns.map V.int) := by
    cases hk : K.lookup a with
    | none => exact .inl (.inr ⟨_, if_pos ⟨rfl, hk⟩⟩)
    | some o' =>
      have e := KX a o' hk
      rw [ha] at e
      cases e
      exact .inr ⟨_, vs.toArray, _, hk, rfl, rfl, rfl, by rw [List.size_toArray, hi.length]; exact hl, by simpa using rv⟩
  have hid : ∀ {b : Addr} {m : Str → Option Value}, s₁.heap.Ns b m → (hidT s₁.heap H).Ns b m := fun {b m} ⟨ob, es, ep, e, d, r⟩ => ⟨ob, es, ep, hidT_get e (by
    cases q : H b with
    | none => rfl
    | some u =>
      obtain ⟨rfl, _, _⟩ := Hs q
      rw [ha] at e; cases e
      cases (show Data.seq vs.toArray _ = Data.dict es ep from d)), d, r⟩
  have hin : K.In (hidT s₁.heap H) := fun b ob e => hidT_get (KX b ob e) (by
    cases q : H b with
    | none => rfl
    | some u =>
      obtain ⟨rfl, hk, _⟩ := Hs q
      rw [hk] at e; cases e)
  obtain ⟨mc, c1, c2⟩ := hlim
  have e0 : Env0 P w K mg (hidT s₁.heap H) callerA [] s₁ H :=
    ⟨rfl, ⟨hin, hid hns, ⟨mb, hid hb, hbb⟩, mc, hid c1, c2⟩, fun b ob e => of_hidT e, Nat.le_of_eq (hidT_size _ _), trivial, fun b z => absurd z (by simp [frs]), hok, .of_eq hg⟩
  refine codeAny_mono ((F _ hin (hid hns)).run callerA [] s₁ H ⟨[.ref a], []⟩ [.ref a] [.ref a] _ _ hr e0 (hbind s₁ (.ref a)) (.cons rfl .nil) (hsp H hS)) fun r s' h => ?_
  match r, h with
  | .error e, h => exact (hCX H e s' h).elim
  | .ok .next, h => exact False.elim h
  | .ok .brk, h => exact False.elim h
  | .ok .cont, h => exact False.elim h
  | .ok (.ret u), h =>
    obtain ⟨v, H', os, bare, un, hok', r', q⟩ := h
    obtain rfl : v = .bl true := q
    obtain rfl : u = Value.bool true := r'
    refine ⟨rfl, OldK.of_keep fun b ob e => ?_, os, bare⟩
    cases q : H b with
    | none => exact un.keep b ob e q (by simp [frs]) (by simp)
    | some u =>
      obtain ⟨rfl, hk, rfl⟩ := Hs q
      have z := (hok' b _ (un.frzs b _ _ q)).1
      rw [ha] at e; cases e
      exact z
end
theorem walk_ofG {l : PySem.W.OpenLaw} {n k : Nat} {q : Program} {loose : List Str} {XP : (Str → Option Value) → Heap → Prop} {YP : World → Heap → Prop} {d : DefRec} {K : Params → PySem.W.Frag} {CX : World → CXT} {sp : World → Sp} {x : Str}
    (hn : l.most = some n) (hn2 : n ≤ sizeLine) (hdf : d.params.defaults = []) (hr : RoomG k callerA)
    (hY : ∀ (w : World) (h : Heap), YP w h → (K w.params).In h)
    (F : ∀ (w : World) (mg : Str → Option Value) (fa : Addr) (h : Heap), (K w.params).In h → h.Ns mainGlobals mg → mg d.name = some (.ref fa) →
      ∃ fd : FuncData, (∀ (s : Shared) (u : Value), BindsTo s fd ⟨[u], []⟩ [(x, u)]) ∧
        ∀ base : Heap, (K w.params).In base → base.Ns mainGlobals mg → FnG l.prog w (K w.params) mg base (CX w) k fa fd [x] (sp w))
    (hsp : ∀ (w : World) (H : Hp) (a : Addr) (ns : List Int), ns.length ≤ n → SqL (K w.params) H a (ns.map V.int) → sp w [.ref a] H (fun v _ => v = .bl true) fun _ _ _ => False)
    (hCX : ∀ (w : World) (H : Hp) (s : Shared) (e : Value) (s' : Shared), CX w [] H s (fun _ _ _ => False) e s' → False) :
    PySem.W.WalkO q loose XP YP l.row.toRowW d [] (fun f vs => PySem.call f vs) := by
  refine Att.attach_call hn hdf fun w s₀ s₁ mg mb fa o pm cd doc a vs ns G Y ho hd hcd hmg hobj hints hlen hg => ?_
  have KX := hY w _ Y
  obtain ⟨fd, hb, hF⟩ := F w mg fa _ KX G.T.g hmg
  exact lawG KX G.T.g G.T.b G.T.builtins G.T.nolimit hg hobj hints (Nat.le_trans hlen hn2) hr hF hb (fun H hS => hsp w H a ns hlen hS) fun H e s' => hCX w H s₁ e s'
mutual
theorem D.noDict : ∀ d : D, d.py.hasDict = false
  | .non => rfl
  | .bl _ => rfl
  | .int _ => rfl
  | .str _ => rfl
  | .tup l => by simpa [D.py, PyData.hasDict] using D.noDictL l
  | .lst l => by simpa [D.py, PyData.hasDict] using D.noDictL l
  | .scr l => by simpa [D.py, PyData.hasDict] using D.noDictL l
  | .dct _ _ => rfl
  | .ty _ => rfl
  | .ref _ => rfl
  | .exc _ => rfl
  | .cl _ => rfl
  | .obj _ _ => rfl
theorem D.noDictL : ∀ l : List D, PyData.hasDictAll (D.pyL l) = false
  | [] => rfl
  | d :: l => by simp [D.pyL, PyData.hasDictAll, D.noDict d, D.noDictL l]
end
theorem N_repr {B : Base} {X : Cx} (hg : X.A.guards = some []) (hu : X.A.units + 66 < cLine) : CallT B X (.builtin "repr") nRepr := .mk fun pins s σ H xs us Q g t σ' ds P I rs rl r m k => by
  unfold nRepr at m
  split at m
  · rename_i d
    unfold reprX at m
    split at m
    · rename_i h
      obtain ⟨p1, p2, p3, p4⟩ := h
      obtain ⟨v, rfl, r1⟩ := r.one
      obtain ⟨u, rfl, rv⟩ := vals1 rs
      obtain ⟨as, e⟩ := Dp.reads I _ v u (r1.dp rl.sub p1) rv
      have fin : ∀ (h' : Heap) (u' tk : Tok), (∀ b o, s.heap.get? b = some o → h'.get? b = some o) → ∃ v H', Inv X pins σ H' { s with heap := h', toks := tk } ∧ RelV v (.str d.py.shown u') ∧ Q v H' :=
        fun h' u' tk hk => ⟨.str _, H, I.kept hk, ⟨_, rfl⟩, k _ m g _ H sRefl rl (Rep.str _)⟩
      have nd := D.noDict d
      generalize d.py = y at e p2 p3 p4 fin nd
      have go : ∀ {u : Value} (q : ∃ a, u = .ref a), Reads s.heap u y as → wpAny (model X.prog X.w) X.A (call (.builtin "repr") [u]) (EP X pins σ Q) X.xe s := fun {u} ⟨a, z⟩ e => by
        subst z
        exact repr_of_reads' e p3 (fun z => by rw [nd] at z; cases z) hg (by omega) (fun _ _ z => z) (fun h' u' tk hk => fin h' u' tk hk) p4
      cases e with
      | none => exact PySem.P.repr_of_none (fin _ _ _ fun _ _ z => z)
      | bool b => exact PySem.P.repr_of_bool (fin _ _ _ fun _ _ z => z)
      | int i => exact PySem.P.repr_of_int (of_decide_eq_true p3) (fin _ _ _ fun _ _ z => z)
      | str x => exact PySem.P.repr_of_str (fin _ _ _ fun _ _ z => z) p4
      | list h1 h2 h3 h4 => exact go ⟨_, rfl⟩ (.list h1 h2 h3 h4)
      | tuple h1 h2 h3 h4 => exact go ⟨_, rfl⟩ (.tuple h1 h2 h3 h4)
      | dict h1 h2 h3 h4 h5 => exact go ⟨_, rfl⟩ (.dict h1 h2 h3 h4 h5)
    · exact m.elim
  · exact m.elim
section
variable {B : Base} {X : Cx}
theorem O_mulL : OpT B X (binaryOp .Mult) dMulL := .mk fun pins s σ H x y v u Q g t σ' dx dy P I rx ry rl r1 r2 m k => by
  refine O_mul (B := B) pins s σ H x y v u Q I rx ry ⟨g, t, σ', dx, dy, P, rl, r1, r2, ?_, k⟩
  unfold dMulL mulLX at m
  split at m
  · split at m
    · rename_i h
      exact ⟨h.1, h.2, m⟩
    · exact m.elim
  · exact m.elim
end
end TL
namespace TL
open PySem PySem.Spec PyProof.Rows L2
section
variable {K : PySem.W.Frag} {F : Hp}
end
end TL
namespace TL
open PySem PySem.Spec PyProof.Rows L2
section
variable {X : Cx} {pins : List (Addr × Obj)} {σ : L2.St} {H F : Hp} {s : Shared}
end
end TL
namespace TL
open PySem PySem.Spec PyProof.Rows L2
section
variable {X : Cx} {pins : List (Addr × Obj)} {σ : L2.St} {H : Hp} {sI s' : Shared} {Gr : Heap} {a C : Addr}
theorem ext_ok {P : Program} {w : World} {h : Heap} {oe : Obj} {vs : Array Value} (e : h.get? a = some oe) (z : L2N.Zn (.ref C) none oe) (q : oe.data = .fields vs) : ObjOk P w H h a (ExT C a) :=
  ⟨⟨oe, vs, e, z, q⟩, ⟨oe, e⟩, fun h1 h2 hh k => by
    obtain ⟨o, v, e1, e2, e3⟩ := hh
    exact ⟨o, v, k o e1, e2, e3⟩⟩
theorem landT (I : Inv X pins σ H sI) (nb : ∀ c u, sI.heap.get? c = some u → c ∉ frs X.stack → Gr.get? c = some u) (st : Gr.StaysIn s'.heap) (up : sI.heap.UpToSlots s'.heap) (eo : s'.os = sI.os) (eg : AllBare s'.gens) (gn : Gr.get? a = none) (nf : a ∉ frs X.stack) (na : H a = none)
    {oe : Obj} {vs : Array Value} (ea : s'.heap.get? a = some oe) (z : L2N.Zn (.ref C) none oe) (q : oe.data = .fields vs) : Inv X pins σ (upd H a (ExT C a)) s' := by
  have slots : ∀ c ∈ frs X.stack, ∀ u, sI.heap.get? c = some u → ∃ sl, s'.heap.get? c = some { u with slots := sl } := fun c hc u hu => by
    obtain ⟨_, u', hu', hd⟩ := I.stack.mem hc
    cases hu.symm.trans hu'
    exact up c u hu hd
  have un : Un (frs X.stack) [] H (upd H a (ExT C a)) sI.heap s'.heap := {
    keep := fun c u hu _ hc _ => st c u (nb c u hu hc)
    slot := fun c u hu _ hc _ => slots c hc u hu
    free := fun c u hu hn _ => by
      have ne : c ≠ a := by
        rintro rfl
        cases gn.symm.trans (nb c u hu nf)
      rw [upd_ne ne]; exact hn
    there := fun c u hu _ => by
      by_cases hc : c ∈ frs X.stack
      · obtain ⟨sl, hh⟩ := slots c hc u hu; exact ⟨_, hh⟩
      · exact ⟨u, st c u (nb c u hu hc)⟩
    tups := fun c xs hu => by rw [upd_ne (ne_of_none hu na)]; exact hu
    frzs := fun c o u hu => by rw [upd_ne (ne_of_none hu na)]; exact hu
    tbls := fun c ps hu => ⟨#[], by rw [upd_ne (ne_of_none hu na), hu]; simp⟩ }
  exact I.call' eo un (((I.inGround nb).kept st).laidN (fun _ _ k => k) na (ext_ok ea z q)) eg fun _ hm => nomatch hm
theorem inSuite (I : Inv X pins σ H sI) (a : Addr) : Inv (X.suite a (X.pn ++ pins)) [] σ H sI :=
  ⟨I.ok.suite _ _, I.os, I.bare, I.base, I.loc, I.cell, I.free, I.freeC, fun p hp => I.pin p (by rw [List.append_nil] at hp; exact hp), I.hok, I.len⟩
theorem outSuite (ok : X.Ok) (I : Inv (X.suite a (X.pn ++ pins)) [] σ H sI) : Inv X pins σ H sI :=
  ⟨ok, I.os, I.bare, I.base, I.loc, I.cell, I.free, I.freeC, fun p hp => I.pin p (List.mem_append_left _ hp), I.hok, I.len⟩
end
/-- what 'except x as n' wishes: every exception of the body is one of these, and is tracked from there on -/
def wKept (K : PySem.W.Frag) (c : Value) (i : Nat) (ts : Addr → TS) (D : Ends) : WX := fun cls d σ H =>
  PySem.W.exmOne K cls c = some true ∧ ∃ C, cls = .ref C ∧ d = none ∧ ∀ a, H a = none →
    ts a { nx := fun σ' H' => D.nx (σ'.set i none) H', rt := D.rt, bk := fun σ' H' => D.bk (σ'.set i none) H', ct := fun σ' H' => D.ct (σ'.set i none) H' } (σ.set i (some (.ref a))) (upd H a (ExT C a))
section
variable {X : Cx} {x n : Str} {c : Value} {i : Nat} {body suite : List Stmt} {b₀ : Stmt} {np pos pos' : Pos} {tb : WX → TS} {ts : Addr → TS}
theorem ps_tryK (hs : X.stack = X.env :: X.outer) (hf : X.env.frame = some X.env.locals) (hN : X.N.Nodup) (hi : X.N[i]? = some n) (hl : X.env.kindOf n = some .local) (hc : Names X x c)
    (hb : ∀ (W : WX) (pn : List (Addr × Obj)) (xe : Value → Shared → Prop), L2N.Takes (X.tr pn xe) W → PassesOwn (model X.prog X.w) X.A X.env xe → PSs (X.tr pn xe) body (tb W))
    (hu : ∀ (a : Addr) (pn : List (Addr × Obj)), PSs (X.suite a pn) (b₀ :: suite) (ts a)) :
    PS X (.Try body [.ExceptHandler (some (.Name x np)) (some n) (b₀ :: suite) pos'] [] [] pos) (fun D σ H => tb (wKept X.K c i ts D) D σ H) := by
  refine ⟨fun pins s σ H D I h => wpAny_Try_except ?_⟩
  have ok := I.ok
  have hfr := ok.frames.trans (congrArg some hs)
  refine wpAny_mono ((hb (wKept X.K c i ts D) (X.pn ++ pins) (fun e s₁ => wpAny (model X.prog X.w) X.A (noteFrame e X.env) (fun _ s₂ => wpAny (model X.prog X.w) X.A (setFlight e none) (fun _ s₃ => wpAny (model X.prog X.w) X.A (handleBy e X.env [.ExceptHandler (some (.Name x np)) (some n) (b₀ :: suite) pos']) (SP X pins D) X.xe s₃) X.xe s₂) X.xe s₁) (fun u s1 xx => ?_) PassesOwn.looking).run [] s σ H D (I.toTry _) h) (fun f s1 hsp => ?_) fun _ _ he => he
  · obtain ⟨a, Gr, sI, pins2, σ2, H2, cls, d, rfl, J0, nb, up, sky, na, eo, eg, hx, C, rfl, rfl, hgo⟩ := xx
    have J := J0.ofTry ok
    rw [show (X.tr (X.pn ++ pins) _).stack = X.stack from rfl, hs] at sky
    show wpAny (model X.prog X.w) X.A (noteFrame (.ref a) X.env) _ _ _
    refine L2N.Sky.land L2N.Zn.steady hfr hf sky fun h3 fl3 up3 => ?_
    have J3 : Inv X pins σ2 H2 { s1 with heap := h3 } := J.landed nb fl3.1 (up.trans up3) eo eg
    obtain ⟨o3, v3, e3, z3, d3⟩ := fl3.there
    have nfr : a ∉ frs (X.env :: X.outer) := fun hm => by
      obtain ⟨_, o', e', k⟩ := fl3.2.2.1.mem hm
      cases e3.symm.trans e'
      exact k _ d3
    have nL : a ≠ X.env.locals := fun q => nfr (List.mem_filterMap.mpr ⟨X.env, List.mem_cons_self, hf.trans (congrArg some q.symm)⟩)
    have nF : a ∉ X.fs := fun hm => by
      obtain ⟨e, he, q⟩ := List.mem_filterMap.mp hm
      exact nfr (List.mem_filterMap.mpr ⟨e, List.mem_cons_of_mem _ he, q⟩)
    have S3 := J3.suite e3 d3 na nL nF
    refine wpAny_handleBy_cons (codeAny_handlers_test ?_) nofun
    have LT : PySem.W.Looks (model X.prog X.w) h3 (typeOf (.ref a)) (.ref C) := fun A Q E s k q => wpAny_typeOf_ref (k _ _ e3) (by rw [z3.1]; exact q)
    have LM := PySem.W.exm_one (M := model X.prog X.w) J3.kIn LT hx
    have test : ∀ {Q : Value → Shared → Prop} {E : Value → Shared → Prop}, Q c { s1 with heap := h3 } → wpAny (model X.prog X.w) (X.A.mark (some (.ref a))) (eval (.Name x np) X.env) Q E { s1 with heap := h3 } := by
      intro Q E q
      obtain ⟨hg, hd, hm | ⟨hm, hv, hn⟩⟩ := hc
      · exact ld_glob (X := X.suite a ((a, o3) :: (X.pn ++ pins))) S3 hg hm q hd
      · exact ld_blt (X := X.suite a ((a, o3) :: (X.pn ++ pins))) S3 hg hm hv q hn hd
    refine test (LM.here ?_)
    show codeAny _ _ _ _ _
    refine codeAny_handlers_suite_as (HandSPX.lands_againZ fl3 fun h4 fl4 up4 => ?_)
    obtain ⟨o4, v4, e4, z4, d4⟩ := fl4.there
    have J4 : Inv X pins σ2 (upd H2 a (ExT C a)) { s1 with heap := h4 } := landT J nb fl4.1 ((up.trans up3).trans up4) eo eg fl4.2.1 (by rw [hs]; exact nfr) na e4 z4 d4
    refine store_ok (X := X.suite a (X.pn ++ pins)) (v := .ref a) (inSuite J4 a) hN hi (.inl hl) rfl (fun s5 S5 => ?_) (.inr hl)
    refine wpAny_mono ((hu a (X.pn ++ pins)).run [] s5 _ _ _ S5 (hgo a na)) (fun f s6 hsp => ?_) fun _ _ z => z.elim
    have fin : ∀ {σ6 : L2.St} {H6 : Hp} {Q : Shared → Prop}, Inv (X.suite a (X.pn ++ pins)) [] σ6 H6 s6 → (∀ s7, Inv X pins (σ6.set i none) H6 s7 → Q s7) → wpAny (model X.prog X.w) X.A (do bindName X.env n .none; unbindBehindTheSuite X.env n pos') (fun _ s7 => Q s7) X.xe s6 :=
      fun S6 hq => gone_ok (outSuite ok S6) hN hi hl hq
    cases f with
    | next => obtain ⟨σ6, H6, S6, q6⟩ := hsp; exact fin S6 fun s7 J7 => ⟨_, _, J7, q6⟩
    | brk => obtain ⟨σ6, H6, S6, q6⟩ := hsp; exact fin S6 fun s7 J7 => ⟨_, _, J7, q6⟩
    | cont => obtain ⟨σ6, H6, S6, q6⟩ := hsp; exact fin S6 fun s7 J7 => ⟨_, _, J7, q6⟩
    | ret u => obtain ⟨v6, σ6, H6, S6, r6, q6⟩ := hsp; exact fin S6 fun s7 J7 => ⟨_, _, _, J7, r6, q6⟩
  · cases f with
    | next => obtain ⟨σ2, H2, J, q⟩ := hsp; exact wpAny_execs_nil ⟨σ2, H2, J.ofTry ok, q⟩
    | brk => obtain ⟨σ2, H2, J, q⟩ := hsp; exact ⟨σ2, H2, J.ofTry ok, q⟩
    | cont => obtain ⟨σ2, H2, J, q⟩ := hsp; exact ⟨σ2, H2, J.ofTry ok, q⟩
    | ret u => obtain ⟨v, σ2, H2, J, r, q⟩ := hsp; exact ⟨v, σ2, H2, J.ofTry ok, r, q⟩
end
end TL
namespace TL
open PySem PySem.Spec PyProof.Rows L2
/-- what the text's top says of the exception class n -/
def ClsF (K : PySem.W.Frag) (mg : Str → Option Value) (n : String) : Prop := ∃ C, mg (Str.ofString n) = some (.ref C) ∧ ClsAt K n C
structure RaiseF (K : PySem.W.Frag) (mg : Str → Option Value) (n : String) : Prop where
  ex : ∃ C, mg (Str.ofString n) = some (.ref C) ∧ ClsAt K n C ∧ PySem.W.excIn K C [.type "ValueError", .type "Exception", .type "BaseException", .type "object"] "ValueError.__new__" = true ∧ PySem.W.keepIn K (.ref C) = true ∧
    PySem.W.subIn K (.ref C) (.type "BaseException") = some true ∧ PySem.W.typeIn K (.ref C) = some (.type "type")
section
variable {B : Base} {X : Cx} {e : Expr} {w : WE} {pos p p2 : Pos} {n : String}
theorem T_noX (h : PET B X e w) : PET B X e (wNoX w) := fun W _ => h noX takes_noX
theorem T_cls (hc : ClsF X.K X.mg n) (hg : Gl X (Str.ofString n) := by rfl) (hd : ((Str.ofString n) == ("__debug__" : Str)) = false := by rfl) : PET B X (.Name (Str.ofString n) pos) (wC (.cl n)) := by
  obtain ⟨C, h1, h2⟩ := hc
  exact T_glob (v := .ref C) hg h1 rfl (fun _ => .cl h2) hd
theorem S_raise {m : Str} {j : Nat} {pos' : Pos} (hr : RaiseF X.K X.mg n) (hc : X.calm = true := by rfl) (hg : Gl X (Str.ofString n) := by rfl) (hd : ((Str.ofString n) == ("__debug__" : Str)) = false := by rfl) :
    PST B X (.Raise (some (.Call (.Name (Str.ofString n) p) [.Constant (.str m) j p2] [] pos)) none pos') (wRaise n) := by
  obtain ⟨C, h1, h2, h3, h4, h5, h6⟩ := hr.ex
  refine fun W tk => PS.imp (L2N.ps_raise hc tk (L2N.pmk_own PySem.F.excBase_ValueError h3 h1 h4 (raises_own h5 h6) hg hd)) fun D σ H h => ?_
  obtain ⟨g, t, P, rl, mm, _⟩ := h
  exact ⟨n, ⟨C, rfl, h2⟩, g, t, none, rl, .no, mm⟩
end
theorem Rel.toB {K : PySem.W.Frag} {B : Base} {g : Gh} {t : TSt} {σ : L2.St} {H : Hp} (r : Rel K B g t σ H) : Rel K { B with F := g.F } g t σ H :=
  ⟨sRefl, r.sub, r.ff, fun a o e n => ⟨(r.old a o e n).1, (r.old a o e n).2.1, fun z => z⟩, r.ft, r.dm, r.there, r.len, fun i s e => by
    have := r.slot i s e
    cases s <;> exact this⟩
theorem Rel.ofB {K : PySem.W.Frag} {B : Base} {g g' : Gh} {t t' : TSt} {σ σ' : L2.St} {H H' : Hp} (r : Rel K B g t σ H) (r' : Rel K { B with F := g.F } g' t' σ' H') : Rel K B g' t' σ' H' :=
  ⟨r.base.trans r'.base, r'.sub, r'.ff, fun a o e n => ⟨(r'.old a o e n).1, (r'.old a o e n).2.1, fun z => (r'.old a o e n).2.2 ((r.old a o e n).2.2 z)⟩, r'.ft, r'.dm, r'.there, r'.len, fun i s e => by
    have := r'.slot i s e
    cases s <;> exact this⟩
theorem ResRel.ofB {K : PySem.W.Frag} {B : Base} {g g' : Gh} {H : Hp} {r : R} {v : V} (h : ResRel K { B with F := g.F } g' H r v) : ResRel K B g' H r v := by
  cases r <;> exact h
theorem Rel.ofB2 {K : PySem.W.Frag} {B : Base} {F2 : Hp} {g' : Gh} {t' : TSt} {σ' : L2.St} {H' : Hp} (hs : Same B.F F2) (hF : ∀ a o, B.H a = some o → a ∉ B.foot → B.F a = none → F2 a = none) (r' : Rel K { B with F := F2 } g' t' σ' H') : Rel K B g' t' σ' H' :=
  ⟨hs.trans r'.base, r'.sub, r'.ff, fun a o e n => ⟨(r'.old a o e n).1, (r'.old a o e n).2.1, fun z => (r'.old a o e n).2.2 (hF a o e n z)⟩, r'.ft, r'.dm, r'.there, r'.len, fun i s e => by
    have := r'.slot i s e
    cases s <;> exact this⟩
theorem ResRel.ofB2 {K : PySem.W.Frag} {B : Base} {F2 : Hp} {g' : Gh} {H : Hp} {r : R} {v : V} (h : ResRel K { B with F := F2 } g' H r v) : ResRel K B g' H r v := by
  cases r <;> exact h
/-- the exception that is handled is tracked -/
def HotB (B : Base) (X : Cx) : Prop := ∃ a C, X.A.handled = some (.ref a) ∧ B.F a = some (ExT C a)
section
variable {B : Base} {X : Cx} {x nm : Str} {c : Value} {body suite : List Stmt} {b₀ : Stmt} {np pos pos' : Pos} {u v : WS}
theorem S_tryAs (i : Nat) (ns : List String) (hN : X.N.Nodup) (hx : ∀ n, ns.contains n = true → ∀ C, ClsAt X.K n C → PySem.W.exmOne X.K (.ref C) c = some true) (hm : X.mg x = some c)
    (hb : ∀ B pn xe, PassesOwn (model X.prog X.w) X.A X.env xe → PSsT B (X.tr pn xe) body u) (hu : ∀ B a pn, HotB B (X.suite a pn) → PSsT B (X.suite a pn) (b₀ :: suite) v)
    (hg : Gl X x := by rfl) (hd : (x == ("__debug__" : Str)) = false := by rfl) (hs : X.stack = X.env :: X.outer := by rfl) (hf : X.env.frame = some X.env.locals := by rfl) (hi : X.N[i]? = some nm := by rfl) (hl : X.env.kindOf nm = some .local := by rfl) :
    PST B X (.Try body [.ExceptHandler (some (.Name x np)) (some nm) (b₀ :: suite) pos'] [] [] pos) (wTryAs i ns u v) := by
  refine fun W tk => PS.imp (ps_tryK (tb := fun Wx D σ H => ∃ B' W', (∀ cls d σ H, wxOf X.K B' W' cls d σ H → Wx cls d σ H) ∧ sOf X.K B' (u W') D σ H) (ts := fun a D σ H => ∃ B', HotB B' (X.suite a []) ∧ sOf X.K B' (v noX) D σ H) hs hf hN hi hl ⟨hg, hd, .inl hm⟩ (fun Wx pn xe tx po => ⟨?_⟩) (fun a pn => ⟨?_⟩)) fun D σ H h => ?_
  · intro pins s σ H D I q
    obtain ⟨B', W', im, q⟩ := q
    exact (hb B' pn xe po W' (tx.imp im)).run pins s σ H D I q
  · intro pins s σ H D I q
    obtain ⟨B', hot, q⟩ := q
    exact (hu B' a pn hot noX takes_noX).run pins s σ H D I q
  · obtain ⟨g, t, P, rl, m, k1, k2, k3, k4⟩ := h
    have m' : u (fun n pay t1 => catchK i ns v n pay t1 P) t P := m
    refine ⟨{ B with F := g.F }, _, fun cls d σ1 H1 hw => ?_, g, t, P, rl.toB, m', fun t' m1 g' σ' H' s1 rl1 => k1 t' m1 g' σ' H' s1 (rl.ofB rl1), fun r t' m1 g' σ' v' H' s1 rl1 rr1 => k2 r t' m1 g' σ' v' H' s1 (rl.ofB rl1) rr1.ofB, fun t' m1 g' σ' H' s1 rl1 => k3 t' m1 g' σ' H' s1 (rl.ofB rl1), fun t' m1 g' σ' H' s1 rl1 => k4 t' m1 g' σ' H' s1 (rl.ofB rl1)⟩
    obtain ⟨n, ⟨C, rfl, hC⟩, g1, t1, pay, rl1, pr, hmem, rfl, hst⟩ := hw
    have hd : d = none := by cases pr; rfl
    refine ⟨hx n hmem C hC, C, rfl, hd, fun a na => ?_⟩
    obtain ⟨sF, rl2⟩ := rl1.newF (o := ExT C a) na
    obtain ⟨ow', t2, hv, rl3⟩ := Rel.set (i := i) (r := .v (.exc n)) (x := .ref a) rl2 (show Rep X.K (upd g1.F a (ExT C a)) (.exc n) (.ref a) from .exc hC upd_same) hst
    have up : Same g.F (upd g1.F a (ExT C a)) := (show Same g.F g1.F from rl1.base).trans sF
    have sB : Same B.F (upd g1.F a (ExT C a)) := rl.base.trans up
    have nB : B.H a = none := rl1.dom a na
    have hF : ∀ a' o, B.H a' = some o → a' ∉ B.foot → B.F a' = none → upd g1.F a (ExT C a) a' = none := fun a' o e n z => by
      have ne : a' ≠ a := by rintro rfl; rw [nB] at e; cases e
      rw [upd_ne ne]
      exact (rl1.old a' o e n).2.2 ((rl.old a' o e n).2.2 z)
    refine ⟨{ B with F := upd g1.F a (ExT C a) }, ⟨a, C, rfl, upd_same⟩, ⟨upd g1.F a (ExT C a), ow'⟩, t2, _, rl3.toB, hv, fun t3 m3 g3 σ3 H3 s3 rl4 => ?_, fun r t3 m3 g3 σ3 v3 H3 s3 rl4 rr => ?_, fun t3 m3 g3 σ3 H3 s3 rl4 => ?_, fun t3 m3 g3 σ3 H3 s3 rl4 => ?_⟩
    · exact k1 _ m3 g3 _ H3 (up.trans s3) (.ofB2 sB hF rl4.setUn)
    · exact k2 _ _ m3 g3 _ v3 H3 (up.trans s3) (.ofB2 sB hF rl4) rr.ofB2
    · exact k3 _ m3 g3 _ H3 (up.trans s3) (.ofB2 sB hF rl4.setUn)
    · exact k4 _ m3 g3 _ H3 (up.trans s3) (.ofB2 sB hF rl4.setUn)
end
/-- of each class that may be caught: how it is asked; of these and each that is asked for: the answer -/
structure XTab (K : PySem.W.Frag) (ns ms : List String) : Prop where
  c : ∀ n, ns.contains n = true → ∃ C, ClsAt K n C ∧ ExcC K C ∧ PySem.W.kitOne K (.ref C) (.type "ValueError") = some true ∧ ∀ m, ms.contains m = true → ∃ M, ClsAt K m M ∧ PySem.W.kitOne K (.ref C) (.ref M) = some (subB n m)
theorem ClsAt.eq {K : PySem.W.Frag} {n : String} {C M : Addr} (h : ClsAt K n C) (h' : ClsAt K n M) : C = M := by
  have := h.symm.trans h'
  simpa using this
section
variable {B : Base} {X : Cx} {ns ms : List String}
theorem kit_one (T : XTab X.K ns ms) {n : String} {F : Hp} {C : Addr} (hC : ClsAt X.K n C) {c : D} {v : V} {b : Bool} (r : Rep X.K F c v) (h : isE1 ns ms n c = some b) : ∃ u, ClsV v u ∧ PySem.W.kitOne X.K (.ref C) u = some b := by
  unfold isE1 at h
  split at h
  · split at h
    · rename_i m hh
      rw [Bool.and_eq_true] at hh
      obtain ⟨C', c1, c2, c3, c4⟩ := T.c n hh.1
      cases hC.eq c1
      obtain ⟨M, m1, m2⟩ := c4 m hh.2
      cases h
      cases r with
      | cl hM => cases hM.eq m1; exact ⟨_, .own _, m2⟩
    · cases h
  · split at h
    · rename_i m hh
      rw [Bool.and_eq_true] at hh
      obtain ⟨C', c1, c2, c3, c4⟩ := T.c n hh.1
      cases hC.eq c1
      have em : m = "ValueError" := by simpa using hh.2
      subst em
      cases h
      cases r with
      | ty _ => exact ⟨_, .ty _, c3⟩
    · cases h
  · cases h
theorem kit_any (T : XTab X.K ns ms) {n : String} {F : Hp} {C : Addr} (hC : ClsAt X.K n C) : ∀ {cs : List D} {vs : List V} {b : Bool}, Reps X.K F cs vs → isEs ns ms n cs = some b → ∃ us, Paired ClsV vs us ∧ PySem.W.kitAny X.K (.ref C) us = some b
  | _, _, _, .nil, h => by cases h; exact ⟨[], .nil, rfl⟩
  | c :: cs, _, b, .cons r rs, h => by
    obtain ⟨b1, h1, h⟩ := Option.bind_eq_some_iff.mp (show (isE1 ns ms n c).bind _ = some b from h)
    obtain ⟨b2, h2, h⟩ := Option.bind_eq_some_iff.mp h
    cases h
    obtain ⟨u, k1, k2⟩ := kit_one T hC r h1
    obtain ⟨us, k3, k4⟩ := kit_any T hC rs h2
    refine ⟨u :: us, .cons k1 k3, kitAny_cons k2 (fun e => ?_) fun e => ?_⟩
    · rw [k4, e]; rfl
    · rw [e]; rfl
theorem isE_has {n : String} {c : D} {b : Bool} (h : isE1 ns ms n c = some b) : ns.contains n = true := by
  unfold isE1 at h
  split at h
  · split at h
    · rename_i hh; rw [Bool.and_eq_true] at hh; exact hh.1
    · cases h
  · split at h
    · rename_i hh; rw [Bool.and_eq_true] at hh; exact hh.1
    · cases h
  · cases h
theorem N_isE (T : XTab X.K ns ms) : CallT B X (.builtin "isinstance") (nIsE ns ms) := .mk fun pins s σ H xs us Q g t σ' ds P I rs rl r m k => by
  unfold nIsE at m
  split at m
  · rename_i d c
    obtain ⟨b, hb, mp⟩ := oP_get m
    obtain ⟨v, u, rfl, r1, r2⟩ := r.two
    obtain ⟨u1, u2, rfl, q1, q2⟩ := vals2 rs
    unfold isEX at hb
    split at hb
    · rename_i n
      have hx : ∃ a C, v = .ref a ∧ ClsAt X.K n C ∧ g.F a = some (ExT C a) := by
        cases r1 with
        | rep r1 => cases r1 with
          | exc hC ha => exact ⟨_, _, rfl, hC, ha⟩
      obtain ⟨a, C, rfl, hC, ha⟩ := hx
      cases (show u1 = Value.ref a from q1)
      have inst : (∃ c', ns.contains n = true ∧ c' = c) → ∃ oe, PySem.W.InstAt s.heap a oe C none ∧ ExcC X.K C := by
        rintro ⟨_, hn, _⟩
        obtain ⟨C', c1, c2, _, _⟩ := T.c n hn
        cases hC.eq c1
        obtain ⟨⟨oe, vs, e1, z, e3⟩, _, _⟩ := I.hok a _ (rl.sub _ _ ha)
        obtain ⟨oc, od, oda, osl⟩ := oe
        obtain ⟨z1, z2, _⟩ := z
        simp only at z1 z2 e3
        subst z1 z2 e3
        exact ⟨_, ⟨e1, rfl, rfl, trivial⟩, c2⟩
      have last : ∀ tk, EP X pins σ Q (.bool b) { s with toks := tk } := fun tk => ⟨.bl b, H, I.kept (t' := tk) fun _ _ z => z, rfl, k _ mp g _ H sRefl rl (Rep.bl _)⟩
      split at hb
      · rename_i cs
        cases cs with
        | nil => cases hb
        | cons c0 cs =>
          have hb : isEs ns ms n (c0 :: cs) = some b := hb
          obtain ⟨b1, h1, _⟩ := Option.bind_eq_some_iff.mp (show (isE1 ns ms n c0).bind _ = some b from hb)
          obtain ⟨oe, J, EC⟩ := inst ⟨_, isE_has h1, rfl⟩
          cases r2 with
          | rep r2 => cases r2 with
            | @tup tp _ ws hT rT =>
              cases (show u2 = Value.ref tp from q2)
              obtain ⟨us, k1, k2⟩ := kit_any T hC rT hb
              obtain ⟨_, its, rv, o, o1, o2, nn, o3⟩ := (show ObjOk X.prog X.w H s.heap tp (.tup ws) from I.hok tp _ (rl.sub _ _ hT))
              cases ClsV.all k1 rv
              obtain ⟨oc, od, dt, sl⟩ := o
              simp only at o2 o3
              subst o2 o3
              exact PySem.W.kia_tup (PySem.W.handS_kitx_exc EC.hg EC.hk EC.hs EC.hd EC.ha EC.hn EC.ht EC.hm) I.kIn J o1 k2 (fun z => nomatch z) last
      · rename_i hnt
        obtain ⟨oe, J, EC⟩ := inst ⟨_, isE_has hb, rfl⟩
        have r2 : Rep X.K g.F c u := by
          cases r2 with
          | rep r2 => exact r2
          | _ => unfold isE1 at hb; cases hb
        obtain ⟨w, k1, k2⟩ := kit_one T hC r2 hb
        cases k1.eq q2
        exact PySem.W.kia_one (PySem.W.handS_kitx_exc EC.hg EC.hk EC.hs EC.hd EC.ha EC.hn EC.ht EC.hm) I.kIn J k2 (fun z => nomatch z) last
    · cases hb
  · exact m.elim
end
end TL
namespace TL
open PySem PySem.Spec PyProof.Rows L2
structure RoomW (k : Nat) (A : Around) : Prop where
  dp : A.depth + 3 * k + 5 < recursionLimit
  un : A.units + 16 * k + 200 < cLine
theorem RoomW.mono {j k : Nat} {A : Around} (r : RoomW k A) (h : j ≤ k) : RoomW j A := ⟨by have := r.dp; omega, by have := r.un; omega⟩
theorem RoomW.of {k : Nat} {A : Around} (r : RoomG k A) : RoomW k A := ⟨r.r.dp, r.r.un⟩
theorem RoomW.mark {k : Nat} {A : Around} {v : Option Value} (r : RoomW k A) : RoomW k (A.mark v) := ⟨r.dp, r.un⟩
theorem RoomW.down {k : Nat} {A : Around} (r : RoomW (k + 1) A) (env : Env) : RoomW k (A.deeper env) :=
  ⟨by have := r.dp; show A.depth + 1 + 3 * k + 5 < _; omega, by have := r.un; show A.units + 3 + 16 * k + 200 < _; omega⟩
structure FnW (P : Program) (w : World) (K : PySem.W.Frag) (mg : Str → Option Value) (base : Heap) (CX : CXT) (k : Nat) (f : Addr) (fd : FuncData) (ps : List Str) (sp : Sp) : Prop where
  len : ∀ vs H Q E, sp vs H Q E → vs.length = ps.length
  run : ∀ (A : Around) (outer : List Env) (s : Shared) (H : Hp) (args : Args) (us : List Value) (vs : List V) (Q : VK) (E : XK), RoomW k A → Env0 P w K mg base A outer s H → BindsTo s fd args (ps.zip us) → Vals vs us → sp vs H Q E →
    codeAny (model P w) A (.call (.ref f) args) (CR CX outer P w H s Q E) s
section
variable {P : Program} {w : World} {K : PySem.W.Frag} {mg : Str → Option Value} {base : Heap}
end
section
variable {B : Base} {X : Cx} {e : Expr} {es : List Expr} {pos p : Pos} {wa : WAA}
end
structure CalW (P : Program) (w : World) (K : PySem.W.Frag) (mg : Str → Option Value) (base : Heap) (k : Nat) (x : Str) (n : Nat) (ts : TSpec) : Prop where
  ex : ∃ f fd ps, ps.length = n ∧ FnW P w K mg base (L2N.CX P w) k f fd ps (toSp K n ts) ∧ mg x = some (.ref f) ∧ PySem.W.keepIn K (.ref f) = true ∧ Binds K fd ps []
  hl : ∀ args PQ PX, ts args PQ PX → args.length = n
section
variable {B : Base} {X : Cx} {e : Expr} {es : List Expr} {wA : WAA} {pos p : Pos} {P : Program} {w : World} {K : PySem.W.Frag} {mg : Str → Option Value} {base : Heap}
end
section
variable {B : Base} {X : Cx} {e : Expr} {we : WE} {pos pos' apos cpos : Pos} {x name : Str} {id : String}
end
section
variable {B : Base} {X : Cx}
end
end TL
namespace TL
open PySem PySem.Spec PyProof.Rows L2
/-- an except clause that names E takes each of these -/
def TryF (K : PySem.W.Frag) (mg : Str → Option Value) (ns : List String) (E : String) : Prop := ∃ c, mg (Str.ofString E) = some c ∧ ∀ n, ns.contains n = true → ∀ C, ClsAt K n C → PySem.W.exmOne K (.ref C) c = some true
section
variable {B : Base} {X : Cx} {E : String} {nm : Str} {body suite : List Stmt} {b₀ : Stmt} {np pos pos' : Pos} {u v : WS}
theorem S_tryE (i : Nat) (ns : List String) (hN : X.N.Nodup) (tf : TryF X.K X.mg ns E)
    (hb : ∀ B pn xe, PassesOwn (model X.prog X.w) X.A X.env xe → PSsT B (X.tr pn xe) body u) (hu : ∀ B a pn, HotB B (X.suite a pn) → PSsT B (X.suite a pn) (b₀ :: suite) v)
    (hg : Gl X (Str.ofString E) := by rfl) (hd : ((Str.ofString E) == ("__debug__" : Str)) = false := by rfl) (hs : X.stack = X.env :: X.outer := by rfl) (hf : X.env.frame = some X.env.locals := by rfl) (hi : X.N[i]? = some nm := by rfl) (hl : X.env.kindOf nm = some .local := by rfl) :
    PST B X (.Try body [.ExceptHandler (some (.Name (Str.ofString E) np)) (some nm) (b₀ :: suite) pos'] [] [] pos) (wTryAs i ns u v) := by
  obtain ⟨c, hm, hx⟩ := tf
  exact S_tryAs i ns hN hx hm hb hu hg hd hs hf hi hl
end
theorem kit_ref {K : PySem.W.Frag} {D M : Addr} {b : Bool} (hs : PySem.W.subIn K (.ref D) (.ref M) = some b) (hd : PySem.W.subIn K (.ref D) (.ref D) = some true) (hc : PySem.W.hasDictIn K M = true) (ht : PySem.W.typeIn K (.ref M) = some (.type "type")) : PySem.W.kitOne K (.ref D) (.ref M) = some b := by
  obtain ⟨cd, h1, _⟩ := PySem.W.any_some hc
  have e : ((PySem.W.clsIn K M).isSome && PySem.W.typeIn K (.ref M) == some (.type "type")) = true := by rw [h1, ht]; rfl
  unfold PySem.W.kitOne
  by_cases z : (Value.ref D == Value.ref M) = true
  · rw [if_pos z]
    have : D = M := Value.ref.inj (beq_iff_eq.mp z)
    subst this
    rw [← hs, hd]
  · rw [if_neg z]
    show (if ((PySem.W.clsIn K M).isSome && PySem.W.typeIn K (.ref M) == some (.type "type")) = true then PySem.W.subIn K (.ref D) (.ref M) else none) = some b
    rw [if_pos e, hs]
theorem kit_val {K : PySem.W.Frag} {D : Addr} (hs : PySem.W.subIn K (.ref D) (.type "ValueError") = some true) : PySem.W.kitOne K (.ref D) (.type "ValueError") = some true := by
  unfold PySem.W.kitOne
  split
  · rfl
  · show (if PySem.W.kitMeta "ValueError" = true then PySem.W.subIn K (.ref D) (.type "ValueError") else none) = some true
    rw [if_pos (by decide +kernel), hs]
theorem exm_ref' {K : PySem.W.Frag} {C E : Addr} (h1 : PySem.W.subIn K (.ref E) (.type "BaseException") = some true) (hc : PySem.W.hasDictIn K E = true) (ht : PySem.W.typeIn K (.ref E) = some (.type "type")) (h4 : PySem.W.subIn K (.ref C) (.ref E) = some true) : PySem.W.exmOne K (.ref C) (.ref E) = some true := PySem.W.exm_ref h1 hc ht h4
end TL
namespace TL
open PySem PySem.Spec PyProof.Rows L2
end TL
namespace TL
open PySem PySem.Spec PyProof.Rows L2
section
variable {B : Base} {X : Cx}
end
end TL
namespace TL
open PySem PySem.Spec PyProof.Rows L2
def mulIX : D → D → Option D
  | .int i, .int j => if i.natAbs < 2 ^ 1000 ∧ j.natAbs < 2 ^ 10 then some (.int (i * j)) else none
  | _, _ => none
def dMulI : Op2 := fun x y Q => oP (mulIX x y) fun d => Q (.v d)
theorem e_dMulI (x y : D) (Q : R → Prop) : dMulI x y Q = oP (mulIX x y) fun d => Q (.v d) := rfl
end TL
namespace TL
open PySem PySem.Spec PyProof.Rows L2
section
variable {B : Base} {X : Cx}
theorem O_mulI : OpT B X (binaryOp .Mult) dMulI := .mk fun pins s σ H x y v u Q g t σ' dx dy P I rx ry rl r1 r2 m k => by
  unfold dMulI mulIX at m
  split at m
  · split at m
    · rename_i h
      exact op_mulW pins s σ H x y v u Q I rx ry ⟨_, _, r1.int_inv, r2.int_inv, wide_mul h.1 h.2 (by decide) (by decide) (by decide), k _ m g _ H sRefl rl (Rep.int _)⟩
    · exact m.elim
  · exact m.elim
end
end TL
namespace TL
open PySem PySem.Spec PyProof.Rows L2
end TL
namespace TL
open PySem PySem.Spec PyProof.Rows L2
section
variable {prog : Program} {w : World} {A : Around} {E : Value → Shared → Prop} {s : Shared}
end
end TL
namespace TL
open PySem PySem.Spec PyProof.Rows L2
end TL
namespace PySem.W
open PySem PySem.Calls PyProof.Rows PySem.Spec
section
variable {prog : Program} {w : World} {A : Around} {E : Value → Shared → Prop} {s : Shared} {α : Type} {R : Value → α → Prop} {enc : α → PyData} {vs : List Value} {bs : List α}
end
end PySem.W
namespace TL
open PySem PySem.Spec PyProof.Rows L2
end TL
set_option maxHeartbeats 1000000
namespace RT
open PySem PySem.Spec PyProof.Rows
section
variable {prog : Program} {w : World} {A : Around} {E : Value → Shared → Prop} {s : Shared}
end
section
open L2
variable {X : Cx}
end
end RT
namespace TL
open PySem PySem.Spec PyProof.Rows L2
end TL
namespace TL
open PySem PySem.Spec PyProof.Rows L2
end TL
namespace TL
open PySem PySem.Spec PyProof.Rows L2
section
variable {B : Base} {X : Cx}
end
end TL
namespace HotX
open PySem PySem.Spec PyProof.Rows
section
variable {prog : Program} {w : World} {A : Around} {E : Value → Shared → Prop} {s : Shared}
end
end HotX
namespace TL
open PySem PySem.Spec PyProof.Rows L2
section
variable {X : Cx}
end
end TL
namespace TL
open PySem PySem.Spec PyProof.Rows L2
end TL
namespace TL
open PySem PySem.Spec PyProof.Rows L2
end TL
namespace TL
open PySem PySem.Spec PyProof.Rows L2
theorem RepT.len {K : PySem.W.Frag} {F : Hp} : ∀ {ds : List (D × D)} {kvs : List (List Key × V)}, RepT K F ds kvs → kvs.length = ds.length
  | _, _, .nil => rfl
  | _, _, .cons _ t => congrArg (· + 1) t.len
section
variable {X : Cx}
variable {B : Base} {e : Expr} {wA : WA} {pos pos' apos cpos : Pos} {x : Str}
end
end TL
namespace TL
open PySem PySem.Spec PyProof.Rows L2
end TL
namespace L2
open PySem PySem.Spec PyProof.Rows
end L2
namespace TL
open PySem PySem.Spec PyProof.Rows L2
theorem RepK.len {K : PySem.W.Frag} {F : Hp} : ∀ {ds : List (D × D)} {kvs : List (Key × V)}, RepK K F ds kvs → kvs.length = ds.length
  | _, _, .nil => rfl
  | _, _, .cons _ t => congrArg (· + 1) t.len
section
variable {B : Base} {X : Cx}
end
end TL
namespace TL
open PySem PySem.Spec PyProof.Rows L2
def ownC : R → Option Cell
  | .own c => some c
  | _ => none
def wCallO (ts : TSpec) (a : WE) : WE := fun W t Q => a W t fun r t1 => withO (ownC r) fun c => callK ts [.ref c] (fun r _ => Q r t1) (fun cls pay _ => W cls pay t1)
theorem e_wCallO (ts : TSpec) (a : WE) (W : TX) (t : TSt) (Q : R → TSt → Prop) : wCallO ts a W t Q = a W t fun r t1 => withO (ownC r) fun c => callK ts [.ref c] (fun r _ => Q r t1) (fun cls pay _ => W cls pay t1) := rfl
theorem e_ownC (c : Cell) : ownC (.own c) = some c := rfl
end TL
namespace TL
open PySem PySem.Spec PyProof.Rows L2
theorem rel_post1 {K : PySem.W.Frag} {B : Base} {g : Gh} {t : TSt} {σ : L2.St} {H : Hp} {c : Cell} {a : Addr} {l : List Addr} {fp fp' : Nat → List Addr} {outs : List Cell} {F' H' : Hp} (rl : Rel K B g t σ H) (hl : ∀ b ∈ l, g.ow b = none ∧ g.F b = none ∧ B.H b = none) (hf : ∀ b, InF fp b → b ∈ l)
    (po : Post K g.F H [.ref c] [.ref a] fp outs F' H' fp') : Rel K B ⟨F', g.ow⟩ t σ H' := by
  have nf : ∀ b i, g.ow b = some i → ¬ InF fp b := fun b i h z => by
    rw [(hl b (hf b z)).1] at h; cases h
  refine ⟨fun a o e => po.up _ _ (rl.base _ _ e), po.sub, fun b o e => ?_, fun b o e n => ?_, rl.ft, ⟨fun b e => rl.dom b (po.dom b e), po.dm.tf⟩, fun b i e => ?_, rl.len, fun i s e => ?_⟩
  · show g.ow b = none
    cases q : g.ow b with
    | none => rfl
    | some i =>
      obtain ⟨u, hu⟩ := rl.there b i q
      have e' : F' b = some o := e
      rw [(po.keep b u hu (nf b i q)).2 (rl.fNone q)] at e'; cases e'
  · obtain ⟨z1, z2, z3⟩ := rl.old b o e n
    have nb : ¬ InF fp b := fun z => by
      rw [(hl b (hf b z)).2.2] at e; cases e
    exact ⟨(po.keep b o z1 nb).1, z2, fun z => (po.keep b o z1 nb).2 (z3 z)⟩
  · obtain ⟨u, hu⟩ := rl.there b i e
    exact ⟨u, (po.keep b u hu (nf b i e)).1⟩
  · refine (rl.slot i s e).up po.up fun b hb => ⟨hb, ?_⟩
    obtain ⟨u, hu⟩ := rl.there b i hb
    exact ((po.keep b u hu (nf b i hb)).1).trans hu.symm
section
variable {B : Base} {X : Cx} {e : Expr} {we : WE} {pos p : Pos}
theorem T_callO1 {ts : TSpec} {k : Nat} {f : Addr} {fd : FuncData} {ps : List Str} {x : Str} (F : FnG X.prog X.w X.K X.mg X.base (L2N.CX X.prog X.w) k f fd ps (toSp X.K ps.length ts)) (hr : RoomG k X.A) (hm : X.mg x = some (.ref f)) (hk : PySem.W.keepIn X.K (.ref f) = true) (hb : Binds X.K fd ps [])
    (hl : ∀ args PQ PX, ts args PQ PX → args.length = ps.length) (he : PET B X e we) (hg : Gl X x := by rfl) (hdb : (x == ("__debug__" : Str)) = false := by rfl) (hs : starEach [e] X.env = (false, eval e X.env) :: starEach [] X.env := by rfl) (hpl : (backTo pos (starEach [] X.env)).any (·.1) = false := by rfl) :
    PET B X (.Call (.Name x p) [e] [] pos) (wCallO ts we) := by
  refine fun W tk => PE.imp (pe_callG F hr hg hm hk hb (fun σ => L2N.passAt tk σ) (pa_cons (he W tk) pa_nil hs) hdb hs hpl) fun σ H Q q => ?_
  obtain ⟨g, t, P, rl, m, kk⟩ := q
  refine ⟨g, t, _, rl, m, fun r1 t1 m1 g1 v1 H1 s1 rl1 rr1 => ?_⟩
  rw [withO_oP] at m1
  obtain ⟨c, hc, hts⟩ := oP_get m1
  cases r1 with
  | v d => cases hc
  | own c' =>
    cases hc
    obtain ⟨a, l, rfl, cr, nd, hh⟩ := rr1
    have ar : ArgsRel X.K g1.F H1 [.ref c] [.ref a] (fun i => if i = 0 then l else []) := by
      refine ⟨rfl, fun i d hi => ?_, fun i c2 hi => ?_, fun i hi => ?_, fun i j b hb hb' => ?_, fun i b hb => ?_, rl1.tf⟩
      · cases i with
        | zero => simp at hi
        | succ i => simp at hi
      · cases i with
        | zero => simp at hi; subst hi; exact ⟨a, rfl, cr, nd⟩
        | succ i => simp at hi
      · cases i with
        | zero => exact absurd rfl (hi c)
        | succ i => rfl
      · have hb : b ∈ (if i = 0 then l else []) := hb
        have hb' : b ∈ (if j = 0 then l else []) := hb'
        split at hb
        · rename_i h
          split at hb'
          · rename_i h'; rw [h, h']
          · cases hb'
        · cases hb
      · have hb : b ∈ (if i = 0 then l else []) := hb
        split at hb
        · exact (hh b hb).2.1
        · cases hb
    refine ⟨by have := hl _ _ _ hts; exact this, g1.F, [.ref c], _, _, _, rl1.sub, ar, hts, fun r outs hq v F' H' fp' po rr => ?_, fun nm pay outs hx cls hcl d F' H' fp' po pr => ?_⟩
    · have rl2 := rel_post1 rl1 hh (fun b ⟨i, hb⟩ => by
        have hb : b ∈ (if i = 0 then l else []) := hb
        split at hb
        · exact hb
        · cases hb) po
      refine kk _ _ hq ⟨F', g1.ow⟩ v H' (s1.trans po.up) rl2 ?_
      cases r with
      | v d => exact rr
      | own c =>
        obtain ⟨a2, l2, rfl, cr2, n2, h2⟩ := rr
        refine ⟨a2, l2, rfl, cr2, n2, fun b hb => ⟨?_, (h2 b hb).1, rl1.dom b (h2 b hb).2.1⟩⟩
        show g1.ow b = none
        cases q : g1.ow b with
        | none => rfl
        | some i =>
          obtain ⟨u, hu⟩ := rl1.there b i q
          rw [(h2 b hb).2.1] at hu; cases hu
    · have rl2 := rel_post1 rl1 hh (fun b ⟨i, hb⟩ => by
        have hb : b ∈ (if i = 0 then l else []) := hb
        split at hb
        · exact hb
        · cases hb) po
      exact ⟨nm, hcl, ⟨F', g1.ow⟩, _, pay, rl2, pr, hx⟩
theorem T_callO {k n : Nat} {x : Str} {ts : TSpec} (c : CalG X.prog X.w X.K X.mg X.base k x n ts) (hr : RoomG k X.A) (he : PET B X e we) (hg : Gl X x := by rfl) (hdb : (x == ("__debug__" : Str)) = false := by rfl) (hs : starEach [e] X.env = (false, eval e X.env) :: starEach [] X.env := by rfl) (hpl : (backTo pos (starEach [] X.env)).any (·.1) = false := by rfl) :
    PET B X (.Call (.Name x p) [e] [] pos) (wCallO ts we) := by
  obtain ⟨f, fd, ps, rfl, F, hm, hk, hb⟩ := c.ex
  exact T_callO1 F hr hm hk hb c.hl he hg hdb hs hpl
end
end TL
namespace TL
open PySem PySem.Spec PyProof.Rows L2
end TL
namespace PySem.W
open PySem PySem.Calls PyProof.Rows PySem.Spec
section
variable {prog : Program} {w : World} {A : Around} {s : Shared}
end
end PySem.W
namespace TL
open PySem PySem.Spec PyProof.Rows L2
end TL
namespace TL
open PySem PySem.Spec PyProof.Rows L2
end TL
namespace TL
open PySem PySem.Spec PyProof.Rows L2
section
variable {B : Base} {X : Cx} {b : Expr} {wb : WE}
end
end TL
namespace TL
open PySem PySem.Spec PyProof.Rows L2
end TL
namespace TL
open PySem PySem.Spec PyProof.Rows L2
end TL
namespace TL
open PySem PySem.Spec PyProof.Rows L2
end TL
namespace TL
open PySem PySem.Spec PyProof.Rows L2
/-- field f of an instance of class n that is read alone -/
def fldX (n : String) (d : D) (f : Str) : Option D := match d with
  | .obj m fs => if m = n then fs.lookup f else none
  | _ => none
def wFld (n : String) (f : Str) (a : WE) : WE := fun W t Q => a W t fun r t1 => fz r fun d => oP (fldX n d f) fun x => Q (.v x) t1
theorem e_wFld (n : String) (f : Str) (a : WE) (W : TX) (t : TSt) (Q : R → TSt → Prop) : wFld n f a W t Q = a W t fun r t1 => fz r fun d => oP (fldX n d f) fun x => Q (.v x) t1 := rfl
/-- the fields of the instance of class n that slot i holds -/
def insAt (n : String) (t : TSt) (i : Nat) : Option (List (Str × FV)) := match cellAt t i with
  | some (.ins m fs) => if m = n then some fs else none
  | _ => none
def onIns (n : String) (t : TSt) (i : Nat) (k : List (Str × FV) → Prop) : Prop := withO (insAt n t i) k
theorem onIns_ap (n : String) (t : TSt) (i : Nat) (k : List (Str × FV) → Prop) : onIns n t i k = withO (insAt n t i) k := rfl
def fldCX (fs : List (Str × FV)) (f : Str) : Option D := match fs.lookup f with
  | some (.v d) => some d
  | _ => none
def wFldK (n : String) (i : Nat) (f : Str) : WE := fun _ t Q => onIns n t i fun fs => oP (fldCX fs f) fun x => Q (.v x) t
theorem e_wFldK (n : String) (i : Nat) (f : Str) (W : TX) (t : TSt) (Q : R → TSt → Prop) : wFldK n i f W t Q = onIns n t i fun fs => oP (fldCX fs f) fun x => Q (.v x) t := rfl
def putFV (f : Str) (v : FV) : List (Str × FV) → List (Str × FV)
  | [] => [(f, v)]
  | (g, x) :: r => if g = f then (g, v) :: r else (g, x) :: putFV f v r
def fvR (r : R) (k : FV → Prop) : Prop := match r with
  | .v d => k (.v d)
  | .own (.lst l) => k (.l l)
  | .own (.dct kk l) => k (.d kk l)
  | .own (.ins _ _) => False
theorem fvR_v (d : D) (k : FV → Prop) : fvR (.v d) k = k (.v d) := rfl
theorem fvR_l (l : List D) (k : FV → Prop) : fvR (.own (.lst l)) k = k (.l l) := rfl
theorem fvR_d (kk : KK) (l : List (D × D)) (k : FV → Prop) : fvR (.own (.dct kk l)) k = k (.d kk l) := rfl
/-- name.f = e -/
def wFldS (n : String) (i : Nat) (f : Str) (a : WE) : WS := fun W t D0 => a W t fun r t1 => onIns n t1 i fun fs => fvR r fun v => D0.nx (setCell t1 i (.ins n (putFV f v fs)))
theorem e_wFldS (n : String) (i : Nat) (f : Str) (a : WE) (W : TX) (t : TSt) (nx : TSt → Prop) (rt : R → TSt → Prop) (bk ct : TSt → Prop) : wFldS n i f a W t ⟨nx, rt, bk, ct⟩ = a W t fun r t1 => onIns n t1 i fun fs => fvR r fun v => nx (setCell t1 i (.ins n (putFV f v fs))) := rfl
def objX (n : String) (d : D) : Option D := match d with
  | .obj m fs => if m = n then some (.obj m fs) else none
  | _ => none
def wMeth (n : String) (ts : TSpec) (a : WE) (b : WAA) : WE := fun W t Q => a W t fun r t1 => fz r fun d => oP (objX n d) fun o => b W t1 fun as t2 => goCall ts (.inl o :: as) t2 W Q
theorem e_wMeth (n : String) (ts : TSpec) (a : WE) (b : WAA) (W : TX) (t : TSt) (Q : R → TSt → Prop) : wMeth n ts a b W t Q = a W t fun r t1 => fz r fun d => oP (objX n d) fun o => b W t1 fun as t2 => goCall ts (.inl o :: as) t2 W Q := rfl
/-- name.m(..): the method may change it -/
def wMethR (n : String) (ts : TSpec) (i : Nat) (b : WAA) : WE := fun W t Q => onIns n t i fun _ => b W t fun as t1 => goCall ts (.inr i :: as) t1 W Q
theorem e_wMethR (n : String) (ts : TSpec) (i : Nat) (b : WAA) (W : TX) (t : TSt) (Q : R → TSt → Prop) : wMethR n ts i b W t Q = onIns n t i fun _ => b W t fun as t1 => goCall ts (.inr i :: as) t1 W Q := rfl
/-- the instance that __init__ has filled -/
def madeR (r : R) (outs : List Cell) (k : Cell → Prop) : Prop := match r, outs with
  | .v .non, [c] => k c
  | _, _ => False
def nonX (d : D) : Option Unit := match d with
  | .non => some ()
  | _ => none
theorem madeR_X (d : D) (c : Cell) (k : Cell → Prop) : madeR (.v d) [c] k = oP (nonX d) fun _ => k c := by
  cases d <;> rfl
/-- C(..) -/
def goMake (n : String) (ts : TSpec) (as : List AV) (t : TSt) (W : TX) (Q : R → TSt → Prop) : Prop := refsA as = [] ∧ withO (resA as t) fun args => callK ts (.ref (.ins n []) :: args) (fun r outs => madeR r outs fun c => Q (.own c) t) (fun cls pay _ => W cls pay t) ⟨⟩
theorem goMake_ap (n : String) (ts : TSpec) (as : List AV) (t : TSt) (W : TX) (Q : R → TSt → Prop) : goMake n ts as t W Q = (refsA as = [] ∧ withO (resA as t) fun args => callK ts (.ref (.ins n []) :: args) (fun r outs => madeR r outs fun c => Q (.own c) t) (fun cls pay _ => W cls pay t) ⟨⟩) := rfl
def wMake (n : String) (ts : TSpec) (b : WAA) : WE := fun W t Q => b W t fun as t1 => goMake n ts as t1 W Q
theorem e_wMake (n : String) (ts : TSpec) (b : WAA) (W : TX) (t : TSt) (Q : R → TSt → Prop) : wMake n ts b W t Q = b W t fun as t1 => goMake n ts as t1 W Q := rfl
/-- the instance as data -/
def frzI (n : String) (fs : List (Str × FV)) : D := .obj n (fsZ fs)
def divmodX : D → D → Option D
  | .int a, .int b => if 0 < b ∧ b < 1073741824 then some (.tup [.int (a / b), .int (a % b)]) else none
  | _, _ => none
def nDivmod : OpN
  | [a, b], Q => oP (divmodX a b) fun d => Q (.v d)
  | _, _ => False
theorem e_nDivmod (a b : D) (Q : R → Prop) : nDivmod [a, b] Q = oP (divmodX a b) fun d => Q (.v d) := rfl
def anyTX : D → Option Bool
  | .tup l => (D.ints l).map fun ns => ns.any fun x => x != 0
  | _ => none
def nAnyT : OpN
  | [a], Q => oP (anyTX a) fun b => Q (.v (.bl b))
  | _, _ => False
theorem e_nAnyT (a : D) (Q : R → Prop) : nAnyT [a] Q = oP (anyTX a) fun b => Q (.v (.bl b)) := rfl
end TL
namespace TL
open PySem PySem.Spec PyProof.Rows L2
end TL
namespace TL
open PySem PySem.Spec PyProof.Rows L2
end TL
namespace TL
open PySem PySem.Spec PyProof.Rows L2
mutual
/-- data with no object in it but tuples -/
def D.flat : D → Bool
  | .non => true
  | .bl _ => true
  | .int _ => true
  | .str _ => true
  | .tup l => D.flatL l
  | .lst _ => false
  | .scr _ => false
  | .dct _ _ => false
  | .ty _ => true
  | .ref _ => true
  | .exc _ => false
  | .cl _ => true
  | .obj _ _ => false
def D.flatL : List D → Bool
  | [] => true
  | d :: ds => d.flat && D.flatL ds
end
theorem flatL_all : ∀ {l : List D}, (∀ d ∈ l, d.flat = true) → D.flatL l = true
  | [], _ => rfl
  | d :: l, h => by
    unfold D.flatL
    rw [h d List.mem_cons_self, flatL_all fun x hx => h x (List.mem_cons_of_mem _ hx)]
    rfl
theorem flat_tup {l : List D} (h : ∀ d ∈ l, d.flat = true) : (D.tup l).flat = true := flatL_all h
def flatX (d : D) : Option Unit := if d.flat then some () else none
theorem flatX_ok {d : D} (h : d.flat = true) : flatX d = some () := if_pos h
def flatR (r : R) (k : Prop) : Prop := match r with
  | .v d => oP (flatX d) fun _ => k
  | .own _ => False
theorem flatR_v (d : D) (k : Prop) : flatR (.v d) k = oP (flatX d) fun _ => k := rfl
def nrK : List Arg → Prop → Prop
  | [], p => p
  | .v _ :: as, p => nrK as p
  | .ref _ :: _, _ => False
theorem nrK_nil (p : Prop) : nrK [] p = p := rfl
theorem nrK_v (d : D) (as : List Arg) (p : Prop) : nrK (.v d :: as) p = nrK as p := rfl
/-- the promise by value as one that takes the first argument by its slot, and leaves it -/
def vwT (ts : TSpec) : TSpec := fun args PQ PX => match args with
  | .ref (.ins n fs) :: as => nrK as (ts (.v (frzI n fs) :: as) (fun r outs => flatR r (PQ r (.ins n fs :: outs))) (fun nm pay outs => pay = none ∧ PX nm none (.ins n fs :: outs)))
  | _ => False
theorem vw_ap (ts : TSpec) (n : String) (fs : List (Str × FV)) (as : List Arg) (PQ : R → List Cell → Prop) (PX : String → Pay → List Cell → Prop) : callK (vwT ts) (.ref (.ins n fs) :: as) PQ PX ⟨⟩ =
    nrK as (callK ts (.v (frzI n fs) :: as) (fun r outs => flatR r (PQ r (.ins n fs :: outs))) (fun nm pay outs => pay = none ∧ PX nm none (.ins n fs :: outs)) ⟨⟩) := rfl
def getFX (fs : List (Str × FV)) (f : Str) (key : D) : Option D := match fs.lookup f with
  | some (.d kk l) => if D.isKey kk key then lookD l key else none
  | _ => none
def setFX (fs : List (Str × FV)) (f : Str) (key d : D) : Option (List (Str × FV)) := match fs.lookup f with
  | some (.d kk l) => if D.isKey kk key = true ∧ l.length < sizeLine then some (putFV f (.d kk (putD l key d)) fs) else none
  | _ => none
def empFX (fs : List (Str × FV)) (f : Str) : Option Bool := match fs.lookup f with
  | some (.d _ l) => some l.isEmpty
  | _ => none
/-- name.f[key], the key a name -/
def wFSub (n : String) (i : Nat) (f : Str) (j : Nat) : WE := fun _ t Q => onIns n t i fun fs => withO (vAt t j) fun key => oP (getFX fs f key) fun d => Q (.v d) t
theorem e_wFSub (n : String) (i : Nat) (f : Str) (j : Nat) (W : TX) (t : TSt) (Q : R → TSt → Prop) : wFSub n i f j W t Q = onIns n t i fun fs => withO (vAt t j) fun key => oP (getFX fs f key) fun d => Q (.v d) t := rfl
/-- name.f == {} -/
def wFEmp (n : String) (i : Nat) (f : Str) : WE := fun _ t Q => onIns n t i fun fs => oP (empFX fs f) fun b => Q (.v (.bl b)) t
theorem e_wFEmp (n : String) (i : Nat) (f : Str) (W : TX) (t : TSt) (Q : R → TSt → Prop) : wFEmp n i f W t Q = onIns n t i fun fs => oP (empFX fs f) fun b => Q (.v (.bl b)) t := rfl
/-- name.f[key] = e, the key a name -/
def wFPut (n : String) (i : Nat) (f : Str) (j : Nat) (a : WE) : WS := fun W t D0 => a W t fun r t1 => fz r fun d => onIns n t1 i fun fs => withO (vAt t1 j) fun key => oP (setFX fs f key d) fun fs' => D0.nx (setCell t1 i (.ins n fs'))
theorem e_wFPut (n : String) (i : Nat) (f : Str) (j : Nat) (a : WE) (W : TX) (t : TSt) (nx : TSt → Prop) (rt : R → TSt → Prop) (bk ct : TSt → Prop) : wFPut n i f j a W t ⟨nx, rt, bk, ct⟩ = a W t fun r t1 => fz r fun d => onIns n t1 i fun fs => withO (vAt t1 j) fun key => oP (setFX fs f key d) fun fs' => nx (setCell t1 i (.ins n fs')) := rfl
end TL
namespace TL
open PySem PySem.Spec PyProof.Rows L2
end TL
namespace TL
open PySem PySem.Spec PyProof.Rows L2
end TL
namespace TL
open PySem PySem.Spec PyProof.Rows L2
end TL
namespace TL
open PySem PySem.Spec PyProof.Rows L2
end TL
namespace TL
open PySem PySem.Spec PyProof.Rows L2
section
variable {B : Base} {X : Cx}
end
end TL
namespace TL
open PySem PySem.Spec PyProof.Rows L2
section
variable {B : Base} {X : Cx}
end
end TL
namespace TL
open PySem PySem.Spec PyProof.Rows L2
section
variable {B : Base} {X : Cx}
end
end TL
namespace TL
open PySem PySem.Spec PyProof.Rows L2
theorem lookup_cons {α : Type} (f g : Str) (x : α) (r : List (Str × α)) : ((g, x) :: r).lookup f = if f = g then some x else r.lookup f := by
  by_cases h : f = g
  · have hb : (f == g) = true := beq_iff_eq.mpr h
    simp only [List.lookup, hb, if_pos h]
  · have hb : (f == g) = false := beq_eq_false_iff_ne.mpr h
    simp only [List.lookup, hb, if_neg h]
theorem lookup_out {α : Type} {f : Str} : ∀ {gs : List (Str × α)}, f ∉ gs.map (·.1) → gs.lookup f = none
  | [], _ => rfl
  | (g, x) :: r, h => by
    rw [lookup_cons, if_neg fun z => h (by rw [z]; exact List.mem_cons_self)]
    exact lookup_out fun z => h (List.mem_cons_of_mem _ z)
/-- a field's value -/
inductive FvRel (K : PySem.W.Frag) (F H : Hp) : FV → V → List Addr → Prop
  | v {d : D} {x : V} : Rep K F d x → FvRel K F H (.v d) x []
  | l {ds : List D} {a : Addr} {vs : List V} : H a = some (.lst vs) → Reps K F ds vs → FvRel K F H (.l ds) (.ref a) [a]
  | dK {ds : List (D × D)} {a : Addr} {kvs : List (Key × V)} : H a = some (.dK kvs) → RepK K F ds kvs → FvRel K F H (.d .k ds) (.ref a) [a]
  | dT {ds : List (D × D)} {a : Addr} {kvs : List (List Key × V)} : H a = some (.dT kvs) → RepT K F ds kvs → FvRel K F H (.d .t ds) (.ref a) [a]
section
variable {K : PySem.W.Frag} {F H : Hp}
theorem RepF.keys : ∀ {fs : List (Str × D)} {gs : List (Str × V)}, RepF K F fs gs → gs.map (·.1) = fs.map (·.1)
  | _, _, .nil => rfl
  | _, _, .cons _ r => by rw [List.map_cons, List.map_cons, RepF.keys r]
theorem RepF.look {f : Str} {d : D} : ∀ {fs : List (Str × D)} {gs : List (Str × V)}, RepF K F fs gs → fs.lookup f = some d → ∃ x, gs.lookup f = some x ∧ Rep K F d x
  | _, _, .cons (f := g) r rs, e => by
    rw [lookup_cons] at e
    rw [lookup_cons]
    by_cases h : f = g
    · rw [if_pos h] at e ⊢; cases e; exact ⟨_, rfl, r⟩
    · rw [if_neg h] at e ⊢; exact RepF.look rs e
theorem FsRel.inv {p : Str × FV} {fs : List (Str × FV)} {gs : List (Str × V)} {fp : List Addr} (h : FsRel K F H (p :: fs) gs fp) : ∃ y gs' fv fp', gs = (p.1, y) :: gs' ∧ fp = fv ++ fp' ∧ FvRel K F H p.2 y fv ∧ FsRel K F H fs gs' fp' := by
  cases h with
  | v r t => exact ⟨_, _, [], _, rfl, rfl, .v r, t⟩
  | l e r t => exact ⟨_, _, [_], _, rfl, rfl, .l e r, t⟩
  | dK e r t => exact ⟨_, _, [_], _, rfl, rfl, .dK e r, t⟩
  | dT e r t => exact ⟨_, _, [_], _, rfl, rfl, .dT e r, t⟩
theorem FsRel.add {f : Str} {v : FV} {y : V} {fv : List Addr} {fs : List (Str × FV)} {gs : List (Str × V)} {fp : List Addr} (h : FvRel K F H v y fv) (t : FsRel K F H fs gs fp) : FsRel K F H ((f, v) :: fs) ((f, y) :: gs) (fv ++ fp) := by
  cases h with
  | v r => exact .v r t
  | l e r => exact .l e r t
  | dK e r => exact .dK e r t
  | dT e r => exact .dT e r t
theorem FsRel.keys : ∀ {fs : List (Str × FV)} {gs : List (Str × V)} {fp : List Addr}, FsRel K F H fs gs fp → gs.map (·.1) = fs.map (·.1)
  | [], _, _, h => by cases h; rfl
  | p :: fs, _, _, h => by
    obtain ⟨y, gs', fv, fp', rfl, _, _, t⟩ := h.inv
    rw [List.map_cons, List.map_cons, FsRel.keys t]
theorem FsRel.look {f : Str} {v : FV} : ∀ {fs : List (Str × FV)} {gs : List (Str × V)} {fp : List Addr}, FsRel K F H fs gs fp → fs.lookup f = some v → ∃ x fv, gs.lookup f = some x ∧ FvRel K F H v x fv ∧ ∀ b ∈ fv, b ∈ fp
  | [], _, _, h, e => by cases e
  | (g, w) :: fs, _, _, h, e => by
    obtain ⟨y, gs', fv, fp', rfl, rfl, r, t⟩ := h.inv
    rw [lookup_cons] at e
    show ∃ x fv', List.lookup f ((g, y) :: gs') = some x ∧ _
    rw [lookup_cons]
    by_cases h : f = g
    · rw [if_pos h] at e ⊢
      cases e
      exact ⟨y, fv, rfl, r, fun b hb => List.mem_append_left _ hb⟩
    · rw [if_neg h] at e ⊢
      obtain ⟨x, fv', h1, h2, h3⟩ := FsRel.look t e
      exact ⟨x, fv', h1, h2, fun b hb => List.mem_append_right _ (h3 b hb)⟩
theorem FsRel.put {f : Str} {v : FV} {y : V} {fv : List Addr} (hv : FvRel K F H v y fv) : ∀ {fs : List (Str × FV)} {gs : List (Str × V)} {fp : List Addr}, FsRel K F H fs gs fp →
    ∃ fp', FsRel K F H (putFV f v fs) (putF f y gs) fp' ∧ (∀ b ∈ fp', b ∈ fp ∨ b ∈ fv) ∧ (fp.Nodup → fv.Nodup → (∀ b ∈ fv, b ∉ fp) → fp'.Nodup)
  | [], _, _, h => by
    cases h
    exact ⟨fv ++ [], FsRel.add hv .nil, fun b hb => .inr (by simpa using hb), fun _ n _ => by simpa using n⟩
  | (g, w) :: fs, _, _, h => by
    obtain ⟨y', gs', fw, fp', rfl, rfl, r, t⟩ := h.inv
    show ∃ fp2, FsRel K F H (if g = f then (g, v) :: fs else (g, w) :: putFV f v fs) (if g = f then (g, y) :: gs' else (g, y') :: putF f y gs') fp2 ∧ _
    by_cases h : g = f
    · rw [if_pos h, if_pos h]
      refine ⟨fv ++ fp', FsRel.add hv t, fun b hb => ?_, fun n1 n2 n3 => ?_⟩
      · rcases List.mem_append.mp hb with hb | hb
        · exact .inr hb
        · exact .inl (List.mem_append_right _ hb)
      · exact List.nodup_append.mpr ⟨n2, (List.nodup_append.mp n1).2.1, fun a ha b hb z => n3 a ha (List.mem_append_right _ (by rw [z]; exact hb))⟩
    · rw [if_neg h, if_neg h]
      obtain ⟨fp2, p1, p2, p3⟩ := FsRel.put hv t
      refine ⟨fw ++ fp2, FsRel.add r p1, fun b hb => ?_, fun n1 n2 n3 => ?_⟩
      · rcases List.mem_append.mp hb with hb | hb
        · exact .inl (List.mem_append_left _ hb)
        · rcases p2 b hb with z | z
          · exact .inl (List.mem_append_right _ z)
          · exact .inr z
      · obtain ⟨m1, m2, m3⟩ := List.nodup_append.mp n1
        refine List.nodup_append.mpr ⟨m1, p3 m2 n2 fun b hb z => n3 b hb (List.mem_append_right _ z), fun a ha b hb z => ?_⟩
        subst z
        rcases p2 a hb with z | z
        · exact m3 a ha a z rfl
        · exact n3 a z (List.mem_append_left _ ha)
theorem FvRel.fpEq {v : FV} {y : V} {fv fv2 : List Addr} (h : FvRel K F H v y fv) (h2 : FvRel K F H v y fv2) : fv = fv2 := by
  cases h <;> cases h2 <;> rfl
theorem FsRel.fpEq : ∀ {fs : List (Str × FV)} {gs : List (Str × V)} {fp fp2 : List Addr}, FsRel K F H fs gs fp → FsRel K F H fs gs fp2 → fp = fp2
  | [], _, _, _, h, h2 => by cases h; cases h2; rfl
  | p :: fs, _, _, _, h, h2 => by
    obtain ⟨y, gs', fv, fp', rfl, rfl, r, t⟩ := h.inv
    obtain ⟨y2, gs2, fv2, fp2', e, rfl, r2, t2⟩ := h2.inv
    cases e
    rw [r.fpEq r2, FsRel.fpEq t t2]
theorem putFV_keys (f : Str) (v : FV) : ∀ fs : List (Str × FV), (putFV f v fs).map (·.1) = if f ∈ fs.map (·.1) then fs.map (·.1) else fs.map (·.1) ++ [f]
  | [] => rfl
  | (g, x) :: r => by
    show (if g = f then (g, v) :: r else (g, x) :: putFV f v r).map (·.1) = _
    by_cases h : g = f
    · rw [if_pos h, if_pos (by rw [← h]; exact List.mem_cons_self)]
      rfl
    · rw [if_neg h, List.map_cons, putFV_keys f v r, List.map_cons]
      have : (f ∈ g :: r.map (·.1)) = (f ∈ r.map (·.1)) := by
        rw [List.mem_cons]
        exact propext ⟨fun z => z.elim (fun z => absurd z.symm h) id, .inr⟩
      simp only [this]
      split <;> rfl
theorem KsOk.put {n f : String} {g : Str} {v : FV} {fs : List (Str × FV)} (h : KsOk n (fs.map (·.1))) (hg : g ∈ clsFields n) : KsOk n ((putFV g v fs).map (·.1)) := by
  rw [putFV_keys]
  split
  · exact h
  · rename_i z
    refine ⟨List.nodup_append.mpr ⟨h.1, List.nodup_cons.mpr ⟨List.not_mem_nil, List.nodup_nil⟩, fun a ha b hb e => z ?_⟩, fun k hk => ?_⟩
    · rw [List.mem_singleton.mp hb] at e
      rw [← e]; exact ha
    · rcases List.mem_append.mp hk with hk | hk
      · exact h.2 k hk
      · rw [List.mem_singleton.mp hk]; exact hg
theorem nodup_le {l m : List Str} (n : l.Nodup) (h : ∀ x ∈ l, x ∈ m) : l.length ≤ m.length := by
  induction l generalizing m with
  | nil => exact Nat.zero_le _
  | cons a l ih =>
    obtain ⟨n1, n2⟩ := List.nodup_cons.mp n
    have hm := h a List.mem_cons_self
    have := ih (m := m.erase a) n2 fun x hx => (List.mem_erase_of_ne fun z => n1 (by rw [← z]; exact hx)).mpr (h x (List.mem_cons_of_mem _ hx))
    rw [List.length_erase_of_mem hm] at this
    have := List.length_pos_of_mem hm
    rw [List.length_cons]; omega
theorem clsFields_few (n : String) : (clsFields n).length ≤ 10 := by
  unfold clsFields
  split <;> decide
theorem KsOk.few {n : String} {ks : List Str} (h : KsOk n ks) : ks.length < 1000 := by
  have := nodup_le h.1 h.2
  have := clsFields_few n
  omega
end
structure ClsT (K : PySem.W.Frag) (mg : Str → Option Value) (n : String) : Prop where
  ex : ∃ C, mg (Str.ofString n) = some (.ref C) ∧ ClsAt K n C ∧ Cls K C ∧ ∀ f ∈ clsFields n, NoAttr K C f
theorem ins_at {n : String} {t : TSt} {i : Nat} {fs : List (Str × FV)} (h : insAt n t i = some fs) : cellAt t i = some (.ins n fs) := by
  unfold insAt at h
  split at h
  · rename_i m fs' e
    split at h
    · rename_i z; subst z; cases h; exact e
    · cases h
  · cases h
theorem withO_get {α : Type} {o : Option α} {k : α → Prop} (h : withO o k) : ∃ x, o = some x ∧ k x := by
  cases o with
  | none => exact h.elim
  | some x => exact ⟨x, rfl, h⟩
/-- a new object is given to slot i -/
theorem Rel.give {K : PySem.W.Frag} {B : Base} {g : Gh} {t : TSt} {σ : L2.St} {H : Hp} (i : Nat) {fp : List Addr} (r : Rel K B g t σ H) (ho : ∀ b ∈ fp, g.ow b = none ∧ g.F b = none ∧ B.H b = none ∧ ∃ o, H b = some o) :
    Rel K B ⟨g.F, fun b => if b ∈ fp then some i else g.ow b⟩ t σ H := by
  refine r.owners (fun a o e => ?_) (fun a o e n => ?_) (fun a j e => ?_) r.len (fun j s e => (r.slot j s e).up sRefl fun b q => ⟨?_, rfl⟩)
  · rw [if_neg fun z => by rw [(ho a z).2.1] at e; cases e]; exact r.ff a o e
  · rw [if_neg fun z => by rw [(ho a z).2.2.1] at e; cases e]; exact (r.old a o e n).2.1
  · split at e
    · rename_i z; exact (ho a z).2.2.2
    · exact r.there a j e
  · show (if b ∈ fp then some i else g.ow b) = some j
    rw [if_neg fun z => by rw [(ho b z).1] at q; cases q]; exact q
section
variable {B : Base} {X : Cx} {e o : Expr} {es : List Expr} {we : WE} {wa : WAA} {pos pos' pos2 apos : Pos} {n : String} {f m : Str}
/-- e.f -/
theorem T_fld (ct : ClsT X.K X.mg n) (hf : f ∈ clsFields n) (h : PET B X e we) (hb : attributeBase e f X.env (eval e X.env) = eval e X.env := by rfl) : PET B X (.Attribute e f pos) (wFld n f we) := by
  obtain ⟨C, c1, c2, c3, c4⟩ := ct.ex
  refine fun W tk => PE.imp (pe_fld (h W tk) hb) fun σ H Q q => ?_
  obtain ⟨g, t, P, rl, m, k⟩ := q
  refine ⟨g, t, _, rl, m, fun r1 t1 m1 g1 v1 H1 s1 rl1 rr1 => ?_⟩
  unfold fz at m1
  split at m1
  · rename_i dx hx
    obtain ⟨F2, s2, rl2, rp⟩ := rr1.freeze rl1 hx
    obtain ⟨x, ex, m2⟩ := oP_get m1
    unfold fldX at ex
    split at ex
    · split at ex
      · rename_i z
        subst z
        cases rp with
        | obj hc ha hd ks rf =>
          cases hc.eq c2
          obtain ⟨y, ly, ry⟩ := rf.look ex
          exact ⟨_, _, _, _, y, rfl, rl2.sub _ _ ha, c3, c4 f hf, ly, k _ _ m2 ⟨F2, g1.ow⟩ y H1 (s1.trans s2) rl2 ry⟩
      · cases ex
    · cases ex
  · exact m1.elim
/-- name.f, the instance in a slot -/
theorem T_fldK (i : Nat) {x : Str} (ct : ClsT X.K X.mg n) (hf : f ∈ clsFields n) (hN : X.N[i]? = some x := by rfl) (hv : Vis X.env.scope x := by first | exact Or.inl rfl | exact Or.inr (Or.inl rfl) | exact Or.inr (Or.inr rfl)) (hd : (x == ("__debug__" : Str)) = false := by rfl) (hcd : (x == ("__classdict__" : Str)) = false := by rfl)
    (hb : attributeBase (.Name x pos') f X.env (eval (.Name x pos') X.env) = eval (.Name x pos') X.env := by rfl) : PET B X (.Attribute (.Name x pos') f pos) (wFldK n i f) := by
  obtain ⟨C, c1, c2, c3, c4⟩ := ct.ex
  refine fun W tk => PE.imp (pe_fld (pe_var hN hv hd hcd) hb) fun σ H Q q => ?_
  obtain ⟨g, t, P, rl, m, k⟩ := q
  obtain ⟨fs, hfs, m⟩ := withO_get (show withO (insAt n t i) _ from m)
  obtain ⟨y, hy, m⟩ := oP_get m
  obtain ⟨a, fp, h1, h2, _⟩ := cell_at rl (ins_at hfs)
  cases h2 with
  | ins hc e1 e2 ks r =>
    cases hc.eq c2
    unfold fldCX at hy
    split at hy
    · rename_i d hl
      cases hy
      obtain ⟨u, fv, l1, l2, _⟩ := r.look hl
      cases l2 with
      | v rp => exact ⟨_, h1, _, _, _, _, u, rfl, e1, c3, c4 f hf, l1, k _ _ m g u H sRefl rl rp⟩
    · cases hy
/-- name.f = e -/
theorem S_fldS (i : Nat) {x : Str} (ct : ClsT X.K X.mg n) (hf : f ∈ clsFields n) (h : PET B X e we) (hN : X.N[i]? = some x := by rfl) (hv : Vis X.env.scope x := by first | exact Or.inl rfl | exact Or.inr (Or.inl rfl) | exact Or.inr (Or.inr rfl)) (hd : (x == ("__debug__" : Str)) = false := by rfl) (hcd : (x == ("__classdict__" : Str)) = false := by rfl)
    (hs : swapsWith e (some (.Attribute (.Name x pos') f pos2)) pos.line X.env = pure false := by rfl) : PST B X (.Assign [.Attribute (.Name x pos') f pos2] e pos) (wFldS n i f we) := by
  obtain ⟨C, c1, c2, c3, c4⟩ := ct.ex
  refine fun W tk => PS.imp (ps_fld (pe_var hN hv hd hcd) (h W tk) hs) fun D0 σ H q => ?_
  obtain ⟨g, t, P, rl, m, kn, _⟩ := q
  refine ⟨g, t, _, rl, m, fun r1 t1 m1 g1 v1 H1 s1 rl1 rr1 => ?_⟩
  obtain ⟨fs, hfs, m1⟩ := withO_get (show withO (insAt n t1 i) _ from m1)
  -- the value, and whose it is now
  obtain ⟨v, fv, ow', mv, hvr, nd, rl2, ho⟩ : ∃ v fv, ∃ ow' : Addr → Option Nat, P.nx (setCell t1 i (.ins n (putFV f v fs))) ∧ FvRel X.K g1.F H1 v v1 fv ∧ fv.Nodup ∧ Rel X.K B ⟨g1.F, ow'⟩ t1 σ H1 ∧ ((∀ b ∈ fv, ow' b = some i) ∧ ∀ b ∈ fv, g1.ow b = none) ∧ (∀ b, g1.ow b = some i → ow' b = some i) := by
    cases r1 with
    | v d => exact ⟨.v d, [], g1.ow, m1, .v rr1, List.nodup_nil, rl1, ⟨nofun, nofun⟩, fun _ z => z⟩
    | own c =>
      obtain ⟨a, fp, rfl, cr, nd, ho⟩ := rr1
      have hg := Rel.give i rl1 (fp := fp) fun b hb => ⟨(ho b hb).1, (ho b hb).2.1, (ho b hb).2.2, cr.there b hb⟩
      have hi : ∀ b ∈ fp, (if b ∈ fp then some i else g1.ow b) = some i := fun b hb => if_pos hb
      have hj : ∀ b, g1.ow b = some i → (if b ∈ fp then some i else g1.ow b) = some i := fun b z => by
        split
        · rfl
        · exact z
      cases cr with
      | lst e rs => exact ⟨.l _, _, _, m1, .l e rs, nd, hg, ⟨hi, fun b hb => (ho b hb).1⟩, hj⟩
      | dK e rs => exact ⟨.d .k _, _, _, m1, .dK e rs, nd, hg, ⟨hi, fun b hb => (ho b hb).1⟩, hj⟩
      | dT e rs => exact ⟨.d .t _, _, _, m1, .dT e rs, nd, hg, ⟨hi, fun b hb => (ho b hb).1⟩, hj⟩
      | ins _ _ _ _ _ => exact m1.elim
  obtain ⟨a, fp, h1, h2, h3, h4, kk⟩ := cell_at rl2 (ins_at hfs)
  -- the instance's own addresses are none of the new ones
  obtain ⟨a', fp', h1', h2', h3', h4', _⟩ := cell_at rl1 (ins_at hfs)
  cases h2 with
  | @ins _ C' dx _ _ gs fpi hc e1 e2 ks r =>
    cases hc.eq c2
    rw [h1] at h1'
    cases h1'
    refine ⟨_, h1, a, C, dx, gs, rfl, e1, c3, c4 f hf, ?_, ?_⟩
    · have := ks.few
      rw [← r.keys, List.length_map] at this
      exact this
    · obtain ⟨n1, n2⟩ := List.nodup_cons.mp h3
      obtain ⟨n3, n4⟩ := List.nodup_cons.mp n2
      cases h2' with
      | @ins _ C2 dx2 _ _ gs2 fpi2 hc2 e12 e22 ks2 r2 =>
        rw [e1] at e12
        cases e12
        have new : ∀ b ∈ fv, b ≠ a ∧ b ≠ dx := fun b hb => by
          have hn := ho.1.2 b hb
          constructor
          · rintro rfl
            rw [h4' _ List.mem_cons_self] at hn; cases hn
          · rintro rfl
            rw [h4' _ (List.mem_cons_of_mem _ List.mem_cons_self)] at hn; cases hn
        have old : ∀ b ∈ fv, b ∉ fpi := fun b hb z => by
          have hx : fpi = fpi2 := by
            clear kk rl2
            exact FsRel.fpEq r r2
          have hn := ho.1.2 b hb
          rw [h4' b (List.mem_cons_of_mem _ (List.mem_cons_of_mem _ (by rw [← hx]; exact z)))] at hn
          cases hn
        obtain ⟨fp2, p1, p2, p3⟩ := FsRel.put (f := f) hvr r
        have nd2 := p3 n4 nd old
        have inA : ∀ b ∈ fp2, b ≠ a := fun b hb z => by
          subst z
          rcases p2 b hb with w | w
          · exact n1 (List.mem_cons_of_mem _ w)
          · exact (new b w).1 rfl
        have inX : dx ∉ fp2 := fun z => by
          rcases p2 dx z with w | w
          · exact n3 w
          · exact (new dx w).2 rfl
        have ne : dx ≠ a := fun z => n1 (by rw [z]; exact List.mem_cons_self)
        refine kn _ mv ⟨g1.F, ow'⟩ σ _ s1 (kk _ (a :: dx :: fp2) _ (.ins hc upd_same ((upd_ne ne).trans e2) (KsOk.put (f := n) ks hf) (p1.up sRefl fun b hb => upd_ne (inA b hb))) ?_ ?_ ?_ ?_ ?_)
        · refine List.nodup_cons.mpr ⟨fun z => ?_, List.nodup_cons.mpr ⟨inX, nd2⟩⟩
          rcases List.mem_cons.mp z with z | z
          · exact ne z.symm
          · exact inA a z rfl
        · intro b hb
          rcases List.mem_cons.mp hb with rfl | hb
          · exact h4 _ List.mem_cons_self
          · rcases List.mem_cons.mp hb with rfl | hb
            · exact h4 _ (List.mem_cons_of_mem _ List.mem_cons_self)
            · rcases p2 b hb with w | w
              · exact h4 b (List.mem_cons_of_mem _ (List.mem_cons_of_mem _ w))
              · exact ho.1.1 b w
        · intro b hb
          exact upd_ne fun z => hb (by rw [z]; exact h4 a List.mem_cons_self)
        · intro b hb
          by_cases z : b = a
          · subst z; rw [upd_same] at hb; cases hb
          · rw [upd_ne z] at hb; exact hb
        · intro b xs hb
          by_cases z : b = a
          · subst z; rw [upd_same] at hb; cases hb
          · rw [upd_ne z] at hb; exact hb
end
end TL
namespace TL
open PySem PySem.Spec PyProof.Rows L2
def tMethS (C : Addr) (m : Str) (sp : Sp) (E : L2.St → XK) (ta : TE) (t : TA) : TE := fun σ H Q => ta σ H fun x H1 => ∃ a dx fs, x = .ref a ∧ H1 a = some (.ins C dx fs) ∧ fs.lookup m = none ∧ t σ H1 fun vs H2 => sp (x :: vs) H2 Q (E σ)
def tMakeS (C : Addr) (sp : Sp) (E : L2.St → XK) (t : TA) : TE := fun σ H Q => t σ H fun vs H1 => ∀ x dx, H1 x = none → H1 dx = none → dx ≠ x →
  sp (.ref x :: vs) (upd (upd H1 dx (.own x)) x (.ins C dx [])) (fun v H2 => v = .non ∧ Q (.ref x) H2) (E σ)
theorem RoomG.make {k : Nat} {A : Around} (r : RoomG (k + 1) A) (C : Addr) (us : List Value) (kw : List (Str × Value)) : RoomG k (A.under (.builtin "type.__call__" ⟨.ref C :: us, kw⟩)) :=
  ⟨r.r.make C us kw, by have := r.g; first | exact this | (simpa [Around.under, Code.weight, Code.isCreation, Code.isGuard, Code.isCaller, Code.frames, Code.isFrame, guardIds] using this)⟩
section
variable {X : Cx} {CX : CXT} {k : Nat} {f C : Addr} {fd : FuncData} {ps : List Str} {sp : Sp} {E : L2.St → XK} {x m : Str} {p pos apos : Pos} {e o : Expr} {es : List Expr} {ta : TE} {t : TA}
theorem run_G {pins : List (Addr × Obj)} {σ : L2.St} {H : Hp} {s : Shared} {Q : VK} {us : List Value} {vs : List V} (F : FnG X.prog X.w X.K X.mg X.base CX k f fd ps sp) (hr : RoomG k X.A) (hb : Binds X.K fd ps []) (hx : ∀ σ, PassesAt CX X σ (E σ))
    (I : Inv X pins σ H s) (r : Vals vs us) (h : sp vs H Q (E σ)) : wpAny (model X.prog X.w) X.A (call (.ref f) us) (EP X pins σ Q) X.xe s := by
  have b := hb s us I.kIn (by rw [List.append_nil, ← r.length]; exact F.len _ _ _ _ h)
  rw [List.append_nil] at b
  refine wpAny_call (codeAny_mono (F.run X.A X.stack s H ⟨us, []⟩ us vs Q (E σ) hr I.env0 b r h) fun z s' hq => ?_)
  match z, hq with
  | .error e, hq => exact hx σ pins H s e s' I hq
  | .ok (.ret u), hq => exact I.after hq
  | .ok .next, hq => exact False.elim hq
  | .ok .brk, hq => exact False.elim hq
  | .ok .cont, hq => exact False.elim hq
theorem pe_methG {pl : Sem Bool} (he : PE X o ta) (c : Cls X.K C) (hm : Meth X.K C m f) (F : FnG X.prog X.w X.K X.mg X.base CX k f fd ps sp) (hr : RoomG k X.A) (hb : Binds X.K fd ps []) (hx : ∀ σ, PassesAt CX X σ (E σ)) (ha : PA X (e :: es) t)
    (hst : starEach (e :: es) X.env = (false, eval e X.env) :: starEach es X.env := by rfl) (hpl : (backTo pos (starEach es X.env)).any (·.1) = false := by rfl)
    (ht : eval (.Call (.Attribute o m apos) (e :: es) [] pos) X.env = (do
      let ov ← eval o X.env
      standAt apos.atName
      let (f, first) ← holding [ov] (getMethod ov m pl)
      callWith pos f first (backTo pos (starEach (e :: es) X.env)) (backToKw pos (keywordEach [] X.env))) := by rfl) :
    PE X (.Call (.Attribute o m apos) (e :: es) [] pos) (tMethS C m sp E ta t) := by
  refine ⟨fun pins s σ H Q I h => ?_⟩
  refine PySem.W.methodCall_KW (pl := pl) (thn (he.run pins s σ H _ I h) fun u s1 ⟨x, H1, I1, rx, a, dx, fs, ex, ea, l, q⟩ => ?_) ht
  subst ex
  obtain rfl : u = Value.ref a := rx
  refine getmeth_ok I1 ea c hm l ?_
  refine PySem.W.callWith_K (first := [.ref a]) (h₀ := X.base) I.ok.mod.kin hm.kp (thn (ha.run pos pins s1 σ H1 _ I1 q) fun us s2 ⟨vs, H2, I2, r, q2⟩ => ⟨I2.kIn, ?_⟩) hst hpl
  exact run_G (us := .ref a :: us) (vs := .ref a :: vs) F hr hb hx I2 (.cons rfl r) q2
theorem pe_methG0 {pl : Sem Bool} (he : PE X o ta) (c : Cls X.K C) (hm : Meth X.K C m f) (F : FnG X.prog X.w X.K X.mg X.base CX k f fd ps sp) (hr : RoomG k X.A) (hb : Binds X.K fd ps []) (hx : ∀ σ, PassesAt CX X σ (E σ))
    (ht : eval (.Call (.Attribute o m apos) [] [] pos) X.env = (do
      let ov ← eval o X.env
      standAt apos.atName
      let (f, first) ← holding [ov] (getMethod ov m pl)
      callWith pos f first (backTo pos (starEach [] X.env)) (backToKw pos (keywordEach [] X.env))) := by rfl) :
    PE X (.Call (.Attribute o m apos) [] [] pos) (tMethS C m sp E ta tNil) := by
  refine ⟨fun pins s σ H Q I h => ?_⟩
  refine PySem.W.methodCall_KW (pl := pl) (thn (he.run pins s σ H _ I h) fun u s1 ⟨x, H1, I1, rx, a, dx, fs, ex, ea, l, q⟩ => ?_) ht
  subst ex
  obtain rfl : u = Value.ref a := rx
  refine getmeth_ok I1 ea c hm l ?_
  exact PySem.W.callWith_K0 (first := [.ref a]) I1.kIn hm.kp (run_G (us := [.ref a]) (vs := [.ref a]) F hr hb hx I1 (.cons rfl .nil) q)
/-- what is raised within a new instance's __init__ -/
theorem run_makeG {pins : List (Addr × Obj)} {σ : L2.St} {H : Hp} {s : Shared} {Q : VK} {us : List Value} {vs : List V} (M : Mk X.K C f) (F : FnG X.prog X.w X.K X.mg X.base CX k f fd ps sp) (hr : RoomG (k + 1) X.A) (hb : Binds X.K fd ps [])
    (hx : ∀ σ, PassesAt CX X σ (E σ)) (I : Inv X pins σ H s) (r : Vals vs us)
    (h : ∀ x dx, H x = none → H dx = none → dx ≠ x → sp (.ref x :: vs) (upd (upd H dx (.own x)) x (.ins C dx [])) (fun v H2 => v = .non ∧ Q (.ref x) H2) (E σ)) :
    wpAny (model X.prog X.w) X.A (call (.ref C) us) (EP X pins σ Q) X.xe s := by
  have hq := h (s.heap.objs.size + 1) s.heap.objs.size (I.hok.fresh (Nat.le_succ _)) (I.hok.fresh (Nat.le_refl _)) (Nat.ne_of_lt (Nat.lt_succ_self _))
  have I2 := Inv.made (C := C) I
  have r2 : Vals (V.ref (s.heap.objs.size + 1) :: vs) (Value.ref (s.heap.objs.size + 1) :: us) := .cons rfl r
  have hl : (Value.ref (s.heap.objs.size + 1) :: us ++ []).length = ps.length := by
    rw [List.append_nil, ← r2.length]
    exact F.len _ _ _ _ hq
  have b := hb _ (Value.ref (s.heap.objs.size + 1) :: us) I2.kIn hl
  rw [List.append_nil] at b
  refine wpAny_call (make_map (f := f) I.kIn M.makes M.init (beq_iff_eq.mp M.fn) (codeAny_mono (F.run _ X.stack _ _ ⟨Value.ref (s.heap.objs.size + 1) :: us, []⟩ (Value.ref (s.heap.objs.size + 1) :: us) _ _ (E σ) (hr.make C us [])
    (I2.env0.make C us []) b r2 hq) fun r s' hq' => ?_))
  match r, hq' with
  | .error e, hq' => exact hx σ pins _ _ e s' I2 hq'
  | .ok (.ret u), hq' =>
    obtain ⟨v, H', I3, rv, ev, q3⟩ := I2.after hq'
    subst ev
    exact ⟨rv, ⟨V.ref (s.heap.objs.size + 1), H', I3, rfl, q3⟩⟩
  | .ok .next, hq' => exact False.elim hq'
  | .ok .brk, hq' => exact False.elim hq'
  | .ok .cont, hq' => exact False.elim hq'
theorem pe_makeG (M : Mk X.K C f) (F : FnG X.prog X.w X.K X.mg X.base CX k f fd ps sp) (hr : RoomG (k + 1) X.A) (hg : Gl X x) (hm : X.mg x = some (.ref C)) (hb : Binds X.K fd ps []) (hx : ∀ σ, PassesAt CX X σ (E σ))
    (ha : PA X (e :: es) t) (hdb : (x == ("__debug__" : Str)) = false := by decide) (he : starEach (e :: es) X.env = (false, eval e X.env) :: starEach es X.env := by rfl) (hpl : (backTo pos (starEach es X.env)).any (·.1) = false := by rfl) :
    PE X (.Call (.Name x p) (e :: es) [] pos) (tMakeS C sp E t) := by
  refine ⟨fun pins s σ H Q I h => ?_⟩
  refine wpAny_Call_Name_kw (ld_glob I hg hm ?_ hdb)
  refine PySem.W.callWith_K (h₀ := X.base) I.ok.mod.kin M.kp (thn (ha.run pos pins s σ H _ I h) fun us s1 ⟨vs, H1, I1, r, q⟩ => ⟨I1.kIn, ?_⟩) he hpl
  exact run_makeG M F hr hb hx I1 r q
end
/-- a method that may be called -/
structure CalM (P : Program) (w : World) (K : PySem.W.Frag) (mg : Str → Option Value) (base : Heap) (k : Nat) (cn : String) (m : Str) (n : Nat) (ts : TSpec) : Prop where
  ex : ∃ C f fd ps, ClsAt K cn C ∧ Cls K C ∧ Meth K C m f ∧ ps.length = n ∧ FnG P w K mg base (L2N.CX P w) k f fd ps (toSp K n ts) ∧ Binds K fd ps []
  hl : ∀ args PQ PX, ts args PQ PX → args.length = n
  no : m ∉ clsFields cn
/-- a class of which instances may be made -/
structure CalI (P : Program) (w : World) (K : PySem.W.Frag) (mg : Str → Option Value) (base : Heap) (k : Nat) (cn : String) (n : Nat) (ts : TSpec) : Prop where
  ex : ∃ C f fd ps, mg (Str.ofString cn) = some (.ref C) ∧ ClsAt K cn C ∧ Mk K C f ∧ ps.length = n ∧ FnG P w K mg base (L2N.CX P w) k f fd ps (toSp K n ts) ∧ Binds K fd ps []
  hl : ∀ args PQ PX, ts args PQ PX → args.length = n
theorem CalM.mono {P : Program} {w : World} {K : PySem.W.Frag} {mg : Str → Option Value} {base : Heap} {j k n : Nat} {cn : String} {m : Str} {ts : TSpec} (c : CalM P w K mg base j cn m n ts) (h : j ≤ k) : CalM P w K mg base k cn m n ts := by
  obtain ⟨C, f, fd, ps, h1, h2, h3, h4, F, h5⟩ := c.ex
  exact ⟨⟨C, f, fd, ps, h1, h2, h3, h4, F.mono h, h5⟩, c.hl, c.no⟩
structure DefM (K : PySem.W.Frag) (cn : String) (m : Str) (qual : Str) (st : Stmt) (ps : List Str) : Prop where
  ex : ∃ C f fd, ClsAt K cn C ∧ Cls K C ∧ Meth K C m f ∧ Fun K m qual st f fd ∧ Binds K fd ps []
structure DefI (K : PySem.W.Frag) (mg : Str → Option Value) (cn : String) (qual : Str) (st : Stmt) (ps : List Str) : Prop where
  ex : ∃ C f fd, mg (Str.ofString cn) = some (.ref C) ∧ ClsAt K cn C ∧ Mk K C f ∧ Fun K "__init__" qual st f fd ∧ Binds K fd ps []
section
variable {P : Program} {w : World} {K : PySem.W.Frag} {mg : Str → Option Value} {base : Heap}
theorem calM_of {cn : String} {m qual : Str} {st : Stmt} {N ps : List Str} {k : Nat} {ts : TSpec} {wb : WS} (Df : DefM K cn m qual st ps) (S : FnScope N ps (defScope st)) (hl : ∀ args PQ PX, ts args PQ PX → args.length = ps.length)
    (hb : ∀ (f : Addr) (B : Base) (cdv : Value) (A : Around) (outer : List Env) (s : Shared) (H : Hp) (E : XK), RoomG k (A.deeper (envOfC qual (defScope st) s.heap.objs.size f cdv)) → PSsT B (cxOf (L2N.CX P w) P w K mg base N qual (defScope st) f cdv A outer s H E) (defBody st) wb)
    (hw : ∀ args PQ PX, ts args PQ PX → wb (fnX args PX) (start0 N.length args) (fnD args PQ)) (no : m ∉ clsFields cn) : CalM P w K mg base (k + 1) cn m ps.length ts := by
  obtain ⟨C, f, fd, h1, h2, h3, F, hbi⟩ := Df.ex
  exact ⟨⟨C, f, fd, ps, h1, h2, h3, rfl, fnG F S hl (hb f) hw, hbi⟩, hl, no⟩
theorem calI_of {cn : String} {qual : Str} {st : Stmt} {N ps : List Str} {k : Nat} {ts : TSpec} {wb : WS} (Df : DefI K mg cn qual st ps) (S : FnScope N ps (defScope st)) (hl : ∀ args PQ PX, ts args PQ PX → args.length = ps.length)
    (hb : ∀ (f : Addr) (B : Base) (cdv : Value) (A : Around) (outer : List Env) (s : Shared) (H : Hp) (E : XK), RoomG k (A.deeper (envOfC qual (defScope st) s.heap.objs.size f cdv)) → PSsT B (cxOf (L2N.CX P w) P w K mg base N qual (defScope st) f cdv A outer s H E) (defBody st) wb)
    (hw : ∀ args PQ PX, ts args PQ PX → wb (fnX args PX) (start0 N.length args) (fnD args PQ)) : CalI P w K mg base (k + 1) cn ps.length ts := by
  obtain ⟨C, f, fd, h1, h2, h3, F, hbi⟩ := Df.ex
  exact ⟨⟨C, f, fd, ps, h1, h2, h3, rfl, fnG F S hl (hb f) hw, hbi⟩, hl⟩
end
/-- a callee's end, as the caller wants it -/
theorem call_ends {B : Base} {X : Cx} {W : TX} {ts : TSpec} {as : List AV} {t1 : TSt} {P Q : R → TSt → Prop} {QV : VK} {σ : L2.St} {g0 g1 : Gh} {vs : List V} {H1 : Hp} {n : Nat} (rl1 : Rel X.K B g1 t1 σ H1) (av : AVs X.K g1.F σ as vs) (hl : ∀ args PQ PX, ts args PQ PX → args.length = n)
    (m1 : goCall ts as t1 W P) (s1 : Same g0.F g1.F) (kk : ∀ r t', P r t' → ∀ g' v H', Same g0.F g'.F → Rel X.K B g' t' σ H' → ResRel X.K B g' H' r v → QV v H') :
    toSp X.K n ts vs H1 QV (L2.WE (wxOf X.K B W) σ) := by
  obtain ⟨nd, hres⟩ := m1
  obtain ⟨args, hres, hts⟩ : ∃ args, resA as t1 = some args ∧ ts args (fun r outs => P r (putA as outs t1)) (fun cls pay outs => W cls pay (putA as outs t1)) := by
    split at hres
    · rename_i args h; exact ⟨args, h, hres⟩
    · exact hres.elim
  obtain ⟨fp, ar, hf⟩ := args_of rl1 nd hres av
  refine ⟨by rw [ar.len]; exact hl _ _ _ hts, g1.F, args, fp, _, _, rl1.sub, ar, hts, fun r outs hq v F' H' fp' po rr => ?_, fun nm pay outs hx cls hcl d F' H' fp' po pr => ?_⟩
  · obtain ⟨ow', rl2, ho⟩ := rel_post rl1 nd hres av hf ar po
    refine kk _ _ hq ⟨F', ow'⟩ v H' (s1.trans po.up) rl2 ?_
    cases r with
    | v d => exact rr
    | own c =>
      obtain ⟨a, l, rfl, cr, n, hh⟩ := rr
      refine ⟨a, l, rfl, cr, n, fun b hb => ⟨?_, (hh b hb).1, rl1.dom b (hh b hb).2.1⟩⟩
      refine Classical.byContradiction fun z => ?_
      rcases ho b z with w | w
      · exact (hh b hb).2.2 w
      · cases q : g1.ow b with
        | none => exact w q
        | some i =>
          obtain ⟨u, hu⟩ := rl1.there b i q
          rw [(hh b hb).2.1] at hu; cases hu
  · obtain ⟨ow', rl2, _⟩ := rel_post rl1 nd hres av hf ar po
    exact ⟨nm, hcl, ⟨F', ow'⟩, _, pay, rl2, pr, hx⟩
section
variable {B : Base} {X : Cx} {e o : Expr} {es : List Expr} {we : WE} {wa : WAA} {pos pos' apos p : Pos} {cn : String} {m x : Str} {k n : Nat} {ts : TSpec}
theorem no_field {gs : List (Str × V)} {ks : List Str} (h : KsOk cn ks) (e : gs.map (·.1) = ks) (no : m ∉ clsFields cn) : gs.lookup m = none := lookup_out fun z => no (h.2 m (by rw [← e]; exact z))
/-- what a receiver that is data is -/
theorem recv {W : TX} {b : WAA} {σ : L2.St} {H : Hp} {QV : VK} {C : Addr} {mm : Str} {tq : Hp → V → Prop} (hC : ClsAt X.K cn C) (no : mm ∉ clsFields cn) (h : tOf X.K B (wMeth cn ts we b W) σ H QV)
    (hk : ∀ (g g1 : Gh) t1 P o v1 H1, Same g.F g1.F → Rel X.K B g1 t1 σ H1 → Rep X.K g1.F o v1 → (b W t1 fun as t2 => goCall ts (.inl o :: as) t2 W P) → (∀ r t', P r t' → ∀ g' v H', Same g.F g'.F → Rel X.K B g' t' σ H' → ResRel X.K B g' H' r v → QV v H') → tq H1 v1) :
    tOf X.K B (we W) σ H fun x H1 => ∃ a dx fs, x = .ref a ∧ H1 a = some (.ins C dx fs) ∧ fs.lookup mm = none ∧ tq H1 x := by
  obtain ⟨g, t, P, rl, m, kk⟩ := h
  refine ⟨g, t, _, rl, m, fun r1 t1 m1 g1 v1 H1 s1 rl1 rr1 => ?_⟩
  unfold fz at m1
  split at m1
  · rename_i dx hx
    obtain ⟨F2, s2, rl2, rp⟩ := rr1.freeze rl1 hx
    obtain ⟨o, ho, m2⟩ := oP_get m1
    unfold objX at ho
    split at ho
    · split at ho
      · rename_i z
        subst z
        cases ho
        have rp' := rp
        cases rp with
        | obj hc ha hd ks rf =>
          cases hc.eq hC
          exact ⟨_, _, _, rfl, rl2.sub _ _ ha, no_field ks rf.keys no, hk g ⟨F2, g1.ow⟩ t1 P _ _ H1 (s1.trans s2) rl2 rp' m2 kk⟩
      · cases ho
    · cases ho
  · exact m1.elim
theorem T_meth (c : CalM X.prog X.w X.K X.mg X.base k cn m n ts) (hr : RoomG k X.A) {pl : Sem Bool} (ho : PET B X o we) (ha : PAAT B X (e :: es) wa)
    (hst : starEach (e :: es) X.env = (false, eval e X.env) :: starEach es X.env := by rfl) (hpl : (backTo pos (starEach es X.env)).any (·.1) = false := by rfl)
    (ht : eval (.Call (.Attribute o m apos) (e :: es) [] pos) X.env = (do
      let ov ← eval o X.env
      standAt apos.atName
      let (f, first) ← holding [ov] (getMethod ov m pl)
      callWith pos f first (backTo pos (starEach (e :: es) X.env)) (backToKw pos (keywordEach [] X.env))) := by rfl) :
    PET B X (.Call (.Attribute o m apos) (e :: es) [] pos) (wMeth cn ts we wa) := by
  obtain ⟨C, f, fd, ps, hC, hc, hm, rfl, F, hb⟩ := c.ex
  refine fun W tk => PE.imp (pe_methG (pl := pl) (ho W tk) hc hm F hr hb (fun σ => L2N.passAt tk σ) (ha W tk) hst hpl ht) fun σ H Q q => ?_
  refine recv hC c.no q fun g g1 t1 P o v1 H1 s1 rl1 rp m2 kk => ?_
  refine ⟨g1, t1, _, rl1, m2, fun as t3 m3 g3 vs H3 s3 rl3 av => ?_⟩
  exact call_ends (g0 := g) (Q := P) rl3 (.v (rp.up s3) av) c.hl m3 (s1.trans s3) kk
/-- the receiver in a slot -/
theorem recvR {W : TX} {b : WAA} {i : Nat} {σ : L2.St} {H : Hp} {QV : VK} {C : Addr} {mm : Str} {tq : Hp → V → Prop} (hC : ClsAt X.K cn C) (no : mm ∉ clsFields cn) (h : tOf X.K B (wMethR cn ts i b W) σ H QV)
    (hk : ∀ (g : Gh) t P v, Rel X.K B g t σ H → σ[i]? = some (some v) → (b W t fun as t2 => goCall ts (.inr i :: as) t2 W P) → (∀ r t', P r t' → ∀ g' v H', Same g.F g'.F → Rel X.K B g' t' σ H' → ResRel X.K B g' H' r v → QV v H') → tq H v) :
    ∃ v, σ[i]? = some (some v) ∧ ∃ a dx fs, v = .ref a ∧ H a = some (.ins C dx fs) ∧ fs.lookup mm = none ∧ tq H v := by
  obtain ⟨g, t, P, rl, m, kk⟩ := h
  obtain ⟨fs, hfs, m⟩ := withO_get (show withO (insAt cn t i) _ from m)
  obtain ⟨a, fp, h1, h2, _⟩ := cell_at rl (ins_at hfs)
  cases h2 with
  | ins hc e1 e2 ks r =>
    cases hc.eq hC
    exact ⟨_, h1, _, _, _, rfl, e1, no_field ks r.keys no, hk g t P _ rl h1 m kk⟩
theorem T_methR (i : Nat) (c : CalM X.prog X.w X.K X.mg X.base k cn m n ts) (hr : RoomG k X.A) {pl : Sem Bool} (ha : PAAT B X (e :: es) wa)
    (hN : X.N[i]? = some x := by rfl) (hv : Vis X.env.scope x := by first | exact Or.inl rfl | exact Or.inr (Or.inl rfl) | exact Or.inr (Or.inr rfl)) (hd : (x == ("__debug__" : Str)) = false := by rfl) (hcd : (x == ("__classdict__" : Str)) = false := by rfl)
    (hst : starEach (e :: es) X.env = (false, eval e X.env) :: starEach es X.env := by rfl) (hpl : (backTo pos (starEach es X.env)).any (·.1) = false := by rfl)
    (ht : eval (.Call (.Attribute (.Name x pos') m apos) (e :: es) [] pos) X.env = (do
      let ov ← eval (.Name x pos') X.env
      standAt apos.atName
      let (f, first) ← holding [ov] (getMethod ov m pl)
      callWith pos f first (backTo pos (starEach (e :: es) X.env)) (backToKw pos (keywordEach [] X.env))) := by rfl) :
    PET B X (.Call (.Attribute (.Name x pos') m apos) (e :: es) [] pos) (wMethR cn ts i wa) := by
  obtain ⟨C, f, fd, ps, hC, hc, hm, rfl, F, hb⟩ := c.ex
  refine fun W tk => PE.imp (pe_methG (pl := pl) (pe_var hN hv hd hcd) hc hm F hr hb (fun σ => L2N.passAt tk σ) (ha W tk) hst hpl ht) fun σ H Q q => ?_
  refine recvR (tq := fun H1 x => aaOf X.K B (wa W) σ H1 fun vs H2 => toSp X.K ps.length ts (x :: vs) H2 Q (L2.WE (wxOf X.K B W) σ)) hC c.no q fun g t P v rl hσ m2 kk => ?_
  refine ⟨g, t, _, rl, m2, fun as t3 m3 g3 vs H3 s3 rl3 av => ?_⟩
  exact call_ends (g0 := g) (Q := P) rl3 (.r hσ av) c.hl m3 s3 kk
theorem T_methR0 (i : Nat) (c : CalM X.prog X.w X.K X.mg X.base k cn m n ts) (hr : RoomG k X.A) {pl : Sem Bool}
    (hN : X.N[i]? = some x := by rfl) (hv : Vis X.env.scope x := by first | exact Or.inl rfl | exact Or.inr (Or.inl rfl) | exact Or.inr (Or.inr rfl)) (hd : (x == ("__debug__" : Str)) = false := by rfl) (hcd : (x == ("__classdict__" : Str)) = false := by rfl)
    (ht : eval (.Call (.Attribute (.Name x pos') m apos) [] [] pos) X.env = (do
      let ov ← eval (.Name x pos') X.env
      standAt apos.atName
      let (f, first) ← holding [ov] (getMethod ov m pl)
      callWith pos f first (backTo pos (starEach [] X.env)) (backToKw pos (keywordEach [] X.env))) := by rfl) :
    PET B X (.Call (.Attribute (.Name x pos') m apos) [] [] pos) (wMethR cn ts i aNil) := by
  obtain ⟨C, f, fd, ps, hC, hc, hm, rfl, F, hb⟩ := c.ex
  refine fun W tk => PE.imp (pe_methG0 (pl := pl) (pe_var hN hv hd hcd) hc hm F hr hb (fun σ => L2N.passAt tk σ) ht) fun σ H Q q => ?_
  refine recvR (tq := fun H1 x => toSp X.K ps.length ts [x] H1 Q (L2.WE (wxOf X.K B W) σ)) hC c.no q fun g t P v rl hσ m2 kk => ?_
  exact call_ends (g0 := g) (Q := P) rl (.r hσ .nil) c.hl m2 sRefl kk
end
end TL
namespace TL
open PySem PySem.Spec PyProof.Rows L2
theorem Rel.keep {K : PySem.W.Frag} {B : Base} {g : Gh} {t : TSt} {σ : L2.St} {H F' H' : Hp} (r : Rel K B g t σ H) (up : Same g.F F') (sub : Same F' H') (k : ∀ a o, H a = some o → H' a = some o ∧ (g.F a = none → F' a = none)) (dm : Dm H F' H') : Rel K B ⟨F', g.ow⟩ t σ H' := by
  refine ⟨r.base.trans up, sub, fun a o e => ?_, fun a o e n => ?_, r.ft, ⟨fun a e => r.dom a (dm.dom a e), dm.tf⟩, fun a i e => ?_, r.len, fun i s e => (r.slot i s e).up up fun b q => ⟨q, ?_⟩⟩
  · show g.ow a = none
    cases q : g.ow a with
    | none => rfl
    | some i =>
      obtain ⟨u, hu⟩ := r.there a i q
      have e : F' a = some o := e
      rw [(k a u hu).2 (r.fNone q)] at e; cases e
  · obtain ⟨h1, h2, h3⟩ := r.old a o e n
    exact ⟨(k a o h1).1, h2, fun z => (k a o h1).2 (h3 z)⟩
  · obtain ⟨u, hu⟩ := r.there a i e
    exact ⟨u, (k a u hu).1⟩
  · obtain ⟨u, hu⟩ := r.there b i q
    rw [hu]; exact (k b u hu).1
section
variable {B : Base} {X : Cx} {e : Expr} {es : List Expr} {wa : WAA} {pos p : Pos} {cn : String} {k n : Nat} {ts : TSpec} {C : Addr}
theorem make_ends {W : TX} {as : List AV} {t1 : TSt} {P : R → TSt → Prop} {QV : VK} {σ : L2.St} {g0 g1 : Gh} {vs : List V} {H1 : Hp} (rl1 : Rel X.K B g1 t1 σ H1) (av : AVs X.K g1.F σ as vs) (hl : ∀ args PQ PX, ts args PQ PX → args.length = n) (hC : ClsAt X.K cn C)
    (m1 : goMake cn ts as t1 W P) (s1 : Same g0.F g1.F) (kk : ∀ r t', P r t' → ∀ g' v H', Same g0.F g'.F → Rel X.K B g' t' σ H' → ResRel X.K B g' H' r v → QV v H') (x dx : Addr) (nx : H1 x = none) (ndx : H1 dx = none) (ne : dx ≠ x) :
    toSp X.K n ts (.ref x :: vs) (upd (upd H1 dx (.own x)) x (.ins C dx [])) (fun v H2 => v = .non ∧ QV (.ref x) H2) (L2.WE (wxOf X.K B W) σ) := by
  obtain ⟨r0, hres⟩ := m1
  obtain ⟨args, hres, hts⟩ := withO_get hres
  obtain ⟨l1, l2, l3⟩ := resA_at hres
  obtain ⟨H2, eH⟩ : ∃ H2, H2 = upd (upd H1 dx (.own x)) x (.ins C dx []) := ⟨_, rfl⟩
  rw [← eH]
  have hx : H2 x = some (.ins C dx []) := by rw [eH, upd_same]
  have hd : H2 dx = some (.own x) := by rw [eH, upd_ne ne, upd_same]
  have ho : ∀ a, a ≠ x → a ≠ dx → H2 a = H1 a := fun a z z' => by rw [eH, upd_ne z, upd_ne z']
  have up12 : ∀ a o, H1 a = some o → H2 a = some o := fun a o e => by
    rw [ho a (by rintro rfl; rw [nx] at e; cases e) (by rintro rfl; rw [ndx] at e; cases e)]; exact e
  have dn : ∀ a, H2 a = none → H1 a = none := fun a e => by
    rw [← ho a (by rintro rfl; rw [hx] at e; cases e) (by rintro rfl; rw [hd] at e; cases e)]; exact e
  obtain ⟨fp, f0, fs⟩ : ∃ fp : Nat → List Addr, fp 0 = [x, dx] ∧ ∀ i, fp (i + 1) = [] := ⟨fun i => if i = 0 then [x, dx] else [], rfl, fun i => rfl⟩
  have inf : ∀ b, InF fp b ↔ b = x ∨ b = dx := fun b => by
    constructor
    · rintro ⟨i, hi⟩
      cases i with
      | zero => rw [f0] at hi; simpa using hi
      | succ i => rw [fs] at hi; cases hi
    · rintro (rfl | rfl)
      · exact ⟨0, by rw [f0]; simp⟩
      · exact ⟨0, by rw [f0]; simp⟩
  have noref : ∀ (i : Nat) (c : Cell), args[i]? ≠ some (.ref c) := fun i c z => by
    obtain ⟨j, hj, _⟩ := l3 i c z
    have := mem_refsA.mpr ⟨i, hj⟩
    rw [r0] at this; cases this
  have tf2 : ∀ a xs, H2 a = some (.tup xs) → g1.F a = some (.tup xs) := fun a xs e => by
    by_cases z : a = x
    · subst z; rw [hx] at e; cases e
    · by_cases z' : a = dx
      · subst z'; rw [hd] at e; cases e
      · rw [ho a z z'] at e; exact rl1.tf a xs e
  have ar : ArgsRel X.K g1.F H2 (.ref (.ins cn []) :: args) (.ref x :: vs) fp := by
    refine ⟨by rw [List.length_cons, List.length_cons, av.len, l1], fun i d hi => ?_, fun i c hi => ?_, fun i hi => ?_, fun i j b h h' => ?_, fun i b h => ?_, tf2⟩
    · cases i with
      | zero => cases hi
      | succ i =>
        obtain ⟨v, hv, r⟩ := av.val (l2 i d hi)
        exact ⟨v, hv, r⟩
    · cases i with
      | zero =>
        cases hi
        refine ⟨x, rfl, ?_, ?_⟩
        · rw [f0]; exact .ins hC hx hd ⟨List.nodup_nil, nofun⟩ .nil
        · rw [f0]; exact List.nodup_cons.mpr ⟨fun z => ne (List.mem_singleton.mp z).symm, List.nodup_cons.mpr ⟨List.not_mem_nil, List.nodup_nil⟩⟩
      | succ i => exact absurd hi (noref i c)
    · cases i with
      | zero => exact absurd rfl (hi (.ins cn []))
      | succ i => exact fs i
    · cases i with
      | zero => cases j with
        | zero => rfl
        | succ j => rw [fs] at h'; cases h'
      | succ i => rw [fs] at h; cases h
    · rcases (inf b).mp ⟨i, h⟩ with rfl | rfl
      · exact rl1.fnone nx
      · exact rl1.fnone ndx
  have relK : ∀ {outs F' H' fp'}, Post X.K g1.F H2 (.ref (.ins cn []) :: args) (.ref x :: vs) fp outs F' H' fp' → Rel X.K B ⟨F', g1.ow⟩ t1 σ H' := fun {outs F' H' fp'} po => by
    refine rl1.keep po.up po.sub (fun a o e => ?_) ⟨fun a e => dn a (po.dom a e), po.dm.tf⟩
    refine po.keep a o (up12 a o e) fun z => ?_
    rcases (inf a).mp z with rfl | rfl
    · rw [nx] at e; cases e
    · rw [ndx] at e; cases e
  refine ⟨by rw [List.length_cons, av.len, ← l1]; exact hl _ _ _ hts, g1.F, _, fp, _, _, fun a o e => up12 a o (rl1.sub a o e), ar, hts, fun r outs hq v F' H' fp' po rr => ?_, fun nm pay outs hx cls hcl d F' H' fp' po pr => ⟨nm, hcl, ⟨F', g1.ow⟩, t1, pay, relK po, pr, hx⟩⟩
  obtain ⟨c, rfl, rfl, hq⟩ : ∃ c, r = .v .non ∧ outs = [c] ∧ P (.own c) t1 := by
    unfold madeR at hq
    split at hq
    · exact ⟨_, rfl, rfl, hq⟩
    · exact hq.elim
  cases (show Rep X.K F' .non v from rr)
  obtain ⟨a, c', hv, oc, cr, nd⟩ := po.out 0 (.ins cn []) rfl
  cases hv
  cases oc
  refine ⟨rfl, kk _ _ hq ⟨F', g1.ow⟩ (.ref x) H' (s1.trans po.up) (relK po) ⟨x, fp' 0, rfl, cr, nd, fun b hb => ?_⟩⟩
  obtain ⟨z1, z2⟩ := po.new 0 b hb
  have hn : H1 b = none := by
    rcases z2 with z | z
    · rcases (inf b).mp z with rfl | rfl
      · exact nx
      · exact ndx
    · exact dn b z
  refine ⟨?_, z1, rl1.dom b hn⟩
  cases q : g1.ow b with
  | none => rfl
  | some i =>
    obtain ⟨u, hu⟩ := rl1.there b i q
    rw [hn] at hu; cases hu
theorem T_make (c : CalI X.prog X.w X.K X.mg X.base k cn n ts) (hr : RoomG (k + 1) X.A) (ha : PAAT B X (e :: es) wa) (hg : Gl X (Str.ofString cn) := by rfl) (hdb : ((Str.ofString cn) == ("__debug__" : Str)) = false := by rfl) (he : starEach (e :: es) X.env = (false, eval e X.env) :: starEach es X.env := by rfl) (hpl : (backTo pos (starEach es X.env)).any (·.1) = false := by rfl) :
    PET B X (.Call (.Name (Str.ofString cn) p) (e :: es) [] pos) (wMake cn ts wa) := by
  obtain ⟨C, f, fd, ps, hm, hC, M, rfl, F, hb⟩ := c.ex
  refine fun W tk => PE.imp (pe_makeG M F hr hg hm hb (fun σ => L2N.passAt tk σ) (ha W tk) hdb he hpl) fun σ H Q q => ?_
  obtain ⟨g, t, P, rl, m, kk⟩ := q
  exact ⟨g, t, _, rl, m, fun as t1 m1 g1 vs H1 s1 rl1 av x dx nx ndx ne => make_ends (g0 := g) rl1 av c.hl hC m1 s1 kk x dx nx ndx ne⟩
end
section
variable {B : Base} {X : Cx}
theorem N_divmod : CallT B X (.builtin "divmod") nDivmod := .mk fun pins s σ H xs us Q g t σ' ds P I rs rl r m k => by
  unfold nDivmod at m
  split at m
  · rename_i a b
    obtain ⟨d, hd, m2⟩ := oP_get m
    unfold divmodX at hd
    split at hd
    · split at hd
      · rename_i i j hij
        cases hd
        cases r with
        | cons r1 r => cases r with
          | cons r2 r => cases r with
            | nil =>
              cases (show RepH X.K g.F H (.int i) _ from r1).int_inv
              cases (show RepH X.K g.F H (.int j) _ from r2).int_inv
              refine L2.call_divmod pins s σ H _ us Q I rs ⟨i, j, rfl, hij, fun p hp => ?_⟩
              obtain ⟨sF, r'⟩ := rl.newF (o := .tup [.int (i / j), .int (i % j)]) hp
              exact k _ m2 ⟨_, g.ow⟩ (.ref p) _ sF r' (Rep.tup upd_same (.cons (.int _) (.cons (.int _) .nil)))
      · cases hd
    · cases hd
  · exact m.elim
end
theorem ints_get : ∀ {us : List Value} {ms : List Int} {j : Nat} {v : Value}, Vals (ms.map V.int) us → us[j]? = some v → ∃ t, v = .int (ms.getD j 0) t
  | _, [], j, v, h, hj => by cases h; simp at hj
  | _, m :: ms, j, v, h, hj => by
    cases h with
    | cons r rs =>
      cases j with
      | zero =>
        simp at hj; subst hj
        obtain ⟨t, e⟩ := r
        exact ⟨t, e⟩
      | succ j => exact ints_get (ms := ms) rs (by simpa using hj)
theorem truth_ints {prog : Program} {w : World} {A : Around} {ns : List Int} {its : List Value} (e : Vals (ns.map V.int) its) :
    TruthOf prog w A (fun i v => its.toArray[i]? = some v) (fun i => ns.getD i 0 != 0) := fun i v s Q E hv hq => by
  have hv' : its[i]? = some v := by simpa using hv
  obtain ⟨t, rfl⟩ := ints_get e hv'
  exact PySem.P.truthy_int hq
theorem any_range_i : ∀ ns : List Int, (List.range ns.length).any (fun i => ns.getD i 0 != 0) = ns.any fun x => x != 0
  | [] => rfl
  | n :: ns => by
    rw [List.length_cons, List.range_succ_eq_map, List.any_cons, List.any_map, List.any_cons, ← any_range_i ns]
    rfl
section
variable {B : Base} {X : Cx}
theorem N_anyT (hc : X.calm = true := by rfl) : CallT B X (.builtin "any") nAnyT := .mk fun pins s σ H xs us Q g t σ' ds P I rs rl r m k => by
  unfold nAnyT at m
  split at m
  · rename_i d
    obtain ⟨b, hb, m2⟩ := oP_get m
    unfold anyTX at hb
    split at hb
    · obtain ⟨ns, hn, rfl⟩ := Option.map_eq_some_iff.mp hb
      obtain ⟨v, rfl, r1⟩ := r.one
      obtain ⟨a, vs, rfl, ha, ra⟩ := r1.tup_inv rl.sub
      rw [ints_some hn] at ra
      rw [ra.ints] at ha
      obtain ⟨u, rfl, rv⟩ := vals1 rs
      cases (show u = .ref a from rv)
      obtain ⟨its, rvs, hl, _⟩ := I.tuple (.of ha)
      have hl : s.heap.IsTuple a its.toArray := hl
      have hlt : a < s.heap.objs.size := by obtain ⟨o, e, _⟩ := hl; exact Heap.lt_size e
      have ne : a ≠ s.heap.objs.size := Nat.ne_of_lt hlt
      refine call_any_walk (wpAny_pyIter_tuple hl ⟨_, _, _, _, _, _, _, rfl, Walks.tuple (A := X.A.in1) (I.ok.hd hc) _ a ne its.toArray, ⟨⟨_, Heap.get?_push_size _ rfl, rfl, rfl⟩, hl.push _⟩, truth_ints rvs, fun h' tk hk => ?_⟩)
      refine ⟨.bl _, H, I.kept fun b o eo => hk b o (fun hmem => ?_) (Heap.get?_push_of_some _ eo), ?_, k _ m2 g _ H sRefl rl (Rep.bl _)⟩
      · rcases List.mem_cons.mp hmem with e1 | hmem
        · exact absurd (e1 ▸ Heap.lt_size eo) (Nat.lt_irrefl _)
        · cases hmem
      · show Value.bool _ = Value.bool _
        congr 1
        have len : its.length = ns.length := by have := rvs.length; rw [List.length_map] at this; exact this.symm
        rw [List.size_toArray, len]
        exact any_range_i ns
    · cases hb
  · exact m.elim
end
end TL
namespace TL
open PySem PySem.Spec PyProof.Rows L2
theorem Vals.fm {xs : List V} {us : List Value} (r : Vals xs us) : ∀ is : List Nat, Vals (is.filterMap (xs[·]?)) (is.filterMap (us[·]?))
  | [] => .nil
  | i :: is => by
    have hg : ∀ {xs : List V} {us : List Value}, Vals xs us → ∀ i : Nat, (xs[i]? = none ∧ us[i]? = none) ∨ ∃ x u, xs[i]? = some x ∧ us[i]? = some u ∧ RelV x u := by
      intro xs us r
      induction r with
      | nil => exact fun i => .inl ⟨rfl, rfl⟩
      | cons r t ih =>
        intro i
        cases i with
        | zero => exact .inr ⟨_, _, rfl, rfl, r⟩
        | succ i => exact ih i
    rw [List.filterMap_cons, List.filterMap_cons]
    rcases hg r i with ⟨h1, h2⟩ | ⟨x, u, h1, h2, h3⟩
    · rw [h1, h2]; exact Vals.fm r is
    · rw [h1, h2]; exact .cons h3 (Vals.fm r is)
theorem Reps.fm {K : PySem.W.Frag} {F : Hp} {ds : List D} {vs : List V} (r : Reps K F ds vs) : ∀ is : List Nat, Reps K F (is.filterMap (ds[·]?)) (is.filterMap (vs[·]?))
  | [] => .nil
  | i :: is => by
    have hg : ∀ {ds : List D} {vs : List V}, Reps K F ds vs → ∀ i : Nat, (ds[i]? = none ∧ vs[i]? = none) ∨ ∃ x u, ds[i]? = some x ∧ vs[i]? = some u ∧ Rep K F x u := by
      intro ds
      induction ds with
      | nil => intro vs r i; cases r; exact .inl ⟨rfl, rfl⟩
      | cons d ds ih =>
        intro vs r i
        cases r with
        | cons r t =>
          cases i with
          | zero => exact .inr ⟨_, _, rfl, rfl, r⟩
          | succ i => exact ih t i
    rw [List.filterMap_cons, List.filterMap_cons]
    rcases hg r i with ⟨h1, h2⟩ | ⟨x, u, h1, h2, h3⟩
    · rw [h1, h2]; exact Reps.fm r is
    · rw [h1, h2]; exact .cons h3 (Reps.fm r is)
end TL
namespace TL
open PySem PySem.Spec PyProof.Rows L2
open PySem.W (EachIs AllAlike Sortable dataLe SortsAt)
section
variable {prog : Program} {w : World} {A : Around} {E : Value → Shared → Prop} {s : Shared} {α : Type} {R : Value → α → Prop} {enc : α → PyData} {vs : List Value} {bs : List α}
end
end TL
namespace TL
open PySem PySem.Spec PyProof.Rows L2
section
variable {K : PySem.W.Frag} {F F' H : Hp}
mutual
/-- flat data hangs on tuples alone -/
theorem Rep.dn (s : ∀ a xs, F a = some (.tup xs) → F' a = some (.tup xs)) : ∀ {d : D} {v : V}, Rep K F d v → d.flat = true → Rep K F' d v
  | _, _, .non, _ => .non
  | _, _, .bl b, _ => .bl b
  | _, _, .int i, _ => .int i
  | _, _, .str x, _ => .str x
  | _, _, .ty x, _ => .ty x
  | _, _, .ref h, _ => .ref h
  | _, _, .exc h q, z => nomatch z
  | _, _, .cl h, _ => .cl h
  | _, _, .tup h r, z => .tup (s _ _ h) (Reps.dn s r z)
  | _, _, .lst h r, z => nomatch z
  | _, _, .scr h r, z => nomatch z
  | _, _, .dctK h r, z => nomatch z
  | _, _, .dctT h r, z => nomatch z
  | _, _, .obj c h q k r, z => nomatch z
theorem Reps.dn (s : ∀ a xs, F a = some (.tup xs) → F' a = some (.tup xs)) : ∀ {ds : List D} {vs : List V}, Reps K F ds vs → D.flatL ds = true → Reps K F' ds vs
  | _, _, .nil, _ => .nil
  | _, _, .cons h r, z => by
    unfold D.flatL at z
    have z := Bool.and_eq_true_iff.mp z
    exact .cons (Rep.dn s h z.1) (Reps.dn s r z.2)
end
theorem FsRel.frz (sF : Same F F') : ∀ {fs : List (Str × FV)} {gs : List (Str × V)} {fp : List Addr}, FsRel K F H fs gs fp → (∀ b ∈ fp, F' b = H b) → RepF K F' (fsZ fs) gs
  | _, _, _, .nil, _ => .nil
  | _, _, _, .v r t, k => .cons (r.up sF) (FsRel.frz sF t k)
  | _, _, _, .l e r t, k => .cons (.lst ((k _ List.mem_cons_self).trans e) (r.up sF)) (FsRel.frz sF t fun b hb => k b (List.mem_cons_of_mem _ hb))
  | _, _, _, .dK e r t, k => .cons (.dctK ((k _ List.mem_cons_self).trans e) (r.up sF)) (FsRel.frz sF t fun b hb => k b (List.mem_cons_of_mem _ hb))
  | _, _, _, .dT e r t, k => .cons (.dctT ((k _ List.mem_cons_self).trans e) (r.up sF)) (FsRel.frz sF t fun b hb => k b (List.mem_cons_of_mem _ hb))
theorem FsRel.noTup : ∀ {fs : List (Str × FV)} {gs : List (Str × V)} {fp : List Addr}, FsRel K F H fs gs fp → ∀ b ∈ fp, ∃ o, H b = some o ∧ ∀ xs, o ≠ .tup xs
  | _, _, _, .nil, _, hb => nomatch hb
  | _, _, _, .v r t, b, hb => FsRel.noTup t b hb
  | _, _, _, .l e r t, b, hb => by
    rcases List.mem_cons.mp hb with rfl | hb
    · exact ⟨_, e, fun xs z => by cases z⟩
    · exact FsRel.noTup t b hb
  | _, _, _, .dK e r t, b, hb => by
    rcases List.mem_cons.mp hb with rfl | hb
    · exact ⟨_, e, fun xs z => by cases z⟩
    · exact FsRel.noTup t b hb
  | _, _, _, .dT e r t, b, hb => by
    rcases List.mem_cons.mp hb with rfl | hb
    · exact ⟨_, e, fun xs z => by cases z⟩
    · exact FsRel.noTup t b hb
theorem CellRel.noTup {n : String} {fs : List (Str × FV)} {a : Addr} {fp : List Addr} (x : CellRel K F H (.ins n fs) a fp) : ∀ b ∈ fp, ∃ o, H b = some o ∧ ∀ xs, o ≠ .tup xs := by
  intro b hb
  cases x with
  | ins c e1 e2 ks r =>
    rcases List.mem_cons.mp hb with rfl | hb
    · exact ⟨_, e1, fun xs z => by cases z⟩
    · rcases List.mem_cons.mp hb with rfl | hb
      · exact ⟨_, e2, fun xs z => by cases z⟩
      · exact FsRel.noTup r b hb
theorem CellRel.frz {n : String} {fs : List (Str × FV)} {a : Addr} {fp : List Addr} (x : CellRel K F H (.ins n fs) a fp) (sF : Same F F') (k : ∀ b ∈ fp, F' b = H b) : Rep K F' (frzI n fs) (.ref a) := by
  cases x with
  | ins c e1 e2 ks r =>
    refine .obj c ((k _ List.mem_cons_self).trans e1) ((k _ (List.mem_cons_of_mem _ List.mem_cons_self)).trans e2) (by unfold fsZ; rw [List.map_map]; exact ks) (r.frz sF fun b hb => k b (List.mem_cons_of_mem _ (List.mem_cons_of_mem _ hb)))
end
theorem nrK_no : ∀ {as : List Arg} {p : Prop}, nrK as p → p ∧ ∀ (i : Nat) (c : Cell), as[i]? ≠ some (.ref c)
  | [], p, h => ⟨h, fun i c z => by simp at z⟩
  | .v d :: as, p, h => by
    obtain ⟨h1, h2⟩ := nrK_no (as := as) h
    refine ⟨h1, fun i c z => ?_⟩
    cases i with
    | zero => simp at z
    | succ i => exact h2 i c (by simpa using z)
  | .ref _ :: _, p, h => h.elim
open Classical in
theorem vw_sp {K : PySem.W.Frag} {n : Nat} {ts : TSpec} {vs : List V} {H : Hp} {Q : VK} {E : XK} (h : toSp K n (vwT ts) vs H Q E) : toSp K n ts vs H Q E := by
  obtain ⟨len, F, args, fp, PQ, PX, sF, ar, hts, hq, hx⟩ := h
  unfold vwT at hts
  split at hts
  · rename_i cn fs as
    obtain ⟨hts, nr⟩ := nrK_no hts
    obtain ⟨a, hv0, cr, nd⟩ := ar.cel 0 _ rfl
    have nt := cr.noTup
    have fpS : ∀ i, fp (i + 1) = [] := fun i => ar.non (i + 1) fun c z => nr i c (by simpa using z)
    have inf : ∀ b, InF fp b ↔ b ∈ fp 0 := fun b => by
      constructor
      · rintro ⟨i, hi⟩
        cases i with
        | zero => exact hi
        | succ i => rw [fpS] at hi; cases hi
      · exact fun h => ⟨0, h⟩
    have fre : ∀ b ∈ fp 0, F b = none := fun b hb => ar.fre 0 b hb
    obtain ⟨F2, eF2⟩ : ∃ F2 : Hp, F2 = fun b => if b ∈ fp 0 then H b else F b := ⟨_, rfl⟩
    have f2in : ∀ b ∈ fp 0, F2 b = H b := fun b hb => by rw [eF2]; exact if_pos hb
    have f2out : ∀ b, b ∉ fp 0 → F2 b = F b := fun b hb => by rw [eF2]; exact if_neg hb
    have s12 : Same F F2 := fun b u e => by
      rw [f2out b fun z => by rw [fre b z] at e; cases e]; exact e
    have s2H : Same F2 H := fun b u e => by
      by_cases z : b ∈ fp 0
      · rw [f2in b z] at e; exact e
      · rw [f2out b z] at e; exact sF b u e
    have ar2 : ArgsRel K F2 H (.v (frzI cn fs) :: as) vs (fun _ => []) := by
      refine ⟨by have := ar.len; simpa using this, fun i d hi => ?_, fun i c hi => ?_, fun i hi => rfl, fun i j b h => (nomatch h), fun i b h => (nomatch h), fun b xs e => s12 _ _ (ar.tf b xs e)⟩
      · cases i with
        | zero =>
          cases hi
          exact ⟨_, hv0, cr.frz s12 f2in⟩
        | succ i =>
          obtain ⟨v, hv, r⟩ := ar.val (i + 1) d hi
          exact ⟨v, hv, r.up s12⟩
      · cases i with
        | zero => cases hi
        | succ i => exact absurd hi (nr i c)
    refine ⟨len, F2, _, _, _, _, s2H, ar2, hts, ?_, ?_⟩
    · rintro r outs hr v F' H' fp' po rr
      have key : ∃ F3 : Hp, (∀ b xs, F' b = some (.tup xs) → F3 b = some (.tup xs)) ∧ Post K F H (.ref (.ins cn fs) :: as) vs fp (.ins cn fs :: outs) F3 H' fp := by
        refine ⟨fun b => if b ∈ fp 0 then none else F' b, fun b xs e => ?_, ?_⟩
        · dsimp only
          rw [if_neg fun z => ?_]
          · exact e
          · obtain ⟨o, ho, hn⟩ := nt b z
            have := po.up b o ((f2in b z).trans ho)
            rw [e] at this
            exact hn xs (Option.some.inj this).symm
        · have inE : ∀ b, ¬ InF (fun _ : Nat => ([] : List Addr)) b := fun b ⟨i, z⟩ => nomatch z
          refine ⟨fun b u e => ?_, fun b u e => ?_, fun b u e hb => ?_, ⟨po.dom, fun b xs e => ?_⟩, fun i c hi => ?_, fun i hi => ar.non i hi, ar.dis, fun i b hb => ⟨?_, .inl ⟨i, hb⟩⟩⟩
          · show (if b ∈ fp 0 then none else F' b) = _
            rw [if_neg fun z => by rw [fre b z] at e; cases e]
            exact po.up _ _ (s12 _ _ e)
          · have e' : (if b ∈ fp 0 then none else F' b) = some u := e
            split at e'
            · cases e'
            · exact po.sub _ _ e'
          · have hb' : b ∉ fp 0 := fun z => hb ((inf b).mpr z)
            obtain ⟨k1, k2⟩ := po.keep b u e (inE b)
            refine ⟨k1, fun z => ?_⟩
            show (if b ∈ fp 0 then none else F' b) = _
            rw [if_neg hb']
            exact k2 ((f2out b hb').trans z)
          · show (if b ∈ fp 0 then none else F' b) = _
            have e2 := po.dm.tf b xs e
            rw [if_neg fun z => ?_]
            · exact e2
            · obtain ⟨o, ho, hn⟩ := nt b z
              have := po.up b o ((f2in b z).trans ho)
              rw [e2] at this
              exact hn xs (Option.some.inj this).symm
          · cases i with
            | zero =>
              cases hi
              refine ⟨a, .ins cn fs, hv0, rfl, cr.up (fun b u e => ?_) (fun b hb => ?_), nd⟩
              · show (if b ∈ fp 0 then none else F' b) = _
                rw [if_neg fun z => by rw [fre b z] at e; cases e]
                exact po.up _ _ (s12 _ _ e)
              · obtain ⟨o, ho, _⟩ := nt b hb
                rw [ho]
                exact (po.keep b o ho (inE b)).1
            | succ i => exact absurd hi (nr i c)
          · show (if b ∈ fp 0 then none else F' b) = _
            cases i with
            | zero => exact if_pos hb
            | succ i => rw [fpS] at hb; cases hb
      obtain ⟨F3, k3, po3⟩ := key
      cases r with
      | v d =>
        obtain ⟨_, hf, hr⟩ := oP_get (show oP (flatX d) _ from hr)
        have hf' : d.flat = true := by
          unfold flatX at hf
          split at hf
          · assumption
          · cases hf
        exact hq _ _ hr v F3 H' fp po3 (Rep.dn k3 rr hf')
      | own c => exact hr.elim
    · rintro nm pay outs ⟨rfl, hr⟩ cls hcl d F' H' fp' po pr
      have key : ∃ F3 : Hp, Post K F H (.ref (.ins cn fs) :: as) vs fp (.ins cn fs :: outs) F3 H' fp := by
        refine ⟨fun b => if b ∈ fp 0 then none else F' b, ?_⟩
        have inE : ∀ b, ¬ InF (fun _ : Nat => ([] : List Addr)) b := fun b ⟨i, z⟩ => nomatch z
        refine ⟨fun b u e => ?_, fun b u e => ?_, fun b u e hb => ?_, ⟨po.dom, fun b xs e => ?_⟩, fun i c hi => ?_, fun i hi => ar.non i hi, ar.dis, fun i b hb => ⟨?_, .inl ⟨i, hb⟩⟩⟩
        · show (if b ∈ fp 0 then none else F' b) = _
          rw [if_neg fun z => by rw [fre b z] at e; cases e]
          exact po.up _ _ (s12 _ _ e)
        · have e' : (if b ∈ fp 0 then none else F' b) = some u := e
          split at e'
          · cases e'
          · exact po.sub _ _ e'
        · have hb' : b ∉ fp 0 := fun z => hb ((inf b).mpr z)
          obtain ⟨k1, k2⟩ := po.keep b u e (inE b)
          refine ⟨k1, fun z => ?_⟩
          show (if b ∈ fp 0 then none else F' b) = _
          rw [if_neg hb']
          exact k2 ((f2out b hb').trans z)
        · show (if b ∈ fp 0 then none else F' b) = _
          have e2 := po.dm.tf b xs e
          rw [if_neg fun z => ?_]
          · exact e2
          · obtain ⟨o, ho, hn⟩ := nt b z
            have := po.up b o ((f2in b z).trans ho)
            rw [e2] at this
            exact hn xs (Option.some.inj this).symm
        · cases i with
          | zero =>
            cases hi
            refine ⟨a, .ins cn fs, hv0, rfl, cr.up (fun b u e => ?_) (fun b hb => ?_), nd⟩
            · show (if b ∈ fp 0 then none else F' b) = _
              rw [if_neg fun z => by rw [fre b z] at e; cases e]
              exact po.up _ _ (s12 _ _ e)
            · obtain ⟨o, ho, _⟩ := nt b hb
              rw [ho]
              exact (po.keep b o ho (inE b)).1
          | succ i => exact absurd hi (nr i c)
        · show (if b ∈ fp 0 then none else F' b) = _
          cases i with
          | zero => exact if_pos hb
          | succ i => rw [fpS] at hb; cases hb
      obtain ⟨F3, po3⟩ := key
      cases pr with
      | no => exact hx nm none _ hr cls hcl none F3 H' fp po3 .no
  · exact hts.elim
theorem FnG.imp {P : Program} {w : World} {K : PySem.W.Frag} {mg : Str → Option Value} {base : Heap} {CX : CXT} {k : Nat} {f : Addr} {fd : FuncData} {ps : List Str} {sp sp' : Sp} (F : FnG P w K mg base CX k f fd ps sp) (h : ∀ vs H Q E, sp' vs H Q E → sp vs H Q E) :
    FnG P w K mg base CX k f fd ps sp' :=
  ⟨fun vs H Q E q => F.len vs H Q E (h vs H Q E q), fun A outer s H args us vs Q E hr e0 hb r q => F.run A outer s H args us vs Q E hr e0 hb r (h vs H Q E q)⟩
theorem vw_len {ts : TSpec} {n : Nat} (hl : ∀ args PQ PX, ts args PQ PX → args.length = n) : ∀ args PQ PX, vwT ts args PQ PX → args.length = n := fun args PQ PX h => by
  unfold vwT at h
  split at h
  · have := hl _ _ _ (nrK_no h).1
    simpa using this
  · exact h.elim
theorem CalG.vw {P : Program} {w : World} {K : PySem.W.Frag} {mg : Str → Option Value} {base : Heap} {k n : Nat} {x : Str} {ts : TSpec} (c : CalG P w K mg base k x n ts) : CalG P w K mg base k x n (vwT ts) := by
  obtain ⟨f, fd, ps, h1, F, h2⟩ := c.ex
  exact ⟨⟨f, fd, ps, h1, F.imp fun _ _ _ _ => vw_sp, h2⟩, vw_len c.hl⟩
theorem CalM.vw {P : Program} {w : World} {K : PySem.W.Frag} {mg : Str → Option Value} {base : Heap} {k n : Nat} {cn : String} {m : Str} {ts : TSpec} (c : CalM P w K mg base k cn m n ts) : CalM P w K mg base k cn m n (vwT ts) := by
  obtain ⟨C, f, fd, ps, h1, h2, h3, h4, F, h5⟩ := c.ex
  exact ⟨⟨C, f, fd, ps, h1, h2, h3, h4, F.imp fun _ _ _ _ => vw_sp, h5⟩, vw_len c.hl, c.no⟩
end TL
namespace TL
open PySem PySem.Spec PyProof.Rows L2
section
variable {K : PySem.W.Frag} {F H H' : Hp}
/-- what field f holds is changed where it stands -/
theorem FsRel.set {f : Str} {v v' : FV} {y : V} {fv : List Addr} (hv : FvRel K F H v y fv) (hv' : FvRel K F H' v' y fv) (ho : ∀ b, b ∉ fv → H' b = H b) : ∀ {fs : List (Str × FV)} {gs : List (Str × V)} {fp : List Addr}, FsRel K F H fs gs fp → fp.Nodup →
    fs.lookup f = some v → gs.lookup f = some y → FsRel K F H' (putFV f v' fs) gs fp
  | [], _, _, h, _, e, _ => by cases e
  | (g, w) :: fs, _, _, h, nd, e, e2 => by
    obtain ⟨y', gs', fw, fp', rfl, rfl, r, t⟩ := h.inv
    rw [lookup_cons] at e
    have e2' : List.lookup f ((g, y') :: gs') = some y := e2
    rw [lookup_cons] at e2'
    obtain ⟨m1, m2, m3⟩ := List.nodup_append.mp nd
    show FsRel K F H' (if g = f then (g, v') :: fs else (g, w) :: putFV f v' fs) ((g, y') :: gs') (fw ++ fp')
    by_cases hgf : g = f
    · rw [if_pos hgf.symm] at e e2'
      cases e; cases e2'
      rw [if_pos hgf]
      have ef : fw = fv := r.fpEq hv
      subst ef
      exact FsRel.add hv' (t.up sRefl fun b hb => ho b fun z => m3 b z b hb rfl)
    · rw [if_neg fun z => hgf z.symm] at e e2'
      rw [if_neg hgf]
      obtain ⟨x, fx, l1, l2, l3⟩ := FsRel.look t e
      rw [e2'] at l1; cases l1
      have ef : fx = fv := l2.fpEq hv
      subst ef
      have t' := FsRel.set hv hv' ho t m2 e e2'
      refine FsRel.add ?_ t'
      have ho' : ∀ b ∈ fw, H' b = H b := fun b hb => ho b fun z => m3 b hb b (l3 b z) rfl
      cases r with
      | v rp => exact .v rp
      | l e rs => exact .l ((ho' _ List.mem_cons_self).trans e) rs
      | dK e rs => exact .dK ((ho' _ List.mem_cons_self).trans e) rs
      | dT e rs => exact .dT ((ho' _ List.mem_cons_self).trans e) rs
/-- the object of field f of the instance that slot i holds -/
theorem fcell_at {B : Base} {g : Gh} {t : TSt} {σ : L2.St} {i : Nat} {n : String} {fs : List (Str × FV)} {f : Str} {v : FV} (rl : Rel K B g t σ H) (h : insAt n t i = some fs) (hl : fs.lookup f = some v) (hf : f ∈ clsFields n) :
    ∃ a C dx gs y fv, σ[i]? = some (some (.ref a)) ∧ ClsAt K n C ∧ H a = some (.ins C dx gs) ∧ gs.lookup f = some y ∧ FvRel K g.F H v y fv ∧ gs.length < 1000 ∧
      ∀ v' H', FvRel K g.F H' v' y fv → (∀ b, b ∉ fv → H' b = H b) → (∀ b xs, H' b = some (.tup xs) → H b = some (.tup xs)) → Rel K B g (setCell t i (.ins n (putFV f v' fs))) σ H' := by
  obtain ⟨a, fp, h1, h2, h3, h4, kk⟩ := cell_at rl (ins_at h)
  cases h2 with
  | @ins _ C dx _ _ gs fpi hc e1 e2 ks r =>
    obtain ⟨y, fv, l1, l2, l3⟩ := r.look hl
    refine ⟨a, C, dx, gs, y, fv, h1, hc, e1, l1, l2, ?_, fun v' H' hv' ho ht => ?_⟩
    · have := ks.few
      rw [← r.keys, List.length_map] at this
      exact this
    · obtain ⟨n1, n2⟩ := List.nodup_cons.mp h3
      obtain ⟨n3, n4⟩ := List.nodup_cons.mp n2
      have na : a ∉ fv := fun z => n1 (List.mem_cons_of_mem _ (l3 a z))
      have nx : dx ∉ fv := fun z => n3 (l3 dx z)
      refine kk _ (a :: dx :: fpi) _ (.ins hc ((ho a na).trans e1) ((ho dx nx).trans e2) (KsOk.put (f := n) ks hf) (FsRel.set l2 hv' ho r n4 hl l1)) h3 h4 (fun b hb => ho b fun z => ?_) (fun b hb => ?_) ht
      · have := h4 b (List.mem_cons_of_mem _ (List.mem_cons_of_mem _ (l3 b z)))
        exact hb this
      · by_cases z : b ∈ fv
        · exfalso
          cases hv' with
          | v _ => cases z
          | l e _ => rw [List.mem_singleton.mp z] at hb; rw [e] at hb; cases hb
          | dK e _ => rw [List.mem_singleton.mp z] at hb; rw [e] at hb; cases hb
          | dT e _ => rw [List.mem_singleton.mp z] at hb; rw [e] at hb; cases hb
        · rw [← ho b z]; exact hb
theorem FvRel.repH {v : FV} {y : V} {fv : List Addr} (h : FvRel K F H v y fv) : RepH K F H v.z y := by
  cases h with
  | v r => exact .rep r
  | l e r => exact .lst e r
  | dK e r => exact .dctK e r
  | dT e r => exact .dctT e r
end
/-- == of a dict and an empty one -/
theorem same_empty {prog : Program} {w : World} {A : Around} {E : Value → Shared → Prop} {s : Shared} {nm : String} {a b : Addr} {oa ob : Obj} {es : Array DictEntry} {ep ep' : Nat} {Q : Bool → Shared → Prop} (ha : (a == sysModules) = false) (hb : (b == sysModules) = false)
    (hoa : s.heap.get? a = some oa) (hda : oa.data = .dict es ep) (hob : s.heap.get? b = some ob) (hdb : ob.data = .dict #[] ep') (h : Q (decide (es.size = 0)) s) :
    wpAny (model prog w) A (Builtin.Dict.samePairs nm a b) Q E s := by
  unfold Builtin.Dict.samePairs Builtin.Dict.showsAll
  rw [if_neg (show ¬ (a == sysModules) = true by rw [ha]; exact Bool.false_ne_true), if_neg (show ¬ (b == sysModules) = true by rw [hb]; exact Bool.false_ne_true)]
  refine wpAny_bind (wpAny_pure (wpAny_bind (wpAny_pure ?_)))
  refine wpAny_bind (wpAny_dictEntries hoa hda ?_)
  dsimp only
  refine wpAny_bind (wpAny_dictEntries hob hdb ?_)
  by_cases hsz : es.size = 0
  case neg =>
    rw [if_pos (by simpa using hsz)]
    rw [decide_eq_false hsz] at h
    exact wpAny_bind (wpAny_rule (wpAny_pure h))
  case pos =>
    rw [decide_eq_true hsz] at h
    rw [if_neg (by rw [hsz]; simp)]
    refine wpAny_bind (wpAny_dictEpoch hoa hda ?_)
    refine wpAny_bind ?_
    rw [Std.Legacy.Range.forIn_eq_forIn_range']
    simp only [Std.Legacy.Range.size, Nat.sub_zero, Nat.add_sub_cancel, Nat.div_one]
    rw [hsz]
    exact wpAny_pure (wpAny_pure h)
theorem eq_empty {prog : Program} {w : World} {A : Around} {E : Value → Shared → Prop} {s : Shared} {a b : Addr} {oa ob : Obj} {es : Array DictEntry} {ep ep' : Nat} {Q : Value → Shared → Prop} (ha : (a == sysModules) = false) (hb : (b == sysModules) = false)
    (hoa : s.heap.get? a = some oa) (xa : oa.ExactDict) (hda : oa.data = .dict es ep) (hob : s.heap.get? b = some ob) (xb : ob.ExactDict) (hdb : ob.data = .dict #[] ep') (hu : A.units < cLine) (h : Q (.bool (decide (es.size = 0))) s) :
    wpAny (model prog w) A (compareOp .Eq (.ref a) (.ref b)) Q E s := by
  have ta : s.TypeIs (.ref a) "dict" := ⟨oa, hoa, xa.1⟩
  have tb : s.TypeIs (.ref b) "dict" := ⟨ob, hob, xb.1⟩
  refine wpAny_richCompare_same_room (op := .Eq) ta tb PySem.F.slot_dict_eq (wpAny_call_entry PySem.F.slot_dict_eq ta PySem.F.entry_dict_eq ?_ (PySem.F.args_dict_eq_2 _ _)) hu
  show wpAny _ _ (Builtin.Dict.dictSlotArgs "__eq__" ⟨[.ref a, .ref b], []⟩ >>= _) _ _ s
  refine wpAny_bind ?_
  unfold Builtin.Dict.dictSlotArgs
  refine wpAny_bind (wpAny_notOrdered_dict ta ?_)
  show wpAny _ _ (pure (Value.ref a, Value.ref b)) _ _ s
  refine wpAny_pure ?_
  refine wpAny_bind (wpAny_isInstance (T := "dict") tb PySem.F.sub_dict_dict ?_)
  simp only [Bool.not_true, Bool.false_eq_true, if_false]
  refine wpAny_bind (wpAny_pure (wpAny_bind (wpAny_pure ?_)))
  refine wpAny_bind (same_empty ha hb hoa hda hob hdb ?_)
  refine wpAny_pure ⟨_, rfl, ?_, ?_⟩
  · exact fun x => nomatch x
  · simpa using h
/-- what an object that is a dict of the layer is -/
theorem dict_obj {P : Program} {w : World} {H : Hp} {h : Heap} {a : Addr} {n : Nat} (x : (∃ kvs : List (Key × V), ObjOk P w H h a (.dK kvs) ∧ kvs.length = n) ∨ ∃ kvs : List (List Key × V), ObjOk P w H h a (.dT kvs) ∧ kvs.length = n) :
    (a == sysModules) = false ∧ ∃ o es ep, h.get? a = some o ∧ o.ExactDict ∧ o.data = .dict es ep ∧ es.size = n := by
  rcases x with ⟨kvs, ⟨_, hs, vs, r, o, es, ep, ho, xo, hd, _, hp, _⟩, hn⟩ | ⟨kvs, ⟨_, hs, xs, hp, o, es, ep, ho, xo, hd, he, _⟩, hn⟩
  · refine ⟨hs, o, es, ep, ho, xo, hd, ?_⟩
    have h1 := hp.length
    have h2 := r.length
    rw [Array.length_toList] at h1
    omega
  · refine ⟨hs, o, es, ep, ho, xo, hd, ?_⟩
    have h1 : es.toList.length = xs.length := by rw [he, List.length_map]
    have h2 := Paired.length hp
    rw [Array.length_toList] at h1
    omega
def rEqE : R2 := fun x y H Q => ∃ a b n, x = .ref a ∧ y = .ref b ∧ ((∃ kvs, H a = some (.dK kvs) ∧ kvs.length = n) ∨ ∃ kvs, H a = some (.dT kvs) ∧ kvs.length = n) ∧ H b = some (.dK []) ∧ Q (.bl (decide (n = 0))) H
theorem op_eqE {X : Cx} (hu : X.A.units < cLine) : OpR X (compareOp .Eq) rEqE := by
  intro pins s σ H x y v u Q I rx ry h
  obtain ⟨a, b, n, rfl, rfl, ha, hb, q⟩ := h
  obtain rfl : v = Value.ref a := rx
  obtain rfl : u = Value.ref b := ry
  obtain ⟨sa, oa, es, ep, h1, h2, h3, h4⟩ := dict_obj (n := n) (P := X.prog) (w := X.w) (H := H) (h := s.heap) (a := a) (by
    rcases ha with ⟨kvs, e, l⟩ | ⟨kvs, e, l⟩
    · exact .inl ⟨kvs, I.hok a _ e, l⟩
    · exact .inr ⟨kvs, I.hok a _ e, l⟩)
  obtain ⟨sb, ob, es', ep', k1, k2, k3, k4⟩ := dict_obj (n := 0) (P := X.prog) (w := X.w) (H := H) (h := s.heap) (a := b) (.inl ⟨[], I.hok b _ hb, rfl⟩)
  have : es' = #[] := Array.eq_empty_of_size_eq_zero k4
  subst this
  exact eq_empty sa sb h1 h2 h3 k1 k2 k3 hu (fin_bl I q (by rw [h4]))
section
variable {B : Base} {X : Cx} {e : Expr} {we : WE} {pos pos' pos2 pos3 apos : Pos} {n : String} {f x y : Str}
/-- name.f[key] -/
theorem T_fsub (i j : Nat) (ct : ClsT X.K X.mg n) (hf : f ∈ clsFields n) (hu : X.A.units + 1 < cLine) (hN : X.N[i]? = some x := by rfl) (hv : Vis X.env.scope x := by first | exact Or.inl rfl | exact Or.inr (Or.inl rfl) | exact Or.inr (Or.inr rfl)) (hd : (x == ("__debug__" : Str)) = false := by rfl) (hcd : (x == ("__classdict__" : Str)) = false := by rfl)
    (hN2 : X.N[j]? = some y := by rfl) (hv2 : Vis X.env.scope y := by first | exact Or.inl rfl | exact Or.inr (Or.inl rfl) | exact Or.inr (Or.inr rfl)) (hd2 : (y == ("__debug__" : Str)) = false := by rfl) (hcd2 : (y == ("__classdict__" : Str)) = false := by rfl)
    (hb : attributeBase (.Name x pos') f X.env (eval (.Name x pos') X.env) = eval (.Name x pos') X.env := by rfl) (hs : PlainIx (.Name y pos3) := by exact fun _ _ => rfl) : PET B X (.Subscript (.Attribute (.Name x pos') f apos) (.Name y pos3) pos) (wFSub n i f j) := by
  obtain ⟨C, c1, c2, c3, c4⟩ := ct.ex
  refine fun W tk => PE.imp (pe_ix (X_get (B := B) hu) (pe_fld (pe_var hN hv hd hcd) hb) (pe_var hN2 hv2 hd2 hcd2) hs) fun σ H Q h => ?_
  obtain ⟨g, t, P, rl, m, k⟩ := h
  obtain ⟨fs, hfs, m⟩ := withO_get (show withO (insAt n t i) _ from m)
  obtain ⟨key, hk, m⟩ := withO_get (show withO (vAt t j) _ from m)
  obtain ⟨d, hd', m⟩ := oP_get m
  unfold getFX at hd'
  split at hd'
  · rename_i kk l hl
    split at hd'
    · rename_i hik
      obtain ⟨a, C', dx, gs, yv, fv, h1, h2, h3, h4, h5, _, _⟩ := fcell_at rl hfs hl hf
      cases h2.eq c2
      obtain ⟨kv, hkv, rk⟩ : ∃ kv, σ[j]? = some (some kv) ∧ Rep X.K g.F key kv := by
        unfold vAt at hk
        split at hk
        · rename_i z hz
          cases hk
          exact rl.slot j _ hz
        · cases hk
      refine ⟨_, h1, a, _, dx, gs, yv, rfl, h3, c3, c4 f hf, h4, kv, hkv, g, t, σ, _, key, _, rl, h5.repH, .rep rk, ?_, fun r m5 g5 v5 H5 s5 rl5 rr5 => k r t m5 g5 v5 H5 s5 rl5 rr5⟩
      show D.isKey kk key = true ∧ _
      exact ⟨hik, by rw [hd']; exact m⟩
    · cases hd'
  · cases hd'
/-- name.f[key] = e -/
theorem S_fput (i j : Nat) (ct : ClsT X.K X.mg n) (hf : f ∈ clsFields n) (hu : X.A.units + 1 < cLine) (hval : PET B X e we) (hN : X.N[i]? = some x := by rfl) (hv : Vis X.env.scope x := by first | exact Or.inl rfl | exact Or.inr (Or.inl rfl) | exact Or.inr (Or.inr rfl)) (hd : (x == ("__debug__" : Str)) = false := by rfl) (hcd : (x == ("__classdict__" : Str)) = false := by rfl)
    (hN2 : X.N[j]? = some y := by rfl) (hv2 : Vis X.env.scope y := by first | exact Or.inl rfl | exact Or.inr (Or.inl rfl) | exact Or.inr (Or.inr rfl)) (hd2 : (y == ("__debug__" : Str)) = false := by rfl) (hcd2 : (y == ("__classdict__" : Str)) = false := by rfl)
    (hb : attributeBase (.Name x pos') f X.env (eval (.Name x pos') X.env) = eval (.Name x pos') X.env := by rfl)
    (ha : ∀ v, assign (.Subscript (.Attribute (.Name x pos') f apos) (.Name y pos3) pos2) X.env v = (do
      let ov ← holding [v] (eval (.Attribute (.Name x pos') f apos) X.env)
      let iv ← holding [v, ov] (eval (.Name y pos3) X.env)
      standAt pos2
      holding [v, ov, iv] (setItem ov iv v)
      release [v, ov, iv] []) := by intro _; rfl)
    (hs : swapsWithSole [.Subscript (.Attribute (.Name x pos') f apos) (.Name y pos3) pos2] e pos.line X.env = pure false := by rfl) (hw : swappedStores [.Subscript (.Attribute (.Name x pos') f apos) (.Name y pos3) pos2] e X.env = pure none := by rfl)
    (h1 : (assignEach [.Subscript (.Attribute (.Name x pos') f apos) (.Name y pos3) pos2] X.env).map (·.2) = [assign (.Subscript (.Attribute (.Name x pos') f apos) (.Name y pos3) pos2) X.env] := by rfl) :
    PST B X (.Assign [.Subscript (.Attribute (.Name x pos') f apos) (.Name y pos3) pos2] e pos) (wFPut n i f j we) := by
  obtain ⟨C, c1, c2, c3, c4⟩ := ct.ex
  refine fun W tk => PS.imp (ps_asg (hval W tk) (pg_sub (pe_fld (pe_var hN hv hd hcd) hb) (pe_var hN2 hv2 hd2 hcd2) (set_any hu) ha) hs hw h1) fun D0 σ H q => ?_
  obtain ⟨g, t, P, rl, m, kn, _⟩ := q
  refine ⟨g, t, _, rl, m, fun r1 t1 m1 g1 v1 H1 s1 rl1 rr1 => ?_⟩
  unfold fz at m1
  split at m1
  · rename_i d hd'
    obtain ⟨F2, s2, rl2, rp⟩ := rr1.freeze rl1 hd'
    obtain ⟨fs, hfs, m1⟩ := withO_get (show withO (insAt n t1 i) _ from m1)
    obtain ⟨key, hk, m1⟩ := withO_get (show withO (vAt t1 j) _ from m1)
    obtain ⟨fs', hd'', m1⟩ := oP_get m1
    unfold setFX at hd''
    split at hd''
    · rename_i kk l hl
      split at hd''
      · rename_i hik
        obtain ⟨hik, hsz⟩ := hik
        cases hd''
        obtain ⟨a, C', dx, gs, yv, fv, h1, h2, h3, h4, h5, _, put⟩ := fcell_at rl2 hfs hl hf
        cases h2.eq c2
        obtain ⟨kv, hkv, rk⟩ : ∃ kv, σ[j]? = some (some kv) ∧ Rep X.K F2 key kv := by
          unfold vAt at hk
          split at hk
          · rename_i z hz
            cases hk
            exact rl2.slot j _ hz
          · cases hk
        refine ⟨_, h1, a, _, dx, gs, yv, rfl, h3, c3, c4 f hf, h4, kv, hkv, .inl ?_⟩
        have key1 : ∃ b H', yv = .ref b ∧ DPut H1 b kv v1 H' ∧ Rel X.K B ⟨F2, g1.ow⟩ (setCell t1 i (.ins n (putFV f (.d kk (putD l key d)) fs))) σ H' := by
          cases h5 with
          | @dK _ b kvs e r =>
            have hi' : key.key?.isSome = true := hik
            obtain ⟨ky, hk'⟩ := Option.isSome_iff_exists.mp hi'
            rw [key_some hk'] at rk ⊢
            rw [rk.key]
            refine ⟨b, _, rfl, DPut.k e (by rw [r.length]; exact hsz), put _ _ (.dK upd_same (r.put ky rp)) (fun c hc => upd_ne fun z => hc (by rw [z]; exact List.mem_cons_self)) fun c xs hc => ?_⟩
            by_cases z : c = b
            · subst z; rw [upd_same] at hc; cases hc
            · rw [upd_ne z] at hc; exact hc
          | @dT _ b kvs e r =>
            cases key with
            | tup ls =>
              have hi' : (D.keys? ls).isSome = true := hik
              obtain ⟨ks, hk'⟩ := Option.isSome_iff_exists.mp hi'
              rw [keys_some hk'] at rk ⊢
              cases rk with
              | tup eb rb =>
                rw [rb.keys] at eb
                refine ⟨b, _, rfl, DPut.t e (rl2.sub _ _ eb) (by rw [r.length]; exact hsz), put _ _ (.dT upd_same (r.put ks rp)) (fun c hc => upd_ne fun z => hc (by rw [z]; exact List.mem_cons_self)) fun c xs hc => ?_⟩
                by_cases z : c = b
                · subst z; rw [upd_same] at hc; cases hc
                · rw [upd_ne z] at hc; exact hc
            | _ => cases hik
        obtain ⟨b, H', rfl, hp, rl3⟩ := key1
        exact ⟨b, H', rfl, hp, kn _ m1 ⟨F2, g1.ow⟩ σ H' (s1.trans s2) rl3⟩
      · cases hd''
    · cases hd''
  · exact m1.elim
end
end TL
namespace RT
open PySem PySem.Spec PyProof.Rows
section
variable {prog : Program} {w : World} {A : Around} {E : Value → Shared → Prop} {s : Shared} {T : String} {r d : Addr} {n : Nat} {P : Nat → Value → Prop} {OK : Heap → Prop}
end
section
open L2
variable {X : Cx}
end
end RT
namespace TL
open PySem PySem.Spec PyProof.Rows L2
section
variable {B : Base} {X : Cx} {e e2 : Expr} {wb wc : WE} {pos pos' p apos mpos : Pos} {x : Str}
end
end TL
namespace RT
open PySem PySem.Spec PyProof.Rows
section
variable {prog : Program} {w : World} {A : Around} {E : Value → Shared → Prop} {s : Shared} {l : Addr} {xs : Array (Int × Tok)}
end
end RT
namespace L2
open PySem PySem.Spec PyProof.Rows
end L2
namespace TL
open PySem PySem.Spec PyProof.Rows L2
end TL
namespace TL
open PySem PySem.Spec PyProof.Rows L2
section
variable {prog : Program} {w : World} {A : Around} {E : Value → Shared → Prop} {s : Shared}
end
end TL
namespace TL
open PySem PySem.Spec PyProof.Rows L2
section
variable {X : Cx} {x : Str} {c : Value} {body suite : List Stmt} {b₀ : Stmt} {np pos pos' : Pos} {tb : WX → TS} {ts : Addr → TS}
end
section
variable {B : Base} {X : Cx} {E : String} {body suite : List Stmt} {b₀ : Stmt} {np pos pos' : Pos} {u v : WS}
end
end TL
namespace TL
open PySem PySem.Spec PyProof.Rows L2
section
variable {B : Base} {X : Cx} {e : Expr} {we : WE} {pos pos' pos2 pos3 apos : Pos} {n : String} {f x y : Str}
/-- name.f == {} -/
theorem TT_femp (i : Nat) (ct : ClsT X.K X.mg n) (hf : f ∈ clsFields n) (hu : X.A.units + 1 < cLine) (hN : X.N[i]? = some x := by rfl) (hv : Vis X.env.scope x := by first | exact Or.inl rfl | exact Or.inr (Or.inl rfl) | exact Or.inr (Or.inr rfl)) (hd : (x == ("__debug__" : Str)) = false := by rfl) (hcd : (x == ("__classdict__" : Str)) = false := by rfl)
    (hb : attributeBase (.Name x pos') f X.env (eval (.Name x pos') X.env) = eval (.Name x pos') X.env := by rfl) (hm : behindInMarks .Eq (.Dict [] [] pos3) = false := by rfl) : PTT B X (.Compare (.Attribute (.Name x pos') f apos) [.Eq] [.Dict [] [] pos3] pos) (wTB (wFEmp n i f)) := by
  obtain ⟨C, c1, c2, c3, c4⟩ := ct.ex
  refine fun W tk => PT.imp (pt_cmpR (op_eqE (by omega)) (pe_fld (pe_var hN hv hd hcd) hb) pe_dnewK hm) fun σ H Q h => ?_
  obtain ⟨g, t, P, rl, m, k⟩ := h
  obtain ⟨fs, hfs, m⟩ := withO_get (show withO (insAt n t i) _ from m)
  obtain ⟨b, hb', m⟩ := oP_get m
  unfold empFX at hb'
  split at hb'
  · rename_i kk l hl
    cases hb'
    obtain ⟨a, C', dx, gs, yv, fv, h1, h2, h3, h4, h5, _, _⟩ := fcell_at rl hfs hl hf
    cases h2.eq c2
    refine ⟨_, h1, a, _, dx, gs, yv, rfl, h3, c3, c4 f hf, h4, fun p hp => ?_⟩
    obtain ⟨r1, o1, o2, o3⟩ := rl.newO (o := .dK []) hp
    have hne : ∀ b o, H b = some o → upd H p (.dK []) b = some o := fun b o e => by
      rw [upd_ne (ne_of_none e hp)]; exact e
    have fin : ∀ n, l.length = n → Q (decide (n = 0)) (upd H p (.dK [])) := fun n hn => by
      have : decide (n = 0) = l.isEmpty := by
        rw [← hn]; cases l <;> simp
      rw [this]
      exact k _ _ m g _ sRefl r1
    cases h5 with
    | dK e r => exact ⟨_, p, _, rfl, rfl, .inl ⟨_, hne _ _ e, rfl⟩, upd_same, _, rfl, fin _ (by rw [r.length])⟩
    | dT e r => exact ⟨_, p, _, rfl, rfl, .inr ⟨_, hne _ _ e, rfl⟩, upd_same, _, rfl, fin _ (by rw [r.length])⟩
  · cases hb'
end
end TL
namespace TL
open PySem PySem.Spec PyProof.Rows L2
/-- a, b = x, y where a name lives in a cell: the pair is made, then taken apart from the left -/
theorem ps_parC {X : Cx} {pos : Pos} {i j : Nat} {x y : Str} {a b : Expr} {ta : TA} {px py pt : Pos} {kt k2 pt2} (hc : X.calm = true) (hN : X.N.Nodup) (hi : X.N[i]? = some x) (hj : X.N[j]? = some y) (hij : i ≠ j)
    (hx : Loc X.env.scope x) (hy : Loc X.env.scope y) (hfx : X.fn x = true ∨ X.env.scope.names.lookup x = some .local) (hfy : X.fn y = true ∨ X.env.scope.names.lookup y = some .local) (ha : PA X [a, b] ta)
    (hw : swappedStores [.Tuple [.Name x px, .Name y py] kt pt] (.Tuple [a, b] k2 pt2) X.env = pure none)
    (hs : swapsWithSole [.Tuple [.Name x px, .Name y py] kt pt] (.Tuple [a, b] k2 pt2) pos.line X.env = pure false := by rfl) :
    PS X (.Assign [.Tuple [.Name x px, .Name y py] kt pt] (.Tuple [a, b] k2 pt2) pos) (tPar i j ta) := by
  refine ⟨fun pins s σ H D I h => ?_⟩
  refine wpAny_Assign_stores (Tuple_ (thn (ha.run _ pins s σ H _ I h) fun us s1 ⟨vs, H1, I1, r1, q1⟩ => ?_)) hs hw
  obtain ⟨v, w, e1, q1⟩ := q1
  subst e1
  obtain ⟨u1, u2, rfl, rv, rw'⟩ : ∃ u1 u2, us = [u1, u2] ∧ RelV v u1 ∧ RelV w u2 := by
    cases r1 with
    | cons p q =>
      cases q with
      | cons p' q' =>
        cases q'
        exact ⟨_, _, rfl, p, p'⟩
  refine wpAny_newObj_type ?_ (by show 2 ≤ sizeLine; decide)
  have I2 : Inv X pins σ H1 { s1 with heap := s1.heap.push { cls := .type "tuple", data := .seq [u1, u2].toArray } } := I1.kept (t' := s1.toks) fun b o e => Heap.get?_push_of_some _ e
  refine assign_Tuple_tuple (x1 := kt) (items := #[u1, u2]) (I.ok.hd hc) (IsTup.new s1.heap _) rfl rfl fun h' hx' => ?_
  have I3 := I2.kept (h' := h') (t' := s1.toks) fun b o e => hx' b o (Nat.ne_of_lt (Heap.lt_size e)) e
  refine assignInOrder_cons (wpAny_assign_Name (store_ok I3 hN hi hx rv (fun s2 I4 => ?_) hfx))
  refine assignInOrder_cons (wpAny_assign_Name (store_ok I4 hN hj hy rw' (fun s3 I5 => assignInOrder_nil ?_) hfy))
  exact ⟨_, H1, I5, q1⟩
section
variable {B : Base} {X : Cx} {x y : Str} {a b : Expr} {wa wb : WE} {px py pt pos : Pos} {kt k2 : Nat} {pt2 : Pos}
theorem S_parC2 (i j : Nat) (hN : X.N.Nodup) (ha : ∀ B, PET B X a wa) (hb : ∀ B, PET B X b wb) (hi : X.N[i]? = some x := by rfl) (hj : X.N[j]? = some y := by rfl) (hij : i ≠ j := by decide)
    (hx : Loc X.env.scope x := by first | exact Or.inl rfl | exact Or.inr rfl) (hfx : X.fn x = true ∨ X.env.scope.names.lookup x = some .local := by first | exact .inl rfl | exact .inr rfl)
    (hy : Loc X.env.scope y := by first | exact Or.inl rfl | exact Or.inr rfl) (hfy : X.fn y = true ∨ X.env.scope.names.lookup y = some .local := by first | exact .inl rfl | exact .inr rfl) (hc : X.calm = true := by rfl)
    (hw : swappedStores [.Tuple [.Name x px, .Name y py] kt pt] (.Tuple [a, b] k2 pt2) X.env = pure none := by rfl)
    (hs : swapsWithSole [.Tuple [.Name x px, .Name y py] kt pt] (.Tuple [a, b] k2 pt2) pos.line X.env = pure false := by rfl)
    (s1 : starEach [a, b] X.env = (false, eval a X.env) :: starEach [b] X.env := by rfl) (s2 : starEach [b] X.env = (false, eval b X.env) :: starEach [] X.env := by rfl) :
    PST B X (.Assign [.Tuple [.Name x px, .Name y py] kt pt] (.Tuple [a, b] k2 pt2) pos) (wParR2 i j wa wb) := fun W tk =>
  PS.imp (ps_parC hc hN hi hj hij hx hy hfx hfy (pa_cons (ha B W tk) (pa_cons (PE.ex (f := fun x : Ext B => tOf X.K x.bs (wb W)) fun x => hb x.bs W (takes_ext tk x)) pa_nil s2) s1) hw hs) fun D σ H q => by
  obtain ⟨g, t, P, rl, m, k, _⟩ := q
  refine ⟨g, t, _, rl, m, fun r1 t1 m1 g1 v1 H1 s1 rl1 rr1 => ?_⟩
  obtain ⟨fp, rf⟩ := rr1.fr
  refine ⟨extOf rl1 rf.free, g1, t1, _, rl1.addL rf.free, m1, fun r2 t2 m2 g2 v2 H2 s2 rl2 rr2 => ?_⟩
  obtain ⟨fq, rq⟩ := rr2.fr
  obtain ⟨rq, dis⟩ := rq.ofExt
  obtain ⟨rl3, eH, f3⟩ := rl2.subL
  have rf2 : ResF X.K B g2 H2 fp r1 v1 := rf.up s2 eH f3
  obtain ⟨ow1, t3, m3, rl4, f4⟩ := rl3.setF rf2 rq.free (fun b hb hq => dis b hq hb) m2
  obtain ⟨ow2, t4, m4, rl5⟩ := rl4.set (rq.up (g' := ⟨g2.F, ow1⟩) sRefl (fun _ _ => rfl) f4).res m3
  exact ⟨v1, v2, rfl, k _ m4 ⟨g2.F, ow2⟩ _ H2 (s1.trans s2) rl5⟩
end
end TL
namespace TL
open PySem PySem.Spec PyProof.Rows L2
theorem addX_i (i j : Int) : addX (.int i) (.int j) = some (.int (i + j)) := rfl
theorem subX_i (i j : Int) : subX (.int i) (.int j) = some (.int (i - j)) := rfl
theorem mulX_i {i j : Int} (h1 : i.natAbs < 2 ^ 250) (h2 : j.natAbs < 2 ^ 250) : mulAX (.int i) (.int j) = some (.int (i * j)) := if_pos ⟨h1, h2⟩
theorem divX_i {i j : Int} (h1 : 0 < j) (h2 : j < 2 ^ 250) : divX (.int i) (.int j) = some (.int (i / j)) := if_pos ⟨h1, by omega⟩
theorem modX_i {i j : Int} (h1 : 0 < j) : modX (.int i) (.int j) = some (.int (i % j)) := if_pos h1
theorem powX_i {i j : Int} (h1 : 0 ≤ j) (h2 : j ≤ 1000000) (h3 : i.natAbs < 2 ^ 64) : powX (.int i) (.int j) = some (.int (i ^ j.toNat)) := if_pos ⟨h1, h2, h3⟩
theorem iaddX_i (i j : Int) : iaddX (.int i) (.int j) = some (.int (i + j)) := rfl
theorem imulX_j {i j : Int} (h1 : -(2 ^ 64) < j) (h2 : j < 2 ^ 64) : imulX (.int i) (.int j) = some (.int (i * j)) := if_pos (.inr ⟨h1, h2⟩)
theorem pyEq_ints (i j : Int) : pyEq (.int i) (.int j) = decide (i = j) := encI.eqb i j
theorem eqX_i (i j : Int) : eqX (.int i) (.int j) = some (decide (i = j)) := by
  unfold eqX
  rw [if_pos (show eqOk (.int i) (.int j) from encI.eqOk (by decide) i j), pyEq_ints]
theorem neX_i (i j : Int) : neX (.int i) (.int j) = some (!decide (i = j)) := by
  unfold neX
  rw [if_pos (show eqOk (.int i) (.int j) from encI.eqOk (by decide) i j), pyEq_ints]
theorem Enc.eqX {α : Type} [DecidableEq α] (e : Enc α) (h : e.dep ≤ 64) (a b : α) : eqX (e.enc a) (e.enc b) = some (decide (a = b)) := by
  unfold TL.eqX
  rw [if_pos (e.eqOk h a b), e.eqb]
theorem Enc.neX {α : Type} [DecidableEq α] (e : Enc α) (h : e.dep ≤ 64) (a b : α) : neX (e.enc a) (e.enc b) = some (!decide (a = b)) := by
  unfold TL.neX
  rw [if_pos (e.eqOk h a b), e.eqb]
def encB : Enc Bool := ⟨.bl, 0, fun _ => rfl, fun i => by rw [show (D.bl i).py = .bool i from rfl, depth_bool]; exact Nat.le_refl _, fun a b => by
  show PyData.eqv (.bool a) (.bool b) = true ↔ _
  unfold PyData.eqv; simp⟩
theorem eqX_b (i j : Bool) : eqX (.bl i) (.bl j) = some (decide (i = j)) := encB.eqX (by decide) i j
theorem neX_b (i j : Bool) : neX (.bl i) (.bl j) = some (!decide (i = j)) := encB.neX (by decide) i j
theorem ltX_i (i j : Int) : ltX (.int i) (.int j) = some (decide (i < j)) := rfl
theorem ltAX_i (i j : Int) : ltAX (.int i) (.int j) = some (decide (i < j)) := rfl
theorem leX_i (i j : Int) : leX (.int i) (.int j) = some (decide (i ≤ j)) := rfl
theorem gtX_i (i j : Int) : gtX (.int i) (.int j) = some (decide (j < i)) := rfl
theorem geX_i (i j : Int) : geX (.int i) (.int j) = some (decide (j ≤ i)) := rfl
theorem truX_bl (b : Bool) : truX (.bl b) = some b := rfl
theorem truX_i (i : Int) : truX (.int i) = some (i != 0) := rfl
theorem truX_non : truX .non = some false := rfl
theorem truX_tup (l : List D) : truX (.tup l) = some (!l.isEmpty) := rfl
theorem truX_lst (l : List D) : truX (.lst l) = some (!l.isEmpty) := rfl
theorem itX_tup (l : List D) : itX (.tup l) = some l := rfl
theorem itX_lst (l : List D) : itX (.lst l) = some l := rfl
theorem itX_scr (l : List D) : itX (.scr l) = some l := rfl
theorem lenX_tup (l : List D) : lenX (.tup l) = some (.int l.length) := rfl
theorem lenX_lst (l : List D) : lenX (.lst l) = some (.int l.length) := rfl
theorem lenX_scr (l : List D) : lenX (.scr l) = some (.int l.length) := rfl
theorem lenX_dct (k : KK) (l : List (D × D)) : lenX (.dct k l) = some (.int l.length) := rfl
theorem tupleX_lst (l : List D) : tupleX (.lst l) = some (.tup l) := rfl
theorem tupleX_tup (l : List D) : tupleX (.tup l) = some (.tup l) := rfl
theorem listX_lst (l : List D) : listX (.lst l) = some l := rfl
theorem listX_tup (l : List D) : listX (.tup l) = some l := rfl
theorem seqX_lst (l : List D) : seqX (.lst l) = some l := rfl
theorem seqX_tup (l : List D) : seqX (.tup l) = some l := rfl
theorem intX_bl (b : Bool) : intX (.bl b) = some (.int (if b then 1 else 0)) := rfl
theorem intX_int (i : Int) : intX (.int i) = some (.int i) := rfl
theorem absX_i (i : Int) : absX (.int i) = some (.int (if i < 0 then -i else i)) := rfl
theorem max2X_i (i j : Int) : max2X (.int i) (.int j) = some (.int (if j > i then j else i)) := rfl
theorem min2X_i (i j : Int) : min2X (.int i) (.int j) = some (.int (if j < i then j else i)) := rfl
theorem slX_tup (l : List D) (a b : Option Int) : slX (.tup l) a b = some (.tup (cutD l a b)) := rfl
theorem slX_lst (l : List D) (a b : Option Int) : slX (.lst l) a b = some (.lst (cutD l a b)) := rfl
theorem slX_scr (l : List D) (a b : Option Int) : slX (.scr l) a b = some (.lst (cutD l a b)) := rfl
theorem addX_tup {a b : List D} (h : a.length + b.length ≤ sizeLine) : addX (.tup a) (.tup b) = some (.tup (a ++ b)) := if_pos h
theorem addX_lst {a b : List D} (h : a.length + b.length ≤ sizeLine) : addX (.lst a) (.lst b) = some (.lst (a ++ b)) := if_pos h
theorem addLX_lst {a b : List D} (h : a.length + b.length ≤ sizeLine) : addLX (.lst a) (.lst b) = some (a ++ b) := if_pos h
theorem appX_ok {l : List D} {d : D} (h : l.length < sizeLine) : appX l d = some (l ++ [d]) := if_pos h
theorem extX_ok {l m : List D} (h : l.length + m.length ≤ sizeLine) : extX l m = some (l ++ m) := if_pos h
theorem rg1X_i {j : Int} (h1 : -(2 ^ 62) ≤ j) (h2 : j < 2 ^ 62) : rg1X (.int j) = some (rangeD 0 1 j.toNat) := if_pos ⟨h1, h2⟩
theorem rg2X_i {i j : Int} (h1 : -(2 ^ 62) ≤ i) (h2 : i < 2 ^ 62) (h3 : -(2 ^ 62) ≤ j) (h4 : j < 2 ^ 62) : rg2X (.int i) (.int j) = some (rangeD i 1 (j - i).toNat) := if_pos ⟨⟨h1, h2⟩, h3, h4⟩
theorem ints_of (l : List Int) : D.ints (l.map D.int) = some l := ints_map l
theorem allX_ok (l : List Bool) : allX (.lst (l.map D.bl)) = some (l.all id) := by show (D.bls (l.map D.bl)).map _ = _; rw [bls_map]; rfl
theorem anyX_ok (l : List Bool) : anyX (.lst (l.map D.bl)) = some (l.any id) := by show (D.bls (l.map D.bl)).map _ = _; rw [bls_map]; rfl
theorem sumX_ok (l : List Int) : sumX (.lst (l.map D.int)) = some (.int l.sum) := by show (D.ints (l.map D.int)).map _ = _; rw [ints_map]; rfl
theorem atI_some {α : Type} {l : List α} {i : Int} (h0 : 0 ≤ i) (h : i < l.length) : ∃ x, x ∈ l ∧ l[i.toNat]? = some x ∧ L2.atI l i = some x := by
  have hn : i.toNat < l.length := by omega
  refine ⟨l[i.toNat], List.getElem_mem hn, List.getElem?_eq_getElem hn, ?_⟩
  obtain ⟨n, rfl⟩ : ∃ n : Nat, i = n := ⟨i.toNat, by omega⟩
  exact atI_nat (List.getElem?_eq_getElem hn)
theorem getX_lst {l : List D} {i : Int} (h0 : 0 ≤ i) (h : i < l.length) : ∃ x, x ∈ l ∧ l[i.toNat]? = some x ∧ getX (.lst l) (.int i) = some x := atI_some h0 h
theorem getX_scr {l : List D} {i : Int} (h0 : 0 ≤ i) (h : i < l.length) : ∃ x, x ∈ l ∧ l[i.toNat]? = some x ∧ getX (.scr l) (.int i) = some x := atI_some h0 h
theorem getX_nat {l : List D} {n : Nat} {x : D} (h : l[n]? = some x) : getX (.lst l) (.int n) = some x := atI_nat h
theorem tup2X_ok (a b : D) : tup2X (.tup [a, b]) = some (a, b) := rfl
theorem tup3X_ok (a b c : D) : tup3X (.tup [a, b, c]) = some (a, b, c) := rfl
/-- ranges as whole numbers -/
theorem range_eq (lo : Int) (n : Nat) : rangeD lo 1 n = (List.range n).map fun (i : Nat) => D.int (lo + i) := by
  unfold rangeD
  congr 1
  funext i
  rw [Int.mul_one]
theorem range0_eq (n : Nat) : rangeD 0 1 n = (List.range n).map fun (i : Nat) => D.int i := by
  rw [range_eq]
  congr 1
  funext i
  rw [Int.zero_add]
theorem forX_inv {σ ρ : Type} {step : σ → D → Option (SO σ ρ)} (I : Nat → σ → Prop) (Rt : ρ → Prop) : ∀ {ds : List D} {s : σ} (k : Nat), I k s → (∀ (i : Nat) (d : D) (s : σ), ds[i]? = some d → I (k + i) s → ∃ o, step s d = some o ∧ o.cs (I (k + i + 1)) Rt) → ∃ o, forX step ds s = some o ∧ o.cs (I (k + ds.length)) Rt
  | [], s, k, h, _ => ⟨.nx s, rfl, h⟩
  | d :: ds, s, k, h, hs => by
    obtain ⟨o, e1, h1⟩ := hs 0 d s rfl h
    cases o with
    | rt r => exact ⟨.rt r, by rw [forX, e1]; rfl, h1⟩
    | nx s1 =>
      obtain ⟨s2, e2, h2⟩ := forX_inv I Rt (ds := ds) (s := s1) (k + 1) h1 fun i d s hi hI => by
        have := hs (i + 1) d s (by simpa using hi) (by rw [show k + (i + 1) = k + 1 + i by omega]; exact hI)
        rw [show k + (i + 1) + 1 = k + 1 + i + 1 by omega] at this
        exact this
      refine ⟨s2, ?_, ?_⟩
      · rw [forX, e1]; exact e2
      · rw [List.length_cons, show k + (ds.length + 1) = k + 1 + ds.length by omega]; exact h2
/-- a loop that leaves at the first item with a property -/
theorem forX_find {α ρ : Type} {step : Unit → D → Option (SO Unit ρ)} (e : α → D) (p : α → Option ρ) : ∀ (xs : List α), (∀ x, x ∈ xs → step () (e x) = some (match p x with | some r => .rt r | none => .nx ())) →
    forX step (xs.map e) () = some (match xs.findSome? p with | some r => .rt r | none => .nx ())
  | [], _ => rfl
  | x :: xs, h => by
    rw [List.map_cons, forX, h x List.mem_cons_self, List.findSome?_cons]
    cases hp : p x with
    | none => exact forX_find e p xs fun y hy => h y (List.mem_cons_of_mem _ hy)
    | some r => rfl
/-- for x in xs: if bad x: return r -/
theorem forX_all {α ρ : Type} {step : Unit → D → Option (SO Unit ρ)} (e : α → D) (p : α → Bool) (r : ρ) : ∀ (xs : List α), (∀ x, x ∈ xs → step () (e x) = some (if p x then .nx () else .rt r)) → forX step (xs.map e) () = some (if xs.all p then .nx () else .rt r)
  | [], _ => rfl
  | x :: xs, h => by
    rw [List.map_cons, forX, h x List.mem_cons_self, List.all_cons]
    cases p x with
    | true => exact forX_all e p r xs fun y hy => h y (List.mem_cons_of_mem _ hy)
    | false => rfl
theorem mapG_map {α : Type} {f : D → Option D} (e : α → D) (g : α → D) : ∀ (xs : List α), (∀ x, x ∈ xs → f (e x) = some (g x)) → mapG f (xs.map e) = some (xs.map g)
  | [], _ => rfl
  | x :: xs, h => by
    rw [List.map_cons, mapG, h x List.mem_cons_self]
    show (mapG f (xs.map e)).bind _ = _
    rw [mapG_map e g xs fun y hy => h y (List.mem_cons_of_mem _ hy)]
    rfl
theorem mapX_map {α : Type} {f : D → Option D} (e : α → D) (g : α → D) (xs : List α) (hl : xs.length ≤ sizeLine) (h : ∀ x, x ∈ xs → f (e x) = some (g x)) : mapX f (xs.map e) = some (xs.map g) := by
  unfold mapX
  rw [if_pos (by rw [List.length_map]; exact hl), mapG_map e g xs h]
theorem mapSX_inv {σ : Type} {f : σ → D → Option (D × σ)} (I : Nat → σ → Prop) (Pr : Nat → D → Prop) {ds : List D} {s : σ} (hl : ds.length ≤ sizeLine) (h0 : I 0 s) (hs : ∀ (i : Nat) (d : D) (s : σ), ds[i]? = some d → I i s → ∃ y s', f s d = some (y, s') ∧ Pr i y ∧ I (i + 1) s') :
    ∃ l s', mapSX f ds s = some (l, s') ∧ l.length = ds.length ∧ (∀ i y, l[i]? = some y → Pr i y) ∧ I ds.length s' := by
  have : ∀ (ds : List D) (s : σ) (k : Nat), I k s → (∀ (i : Nat) (d : D) (s : σ), ds[i]? = some d → I (k + i) s → ∃ y s', f s d = some (y, s') ∧ Pr (k + i) y ∧ I (k + i + 1) s') →
      ∃ l s', mapSG f ds s = some (l, s') ∧ l.length = ds.length ∧ (∀ i y, l[i]? = some y → Pr (k + i) y) ∧ I (k + ds.length) s' := by
    intro ds
    induction ds with
    | nil => exact fun s k h _ => ⟨[], s, rfl, rfl, fun i y h => by simp at h, h⟩
    | cons d ds ih =>
      intro s k h hs
      obtain ⟨y, s1, e1, p1, h1⟩ := hs 0 d s rfl h
      obtain ⟨l, s2, e2, l2, p2, h2⟩ := ih s1 (k + 1) h1 fun i d s hi hI => by
        have := hs (i + 1) d s (by simpa using hi) (by rw [show k + (i + 1) = k + 1 + i by omega]; exact hI)
        rw [show k + (i + 1) = k + 1 + i by omega] at this
        exact this
      refine ⟨y :: l, s2, by rw [mapSG, e1]; show (mapSG f ds s1).bind _ = _; rw [e2]; rfl, by simp [l2], fun i z hz => ?_, ?_⟩
      · cases i with
        | zero => simp at hz; subst hz; exact p1
        | succ i => rw [show k + (i + 1) = k + 1 + i by omega]; exact p2 i z (by simpa using hz)
      · rw [List.length_cons, show k + (ds.length + 1) = k + 1 + ds.length by omega]; exact h2
  obtain ⟨l, s', e, h1, h2, h3⟩ := this ds s 0 h0 fun i d s hi hI => by
    rw [Nat.zero_add] at hI ⊢
    exact hs i d s hi hI
  rw [Nat.zero_add] at h3
  refine ⟨l, s', by unfold mapSX; rw [if_pos hl]; exact e, h1, fun i y hy => ?_, h3⟩
  have := h2 i y hy
  rwa [Nat.zero_add] at this
end TL
namespace TL
open PySem PySem.Spec PyProof.Rows L2
theorem oP_mono {α : Type} {x : Option α} {Q R : α → Prop} (h : oP x Q) (i : ∀ a, Q a → R a) : oP x R := by
  cases x with
  | none => exact h.elim
  | some a => exact i a h
theorem oP_ex {α : Type} {x : Option α} {Q : α → Prop} (h : oP x Q) : ∃ a, x = some a ∧ Q a := by
  cases x with
  | none => exact h.elim
  | some a => exact ⟨a, rfl, h⟩
theorem oP_at {α : Type} {x : Option α} {a : α} {Q : α → Prop} (h : x = some a) (q : Q a) : oP x Q := by rw [h]; exact q
theorem oP_eq {α : Type} {x : Option α} {a : α} (h : oP x fun b => b = a) : x = some a := by
  obtain ⟨b, e, rfl⟩ := oP_ex h
  exact e
/-- a fork that waits for its test -/
def condK (c A B : Prop) (_ : Tg (A, B) := ⟨⟩) : Prop := (c → A) ∧ (¬ c → B)
theorem condK_t {A B : Prop} {g : Tg (A, B)} : condK True A B g = A := by simp [condK]
theorem condK_f {A B : Prop} {g : Tg (A, B)} : condK False A B g = B := by simp [condK]
theorem condK_i {c A B : Prop} {g : Tg (A, B)} (h : c → A) (h' : ¬ c → B) : condK c A B g := ⟨h, h'⟩
theorem oP_condK {α : Type} {c : Prop} [Decidable c] {x y : Option α} {Q : α → Prop} : oP (if c then x else y) Q = condK c (oP x Q) (oP y Q) := by
  by_cases h : c <;> simp [h, condK]
theorem withO_condK {α : Type} {c : Prop} [Decidable c] {x y : Option α} {k : α → Prop} {g : Tg k} : withO (if c then x else y) k g = condK c (withO x k) (withO y k) := by
  by_cases h : c <;> simp [h, condK]
theorem oP_bindT {α β : Type} {o : Option α} {f : α → Option β} {Q : β → Prop} : oP (o.bind f) Q = withO o (fun a => oP (f a) Q) := by cases o <;> rfl
theorem withO_bind {α β : Type} {o : Option α} {f : α → Option β} {k : β → Prop} {g : Tg k} : withO (o.bind f) k g = withO o (fun a => withO (f a) k) := by cases o <;> rfl
theorem withO_i {α : Type} {o : Option α} {k : α → Prop} {g : Tg k} (h : oP o k) : withO o k g := by rw [withO_oP]; exact h
theorem oP_nx {σ ρ β : Type} {s : σ} {f : σ → Option β} {g : ρ → Option β} {Q : β → Prop} : oP ((SO.nx s : SO σ ρ).cs f g) Q = oP (f s) Q := rfl
theorem oP_rt {σ ρ β : Type} {s : ρ} {f : σ → Option β} {g : ρ → Option β} {Q : β → Prop} : oP ((SO.rt s : SO σ ρ).cs f g) Q = oP (g s) Q := rfl
theorem iteB_some {c : Prop} [Decidable c] (a b : Bool) : (if c then some a else some b) = some (if c then a else b) := by split <;> rfl
theorem iteD_some {c : Prop} [Decidable c] (a b : D) : (if c then some a else some b) = some (if c then a else b) := by split <;> rfl
theorem ite_int {c : Prop} [Decidable c] (a b : Int) : (if c then D.int a else D.int b) = D.int (if c then a else b) := by split <;> rfl
theorem ite_and {c : Prop} [Decidable c] (b : Bool) : (if c then b else false) = (decide c && b) := by by_cases h : c <;> simp [h]
theorem ite_or {c : Prop} [Decidable c] (b : Bool) : (if c then true else b) = (decide c || b) := by by_cases h : c <;> simp [h]
theorem oP_gets {l : List D} {i : Int} {Q : D → Prop} (h0 : 0 ≤ i) (h : i < l.length) (k : ∀ x, x ∈ l → l[i.toNat]? = some x → Q x) : oP (getX (.scr l) (.int i)) Q := by
  obtain ⟨x, h1, h2, e⟩ := getX_scr h0 h
  exact oP_at e (k x h1 h2)
theorem oP_for {σ ρ : Type} {step : σ → D → Option (SO σ ρ)} {ds : List D} {s : σ} {Q : SO σ ρ → Prop} (I : Nat → σ → Prop) (Rt : ρ → Prop) (h0 : I 0 s)
    (hs : ∀ (i : Nat) (d : D) (s : σ), ds[i]? = some d → I i s → oP (step s d) fun o => o.cs (I (i + 1)) Rt) (k : ∀ s, I ds.length s → Q (.nx s)) (kr : ∀ r, Rt r → Q (.rt r)) : oP (forX step ds s) Q := by
  obtain ⟨o, e, h⟩ := forX_inv I Rt 0 h0 fun i d s hi hI => by
    obtain ⟨s', e, h⟩ := oP_ex (hs i d s hi (by rw [Nat.zero_add] at hI; exact hI))
    exact ⟨s', e, by rw [Nat.zero_add]; exact h⟩
  rw [Nat.zero_add] at h
  refine oP_at e ?_
  cases o with
  | nx s => exact k s h
  | rt r => exact kr r h
/-- a loop that never ends early -/
theorem oP_forN {σ ρ : Type} {step : σ → D → Option (SO σ ρ)} {ds : List D} {s : σ} {Q : SO σ ρ → Prop} (I : Nat → σ → Prop) (h0 : I 0 s)
    (hs : ∀ (i : Nat) (d : D) (s : σ), ds[i]? = some d → I i s → oP (step s d) fun o => o.cs (I (i + 1)) fun _ => False) (k : ∀ s, I ds.length s → Q (.nx s)) : oP (forX step ds s) Q :=
  oP_for I _ h0 hs k fun _ h => h.elim
theorem get3_0 (a b c : D) : getX (.lst [a, b, c]) (.int 0) = some a := rfl
theorem get3_1 (a b c : D) : getX (.lst [a, b, c]) (.int 1) = some b := rfl
theorem get3_2 (a b c : D) : getX (.lst [a, b, c]) (.int 2) = some c := rfl
theorem set3_0 (a b c x : D) : setX [a, b, c] (.int 0) x = some [x, b, c] := rfl
theorem set3_1 (a b c x : D) : setX [a, b, c] (.int 1) x = some [a, x, c] := rfl
theorem set3_2 (a b c x : D) : setX [a, b, c] (.int 2) x = some [a, b, x] := rfl
theorem gett2_0 (a b : D) : getX (.tup [a, b]) (.int 0) = some a := rfl
theorem gett2_1 (a b : D) : getX (.tup [a, b]) (.int 1) = some b := rfl
theorem isX_b (a b : Bool) : isX (.bl a) (.bl b) = some (decide (a = b)) := rfl
theorem isNotX_b (a b : Bool) : isNotX (.bl a) (.bl b) = some (!decide (a = b)) := rfl
theorem mulLX_i {l : List D} {k : Int} (h : small k) (h2 : l.length * k.toNat ≤ sizeLine) : mulLX (.lst l) (.int k) = some (List.replicate k.toNat l).flatten := if_pos ⟨h, h2⟩
/-- at most n draws so far -/
def PotOk (n : Nat) (p : List D) : Prop := ∃ a b c : Int, p = [.int a, .int b, .int c] ∧ 0 ≤ a ∧ 0 ≤ b ∧ b < 2 ^ 62 ∧ 0 ≤ c ∧ c ≤ n
theorem PotOk.mono {n m : Nat} {p : List D} (h : PotOk n p) (l : n ≤ m) : PotOk m p := by
  obtain ⟨a, b, c, e, h1, h2, h3, h4, h5⟩ := h
  exact ⟨a, b, c, e, h1, h2, h3, h4, by omega⟩
theorem natz : ((0 : Nat) : Int) = 0 := rfl
theorem sq_bound {c : Int} {n : Nat} (h0 : 0 ≤ c) (h : c ≤ n) (hn : n ≤ 2 ^ 60) : 0 ≤ c * c ∧ c * c ≤ 2 ^ 120 := by
  have := Int.mul_le_mul (show c ≤ 2 ^ 60 by omega) (show c ≤ 2 ^ 60 by omega) h0 (by omega)
  exact ⟨Int.mul_nonneg h0 h0, by omega⟩
theorem in_range {m : Nat} {i : Nat} {d : D} (h : (rangeD 0 1 m)[i]? = some d) : i < m ∧ d = .int i := by
  obtain ⟨q, e⟩ := List.getElem?_eq_some_iff.mp h
  rw [range0_eq] at h
  simp only [List.getElem?_map, Option.map_eq_some_iff, List.getElem?_range'] at h
  obtain ⟨x, hx, rfl⟩ := h
  have := List.getElem?_eq_some_iff.mp hx
  obtain ⟨q2, e2⟩ := this
  rw [List.length_range] at q2
  rw [List.getElem_range] at e2
  exact ⟨q2, by rw [e2]⟩
end TL
namespace TL
open PySem PySem.Spec PyProof.Rows L2
def D.nice : Nat → D → Bool
  | _, .non => true
  | _, .bl _ => true
  | _, .int _ => true
  | _, .str _ => true
  | n + 1, .tup l => l.all (D.nice n)
  | n + 1, .lst l => l.all (D.nice n)
  | _, _ => false
theorem nice_tup {n : Nat} {l : List D} : D.nice n (.tup l) = true ↔ ∃ m, n = m + 1 ∧ ∀ x ∈ l, D.nice m x = true := by
  cases n with
  | zero => simp [D.nice]
  | succ n => simp [D.nice]
theorem nice_lst {n : Nat} {l : List D} : D.nice n (.lst l) = true ↔ ∃ m, n = m + 1 ∧ ∀ x ∈ l, D.nice m x = true := by
  cases n with
  | zero => simp [D.nice]
  | succ n => simp [D.nice]
theorem D.nice.up : ∀ {n m : Nat} {d : D}, D.nice n d = true → n ≤ m → D.nice m d = true
  | n, m, .non, _, _ => by cases m <;> rfl
  | n, m, .bl _, _, _ => by cases m <;> rfl
  | n, m, .int _, _, _ => by cases m <;> rfl
  | n, m, .str _, _, _ => by cases m <;> rfl
  | n, m, .tup l, h, hm => by
    obtain ⟨k, rfl, hk⟩ := nice_tup.mp h
    obtain ⟨j, rfl⟩ : ∃ j, m = j + 1 := ⟨m - 1, by omega⟩
    exact nice_tup.mpr ⟨j, rfl, fun x hx => D.nice.up (hk x hx) (by omega)⟩
  | n, m, .lst l, h, hm => by
    obtain ⟨k, rfl, hk⟩ := nice_lst.mp h
    obtain ⟨j, rfl⟩ : ∃ j, m = j + 1 := ⟨m - 1, by omega⟩
    exact nice_lst.mpr ⟨j, rfl, fun x hx => D.nice.up (hk x hx) (by omega)⟩
  | n, m, .scr l, h, _ => by cases n <;> cases h
  | n, m, .dct _ l, h, _ => by cases n <;> cases h
  | n, m, .ty _, h, _ => by cases n <;> cases h
  | n, m, .ref _, h, _ => by cases n <;> cases h
  | n, m, .exc _, h, _ => by cases n <;> cases h
  | n, m, .cl _, h, _ => by cases n <;> cases h
  | n, m, .obj _ _, h, _ => by cases n <;> cases h
theorem plL_all {l : List D} (h : ∀ x ∈ l, D.pl x = true) : D.plL l = true := by
  induction l with
  | nil => rfl
  | cons d l ih => simp only [D.plL, Bool.and_eq_true]; exact ⟨h d List.mem_cons_self, ih fun x hx => h x (List.mem_cons_of_mem _ hx)⟩
theorem depthL_le {n : Nat} {l : List D} (h : ∀ x ∈ l, x.py.depth ≤ n) : PyData.depthAll (D.pyL l) ≤ n := by
  induction l with
  | nil => simp [D.pyL, PyData.depthAll]
  | cons d l ih =>
    simp only [D.pyL, PyData.depthAll]
    exact Nat.max_le.mpr ⟨h d List.mem_cons_self, ih fun x hx => h x (List.mem_cons_of_mem _ hx)⟩
theorem D.nice.plain : ∀ {n : Nat} {d : D}, D.nice n d = true → d.pl = true ∧ d.py.depth ≤ n ∧ d.tyN.isSome = true
  | n, .non, _ => ⟨rfl, by simp [D.py, PyData.depth], rfl⟩
  | n, .bl _, _ => ⟨rfl, by simp [D.py, PyData.depth], rfl⟩
  | n, .int _, _ => ⟨rfl, by simp [D.py, PyData.depth], rfl⟩
  | n, .str _, _ => ⟨rfl, by simp [D.py, PyData.depth], rfl⟩
  | n, .tup l, h => by
    obtain ⟨k, rfl, hk⟩ := nice_tup.mp h
    exact ⟨plL_all fun x hx => (D.nice.plain (hk x hx)).1, by simp only [D.py, PyData.depth]; have := depthL_le fun x hx => (D.nice.plain (hk x hx)).2.1; omega, rfl⟩
  | n, .lst l, h => by
    obtain ⟨k, rfl, hk⟩ := nice_lst.mp h
    exact ⟨plL_all fun x hx => (D.nice.plain (hk x hx)).1, by simp only [D.py, PyData.depth]; have := depthL_le fun x hx => (D.nice.plain (hk x hx)).2.1; omega, rfl⟩
  | n, .scr l, h => by cases n <;> cases h
  | n, .dct _ l, h => by cases n <;> cases h
  | n, .ty _, h => by cases n <;> cases h
  | n, .ref _, h => by cases n <;> cases h
  | n, .exc _, h => by cases n <;> cases h
  | n, .cl _, h => by cases n <;> cases h
  | n, .obj _ _, h => by cases n <;> cases h
end TL
namespace TL
open PySem PySem.Spec PyProof.Rows L2
mutual
def D.rc : D → Nat
  | .int _ => 45
  | .non => 4
  | .bl _ => 5
  | .str x => (reprText x).length
  | .tup l => D.rcL l + 3
  | .lst l => D.rcL l + 3
  | .scr l => D.rcL l + 3
  | .dct _ _ => 4
  | .ty _ => 4
  | .ref _ => 4
  | .exc _ => 4
  | .cl _ => 4
  | .obj _ _ => 4
def D.rcL : List D → Nat
  | [] => 0
  | d :: l => d.rc + 2 + D.rcL l
end
mutual
/-- no number of more than 40 places -/
def D.ib : D → Bool
  | .int i => decide (i.natAbs < 10 ^ 40)
  | .tup l => D.ibL l
  | .lst l => D.ibL l
  | .scr l => D.ibL l
  | _ => true
def D.ibL : List D → Bool
  | [] => true
  | d :: l => d.ib && D.ibL l
end
theorem tupText_len (ts : List Str) : (tupleText ts).length ≤ piled ts + 3 := by
  unfold tupleText
  rw [Str.length_append, Str.length_append]
  have h1 : (("(" : Str)).length = 1 := by decide
  have h2 : ((if ts.length == 1 then ",)" else ")" : String) : Str).length ≤ 2 := by split <;> decide
  cases ts with
  | nil =>
    have : (Str.join ", " []).length = 0 := rfl
    omega
  | cons a l =>
    have := join_length_add (a :: l) (by simp)
    omega
theorem textFrom_le : ∀ (ts : List Str) (k : Nat) (acc : Str), (textFrom k acc ts).length ≤ acc.length + piled ts
  | [], k, acc => Nat.le_refl _
  | t :: r, k, acc => by
    have ih := textFrom_le r (k + 1) (acc ++ (if k > 0 then ", " else "" : String) ++ t)
    have h2 : ((if k > 0 then ", " else "" : String) : Str).length ≤ 2 := by split <;> decide
    rw [Str.length_append, Str.length_append] at ih
    rw [piled_cons]
    show (textFrom (k + 1) (acc ++ (if k > 0 then ", " else "" : String) ++ t) r).length ≤ _
    omega
theorem lstText_len (ts : List Str) : (listText ts).length ≤ piled ts + 3 := by
  unfold listText
  rw [Str.length_append]
  have h1 : (("]" : Str)).length = 1 := by decide
  have h0 : (("[" : Str)).length = 1 := by decide
  have := textFrom_le ts 0 "["
  omega
mutual
theorem D.rc_ok : ∀ {d : D}, d.ib = true → d.py.shown.length ≤ d.rc ∧ d.py.showable = true
  | .int i, h => by
    have h' : i.natAbs < 10 ^ 40 := of_decide_eq_true h
    refine ⟨?_, ?_⟩
    · show (Str.ofString (toString i)).length ≤ 45
      rw [PySem.ofString_length]
      have := int_text_length_le10 (a := i) (k := 40) (by decide) h'
      omega
    · show decide (i.natAbs.log2 < 1920) = true
      refine decide_eq_true ?_
      by_cases z : i.natAbs = 0
      · rw [z]; decide
      · exact (Nat.log2_lt z).mpr (Nat.lt_of_lt_of_le h' (by decide +kernel))
  | .non, _ => ⟨by decide, rfl⟩
  | .bl b, _ => ⟨by cases b <;> decide, rfl⟩
  | .str x, _ => ⟨Nat.le_refl _, rfl⟩
  | .tup l, h => by
    obtain ⟨h1, h2⟩ := D.rcL_ok (l := l) h
    refine ⟨?_, h2⟩
    have := tupText_len (PyData.shownAll (D.pyL l))
    show (tupleText (PyData.shownAll (D.pyL l))).length ≤ D.rcL l + 3
    omega
  | .lst l, h => by
    obtain ⟨h1, h2⟩ := D.rcL_ok (l := l) h
    refine ⟨?_, h2⟩
    have := lstText_len (PyData.shownAll (D.pyL l))
    show (listText (PyData.shownAll (D.pyL l))).length ≤ D.rcL l + 3
    omega
  | .scr l, h => by
    obtain ⟨h1, h2⟩ := D.rcL_ok (l := l) h
    refine ⟨?_, h2⟩
    have := lstText_len (PyData.shownAll (D.pyL l))
    show (listText (PyData.shownAll (D.pyL l))).length ≤ D.rcL l + 3
    omega
  | .dct _ _, _ => ⟨(by decide : PyData.none.shown.length ≤ 4), rfl⟩
  | .ty _, _ => ⟨(by decide : PyData.none.shown.length ≤ 4), rfl⟩
  | .ref _, _ => ⟨(by decide : PyData.none.shown.length ≤ 4), rfl⟩
  | .exc _, _ => ⟨(by decide : PyData.none.shown.length ≤ 4), rfl⟩
  | .cl _, _ => ⟨(by decide : PyData.none.shown.length ≤ 4), rfl⟩
  | .obj _ _, _ => ⟨(by decide : PyData.none.shown.length ≤ 4), rfl⟩
theorem D.rcL_ok : ∀ {l : List D}, D.ibL l = true → piled (PyData.shownAll (D.pyL l)) ≤ D.rcL l ∧ PyData.showableAll (D.pyL l) = true
  | [], _ => ⟨Nat.le_refl _, rfl⟩
  | d :: l, h => by
    obtain ⟨a, b⟩ := Bool.and_eq_true_iff.mp (show (d.ib && D.ibL l) = true from h)
    obtain ⟨h1, h2⟩ := D.rc_ok (d := d) a
    obtain ⟨h3, h4⟩ := D.rcL_ok (l := l) b
    refine ⟨?_, ?_⟩
    · show piled (d.py.shown :: PyData.shownAll (D.pyL l)) ≤ d.rc + 2 + D.rcL l
      rw [piled_cons]; omega
    · show (d.py.showable && PyData.showableAll (D.pyL l)) = true
      rw [h2, h4]; rfl
end
theorem reprX_ok {n : Nat} {d : D} (h : D.nice n d = true) (hn : n ≤ 64) (hi : d.ib = true) (hc : d.rc ≤ 2 ^ 24) : reprX d = some (.str d.py.shown) := by
  obtain ⟨a, b⟩ := D.rc_ok hi
  obtain ⟨p1, p2, p3⟩ := D.nice.plain h
  exact if_pos ⟨p1, Nat.le_trans p2 hn, b, Nat.le_trans a (Nat.le_trans hc (by decide))⟩
theorem rcL_le {l : List D} {c : Nat} (h : ∀ x ∈ l, x.rc ≤ c) : D.rcL l ≤ l.length * (c + 2) := by
  induction l with
  | nil => exact Nat.zero_le _
  | cons d l ih =>
    have h1 := h d List.mem_cons_self
    have h2 := ih fun x hx => h x (List.mem_cons_of_mem _ hx)
    show d.rc + 2 + D.rcL l ≤ (l.length + 1) * (c + 2)
    rw [Nat.succ_mul]
    omega
theorem ibL_of {l : List D} (h : ∀ x ∈ l, x.ib = true) : D.ibL l = true := by
  induction l with
  | nil => rfl
  | cons d l ih =>
    show (d.ib && D.ibL l) = true
    rw [h d List.mem_cons_self, ih fun x hx => h x (List.mem_cons_of_mem _ hx)]; rfl
theorem pyEq_str_self (x : Str) : pyEq (.str x) (.str x) = true := by
  show PyData.eqv (.str x) (.str x) = true
  simp [PyData.eqv]
theorem neX_str_self (x : Str) : neX (.str x) (.str x) = some false := by
  have : eqOk (.str x) (.str x) := ⟨rfl, rfl, by simp [D.py, PyData.depth]⟩
  unfold neX
  rw [if_pos this, pyEq_str_self]; rfl
theorem eqX_str_self (x : Str) : eqX (.str x) (.str x) = some true := by
  have : eqOk (.str x) (.str x) := ⟨rfl, rfl, by simp [D.py, PyData.depth]⟩
  unfold eqX
  rw [if_pos this, pyEq_str_self]
end TL
namespace TL
open PySem PySem.Spec PyProof.Rows L2
local macro_rules | `(tactic| walk_at $s:str) => do
  let names := (s.getString.splitOn " ").filter (· ≠ "")
  match names with
  | "mx" :: ls => do
    let pre := "wVar_ap nDictT_X nSorted_X dMulL_X dIsA_X dIsNotA_X wC_ap wBin_ap wBinK_ap wTB_ap wTru_ap wAnd_ap wOr_ap wNot_ap wAndV_ap wOrV_ap wNotT_ap wIte_ap wCh_ap wNext_ap wSeq_ap wDrop_ap wRet_ap wBrk_ap wCnt_ap wIf_ap wSet_ap wAsg_ap wPar_ap wPar3_ap wAug_ap wFor_ap wItS_ap wR1_X wR2_X wR3_X wNil_ap wCons_ap gN_ap wYes_ap wLc_ap aNil_ap aV_ap aR_ap wNeg_ap wTup_ap wLst_ap wBi_ap wBiK_ap wSubK_ap oNone_ap oSome_ap wSl_ap wApp_ap wExt_ap wPop_X wPut_ap wAugS_ap wDnew_ap kNil_ap kCons_ap wDisp_ap wPairs pk_ap stR_ap onLst_ap retO_ap goCall_ap putC_ap putC'_dct putC'_X getC_ap getC'_L getC'_D tup2_P tup3_P gT2_X gT3_X gsNil_ap gsCons_ap wLrg1_X wTrg1_X wWhile_ap wCall_ap wGhN_ap wRetG_ap wFr_ap wGhE_ap wGX_ap wIG_ap wIgh_ap fzv fzl fzd rB_v asB_bl_P truD_X itD_X dAdd_X dAddL_X dSub_X dMulA_X dDiv_X dMod_X dPow_X dShl_X dShr_X dAnd_X iAdd_X iMul_X dEq_X dNe_X dLt_X dLtA_X dLe_X dGt_X dGe_X dIn_X dNotIn_X dIs_X dIsNot_X dGet_X dSl_X nLen_X nInt_X nAbs_X nMax2_X nMin2_X nSum_X nAll_X nAny_X nTuple_X nList_X nIsi_X oP_some oP_none oP_bind oP_ite oP_cs appX_P extX_P putX_P dispX_P withO_asI withO_isi withO_asL itX_l itX_t truX_b wNever_ap wIzip2_ap wIzip3_ap wIenumerate_ap wIreversed_ap wParR2_ap wParR3_ap nRepr_X oP_exs oP_un oP_bindE wNoX_ap wRaise_ap wTryAs_ap catchK_ap nIsE_X wLm1_ap pkL_ap dCountT_X dIndexT_X guard_P".splitOn " "
    let post := "withO_some varS stS two? three? oneX rint_v rbl_v int_v oneL_X asL_lst asI_int asB_bl vAt lstAt peek cellAt setCell fnD fnX outsOf start0 toSlot refsA_nil refsA_inl refsA_inr List.nodup_nil List.nodup_cons List.not_mem_nil not_false_eq_true resA putA reSlot wipeT R.d? Cell.d? Cell.p? List.getElem?_cons_zero List.getElem?_cons_succ List.set_cons_zero List.set_cons_succ List.map_cons List.map_nil List.length_cons List.length_nil List.nil_append List.cons_append List.append_nil md_zero md_succ Option.isSome_some Option.map_some List.replicate Option.some.injEq if_true if_false ite_true ite_false Bool.false_eq_true Bool.true_eq_false reduceIte and_true true_and Bool.not_true Bool.not_false Bool.not_not Nat.reduceAdd Nat.reduceSub Nat.reduceLeDiff size_def ghZ_kp ghZ_fz ghZ_kl ghZ_nil klZ_t klZ_f klZ_nil frzS_l frzS_d frzS_v frzS_un killS_v killS_un killS_own killS_bor SO.cs_nx SO.cs_rt WH.cs_go WH.cs_dn WH.cs_rt List.mem_cons List.mem_singleton or_false false_or Ex.cs_ok Ex.cs_er noX_ap unS".splitOn " "
    let down := fun (l : String) => l.startsWith "b_" || l.startsWith "w_" || l.startsWith "e_" || l.startsWith "q_" || l.startsWith "j_" || l.startsWith "m_"
    let a ← (pre ++ ls.filter down).toArray.mapM fun (l : String) => do
      let i := Lean.mkIdent l.toName
      `(Lean.Parser.Tactic.simpLemma| ↓$i:term)
    let b ← (post ++ ls.filter (fun l => !down l)).toArray.mapM fun (l : String) => do
      let i := Lean.mkIdent l.toName
      `(Lean.Parser.Tactic.simpLemma| $i:term)
    let all := a ++ b
    `(tactic| simp -implicitDefEqProofs -dsimp only [$all,*])
  | _ => Lean.Macro.throwUnsupported
section
noncomputable section
def m_primes_in_w2 (v_found : List D) (v_prime : D) (s : D × D) : Option (WH (D × D) (D)) :=
  (modX s.1 v_prime).bind fun t3 =>
  (eqX t3 (.int 0)).bind fun t4 =>
  if t4 = true then
    (iaddX s.2 (.int 1)).bind fun t5 =>
    (divX s.1 v_prime).bind fun t6 =>
    some (.go (t6, t5))
  else
    some (.dn (s.1, s.2))
def q_primes_in_w2 : WT := wTB (wBin dEq (wBin dMod (wVar 0) (wVar 2)) (wC (.int 0)))
def b_primes_in_w2 : WS := wSeq (wAug 3 iAdd (wC (.int 1)))
  (wSet 0 (wFr (wBin dDiv (wVar 0) (wVar 2))))
theorem l_primes_in_w2 (W : TX) (nx : TSt → Prop) (rt : R → TSt → Prop) (bk ct : TSt → Prop) (v_found : List D) (v_prime : D) (v_n : D) (v_often : D) : whileK q_primes_in_w2 b_primes_in_w2 W [.v v_n, .own (.lst v_found), .v v_prime, .v v_often] ⟨nx, rt, bk, ct⟩ ⟨⟩ = oP (whX (m_primes_in_w2 v_found v_prime) (v_n, v_often)) fun o => o.cs (fun s => nx [.v s.1, .own (.lst v_found), .v v_prime, .v s.2]) (fun r => rt (.v r) [.un, .un, .un, .un]) := whileK_X (fun s : D × D => [.v s.1, .own (.lst v_found), .v v_prime, .v s.2]) (fun r => rt (.v r) [.un, .un, .un, .un]) (m_primes_in_w2 v_found v_prime) (fun s nxt => by walk_at "mx  m_primes_in_w2 b_primes_in_w2 q_primes_in_w2") (v_n, v_often)
def m_primes_in_j3 (v_n : D) (v_found : List D) (v_prime : D) (v_often : D) : Option (List D) :=
  (gtX v_often (.int 0)).bind fun t9 =>
  if t9 = true then
    (appX v_found (.tup [v_prime, v_often])).bind fun t10 =>
    some t10
  else
    some v_found
def j_primes_in_j3 : WS := wIf (wTB (wBin dGt (wVar 3) (wC (.int 0))))
  (wSeq (wDrop (wApp 1 (wCons (wTup (wCons (wVar 2) (wCons (wVar 3) (wNil)))) (wNil)))) (wGhN [.kp, .kp, .kp, .kl]))
  (wSeq (wNext) (wGhN [.kp, .kp, .kp, .kl]))
theorem l_primes_in_j3 (W : TX) (nx : TSt → Prop) (rt : R → TSt → Prop) (bk ct : TSt → Prop) (v_n : D) (v_found : List D) (v_prime : D) (v_often : D) : j_primes_in_j3 W [.v v_n, .own (.lst v_found), .v v_prime, .v v_often] ⟨nx, rt, bk, ct⟩ = oP (m_primes_in_j3 v_n v_found v_prime v_often) fun s => nx [.v v_n, .own (.lst s), .v v_prime, .un] := by walk_at "mx l_primes_in_w2 m_primes_in_j3 j_primes_in_j3"
def m_primes_in_w1  (s : D × (List D) × D) : Option (WH (D × (List D) × D) (D)) :=
  (mulAX s.2.2 s.2.2).bind fun t1 =>
  (leX t1 s.1).bind fun t2 =>
  if t2 = true then
    (whX (m_primes_in_w2 s.2.1 s.2.2) (s.1, (.int 0))).bind fun t7 =>
    t7.cs (fun s8 =>
      (m_primes_in_j3 s8.1 s.2.1 s.2.2 s8.2).bind fun t11 =>
      (iaddX s.2.2 (.int 1)).bind fun t12 =>
      some (.go (s8.1, t11, t12)))
      (fun r => some (.rt r))
  else
    some (.dn (s.1, s.2.1, s.2.2))
def q_primes_in_w1 : WT := wTB (wBin dLe (wBin dMulA (wVar 2) (wVar 2)) (wVar 0))
def b_primes_in_w1 : WS := wSeq (wSet 3 (wFr (wC (.int 0))))
  (wSeq (wWhile q_primes_in_w2 b_primes_in_w2)
  (wSeq (j_primes_in_j3)
  (wAug 2 iAdd (wC (.int 1)))))
theorem l_primes_in_w1 (W : TX) (nx : TSt → Prop) (rt : R → TSt → Prop) (bk ct : TSt → Prop)  (v_n : D) (v_found : List D) (v_prime : D) : whileK q_primes_in_w1 b_primes_in_w1 W [.v v_n, .own (.lst v_found), .v v_prime, .un] ⟨nx, rt, bk, ct⟩ ⟨⟩ = oP (whX (m_primes_in_w1 ) (v_n, v_found, v_prime)) fun o => o.cs (fun s => nx [.v s.1, .own (.lst s.2.1), .v s.2.2, .un]) (fun r => rt (.v r) [.un, .un, .un, .un]) := whileK_X (fun s : D × (List D) × D => [.v s.1, .own (.lst s.2.1), .v s.2.2, .un]) (fun r => rt (.v r) [.un, .un, .un, .un]) (m_primes_in_w1 ) (fun s nxt => by walk_at "mx l_primes_in_w2 l_primes_in_j3 m_primes_in_w1 b_primes_in_w1 q_primes_in_w1") (v_n, v_found, v_prime)
def m_primes_in_j4 (v_n : D) (v_found : List D) : Option (List D) :=
  (gtX v_n (.int 1)).bind fun t15 =>
  if t15 = true then
    (appX v_found (.tup [v_n, (.int 1)])).bind fun t16 =>
    some t16
  else
    some v_found
def j_primes_in_j4 : WS := wIf (wTB (wBin dGt (wVar 0) (wC (.int 1))))
  (wSeq (wDrop (wApp 1 (wCons (wTup (wCons (wVar 0) (wCons (wC (.int 1)) (wNil)))) (wNil)))) (wGhN [.kl, .kp, .kp, .kp]))
  (wSeq (wNext) (wGhN [.kl, .kp, .kp, .kp]))
theorem l_primes_in_j4 (W : TX) (nx : TSt → Prop) (rt : R → TSt → Prop) (bk ct : TSt → Prop) (v_n : D) (v_found : List D) : j_primes_in_j4 W [.v v_n, .own (.lst v_found), .un, .un] ⟨nx, rt, bk, ct⟩ = oP (m_primes_in_j4 v_n v_found) fun s => nx [.un, .own (.lst s), .un, .un] := by walk_at "mx l_primes_in_w2 l_primes_in_j3 l_primes_in_w1 m_primes_in_j4 j_primes_in_j4"
def m_primes_in (v_n : D) : Option (D) :=
  (whX (m_primes_in_w1 ) (v_n, [], (.int 2))).bind fun t13 =>
  t13.cs (fun s14 =>
    (m_primes_in_j4 s14.1 s14.2.1).bind fun t17 =>
    (tupleX (.lst t17)).bind fun t18 =>
    some t18)
    (fun r => some r)
def w_primes_in : WS :=
  wSeq (wSet 1 (wLst (wNil)))
  (wSeq (wSet 2 (wFr (wC (.int 2))))
  (wSeq (wWhile q_primes_in_w1 b_primes_in_w1)
  (wSeq (wSeq (wGhN [.kp, .kp, .kl, .kp]) (j_primes_in_j4))
  (wRetG [false, false, false, false] (wFr (wBiK nTuple 1))))))
def sp_primes_in : TSpec := fun args PQ _ => ∃ (v_n : D), args = [.v v_n] ∧ oP (m_primes_in v_n) fun r => PQ (.v r) []
theorem cl_primes_in (v_n : D) (PQ : R → List Cell → Prop) (PX : String → Pay → List Cell → Prop) : callK sp_primes_in [.v v_n] PQ PX ⟨⟩ = oP (m_primes_in v_n) fun r => PQ (.v r) [] := by
  unfold callK sp_primes_in
  refine propext ⟨fun h => ?_, fun h => ?_⟩
  · obtain ⟨_, e, h⟩ := h; cases e; exact h
  · exact ⟨_, rfl, h⟩
theorem e_primes_in (PQ : R → List Cell → Prop) (PX : String → Pay → List Cell → Prop) (v_n : D) : w_primes_in (fnX [.v v_n] PX) (start0 4 [.v v_n]) (fnD [.v v_n] PQ) = oP (m_primes_in v_n) fun r => PQ (.v r) [] := by walk_at "mx l_primes_in_w2 l_primes_in_j3 l_primes_in_w1 l_primes_in_j4 m_primes_in w_primes_in"
theorem ok_primes_in : ∀ args PQ PX, sp_primes_in args PQ PX → w_primes_in (fnX args PX) (start0 4 args) (fnD args PQ) := by
  rintro args PQ PX ⟨_, rfl, h⟩
  rw [e_primes_in]; exact h
theorem hl_primes_in : ∀ args PQ PX, sp_primes_in args PQ PX → args.length = 1 := by
  rintro args PQ PX ⟨_, rfl, h⟩; rfl
def m_to_the_f1 (v_p : D) (s : D) (d : D) : Option (D) :=
  (imulX s v_p).bind fun t2 =>
  some t2
def b_to_the_f1 : WS := wSeq (wAug 2 iMul (wVar 0))
  (wGhN [.kp, .kp, .kp, .kl])
theorem l_to_the_f1 (W : TX) (nx : TSt → Prop) (rt : R → TSt → Prop) (bk ct : TSt → Prop) (v_p : D) (v_found : D) (ds : List D) : forK (gN 3) b_to_the_f1 W ds [.v v_p, .un, .v v_found, .un] ⟨nx, rt, bk, ct⟩ ⟨⟩ = oP (foldX (m_to_the_f1 v_p) ds v_found) fun s => nx [.v v_p, .un, .v s, .un] := forK_fold (fun s : D => [.v v_p, .un, .v s, .un]) (m_to_the_f1 v_p) (fun s d nxt => by walk_at "mx  m_to_the_f1 b_to_the_f1") ds v_found
def m_to_the (v_p : D) (v_m : D) : Option (D) :=
  (rg1X v_m).bind fun t1 =>
  (foldX (m_to_the_f1 v_p) t1 (.int 1)).bind fun t3 =>
  some t3
def w_to_the : WS :=
  wSeq (wSet 2 (wFr (wC (.int 1))))
  (wSeq (wFor (wIgh [.kp, .kl, .kp, .kp] (wR1 (wCons (wVar 1) (wNil)))) (gN 3) b_to_the_f1)
  (wRetG [false, false, false, false] (wFr (wVar 2))))
def sp_to_the : TSpec := fun args PQ _ => ∃ (v_p : D) (v_m : D), args = [.v v_p, .v v_m] ∧ oP (m_to_the v_p v_m) fun r => PQ (.v r) []
theorem cl_to_the (v_p : D) (v_m : D) (PQ : R → List Cell → Prop) (PX : String → Pay → List Cell → Prop) : callK sp_to_the [.v v_p, .v v_m] PQ PX ⟨⟩ = oP (m_to_the v_p v_m) fun r => PQ (.v r) [] := by
  unfold callK sp_to_the
  refine propext ⟨fun h => ?_, fun h => ?_⟩
  · obtain ⟨_, _, e, h⟩ := h; cases e; exact h
  · exact ⟨_, _, rfl, h⟩
theorem e_to_the (PQ : R → List Cell → Prop) (PX : String → Pay → List Cell → Prop) (v_p : D) (v_m : D) : w_to_the (fnX [.v v_p, .v v_m] PX) (start0 4 [.v v_p, .v v_m]) (fnD [.v v_p, .v v_m] PQ) = oP (m_to_the v_p v_m) fun r => PQ (.v r) [] := by walk_at "mx l_to_the_f1 m_to_the w_to_the"
theorem ok_to_the : ∀ args PQ PX, sp_to_the args PQ PX → w_to_the (fnX args PX) (start0 4 args) (fnD args PQ) := by
  rintro args PQ PX ⟨_, _, rfl, h⟩
  rw [e_to_the]; exact h
theorem hl_to_the : ∀ args PQ PX, sp_to_the args PQ PX → args.length = 2 := by
  rintro args PQ PX ⟨_, _, rfl, h⟩; rfl
def m_rows_of_numbers_c3 (v_row : D)  (d : D) : Option (D) :=
  (addX v_row (.tup [d])).bind fun t4 =>
  some t4
def e_rows_of_numbers_c3 : WE := wBin dAdd (wVar 5) (wTup (wCons (wVar 6) (wNil)))
theorem l_rows_of_numbers_c3 (v_p : D) (v_longer : List D) (v_row : D) (ds : List D) (Q : List D → TSt → Prop) : (lenOk ds ∧ lcK (gN 6) wYes e_rows_of_numbers_c3 [6] ds [] [.v v_p, .un, .un, .un, .own (.lst v_longer), .v v_row, .un] Q ⟨⟩) = oP (mapX (m_rows_of_numbers_c3 v_row) ds) fun l => Q l [.v v_p, .un, .un, .un, .own (.lst v_longer), .v v_row, .un] := lc_map [.v v_p, .un, .un, .un, .own (.lst v_longer), .v v_row, .un] (m_rows_of_numbers_c3 v_row) (fun d Y => by walk_at "mx  m_rows_of_numbers_c3 e_rows_of_numbers_c3") ds
def m_rows_of_numbers_f2 (v_p : D) (s : List D) (d : D) : Option (List D) :=
  (rg1X v_p).bind fun t3 =>
  (mapX (m_rows_of_numbers_c3 d) t3).bind fun t5 =>
  (extX s t5).bind fun t6 =>
  some t6
def b_rows_of_numbers_f2 : WS := wSeq (wDrop (wExt 4 (wCons (wLc (wIG (wR1 (wCons (wVar 0) (wNil)))) (gN 6) (wYes) e_rows_of_numbers_c3 [6]) (wNil))))
  (wGhN [.kp, .kp, .kp, .kp, .kp, .kl, .kp])
theorem l_rows_of_numbers_f2 (W : TX) (nx : TSt → Prop) (rt : R → TSt → Prop) (bk ct : TSt → Prop) (v_p : D) (v_longer : List D) (ds : List D) : forK (gN 5) b_rows_of_numbers_f2 W ds [.v v_p, .un, .un, .un, .own (.lst v_longer), .un, .un] ⟨nx, rt, bk, ct⟩ ⟨⟩ = oP (foldX (m_rows_of_numbers_f2 v_p) ds v_longer) fun s => nx [.v v_p, .un, .un, .un, .own (.lst s), .un, .un] := forK_fold (fun s : List D => [.v v_p, .un, .un, .un, .own (.lst s), .un, .un]) (m_rows_of_numbers_f2 v_p) (fun s d nxt => by walk_at "mx l_rows_of_numbers_c3 m_rows_of_numbers_f2 b_rows_of_numbers_f2") ds v_longer
def m_rows_of_numbers_f1 (v_p : D) (s : D) (d : D) : Option (D) :=
  (itX s).bind fun t2 =>
  (foldX (m_rows_of_numbers_f2 v_p) t2 []).bind fun t7 =>
  some (.lst t7)
def b_rows_of_numbers_f1 : WS := wSeq (wSeq (wSet 4 (wLst (wNil)))
  (wSeq (wFor (wIgh [.kp, .kp, .kl, .kl, .kp, .kp, .kp] (wItS (wVar 2))) (gN 5) b_rows_of_numbers_f2)
  (wSet 2 (wFr (wVar 4)))))
  (wGhN [.kp, .kp, .kp, .kp, .kl, .kp, .kp])
theorem l_rows_of_numbers_f1 (W : TX) (nx : TSt → Prop) (rt : R → TSt → Prop) (bk ct : TSt → Prop) (v_p : D) (v_found : D) (ds : List D) : forK (gN 3) b_rows_of_numbers_f1 W ds [.v v_p, .un, .v v_found, .un, .un, .un, .un] ⟨nx, rt, bk, ct⟩ ⟨⟩ = oP (foldX (m_rows_of_numbers_f1 v_p) ds v_found) fun s => nx [.v v_p, .un, .v s, .un, .un, .un, .un] := forK_fold (fun s : D => [.v v_p, .un, .v s, .un, .un, .un, .un]) (m_rows_of_numbers_f1 v_p) (fun s d nxt => by walk_at "mx l_rows_of_numbers_c3 l_rows_of_numbers_f2 m_rows_of_numbers_f1 b_rows_of_numbers_f1") ds v_found
def m_rows_of_numbers (v_p : D) (v_m : D) : Option (D) :=
  (rg1X v_m).bind fun t1 =>
  (foldX (m_rows_of_numbers_f1 v_p) t1 (.lst [(.tup [])])).bind fun t8 =>
  some t8
def w_rows_of_numbers : WS :=
  wSeq (wSet 2 (wFr (wLst (wCons (wTup (wNil)) (wNil)))))
  (wSeq (wFor (wIgh [.kp, .kl, .kp, .kp, .kp, .kp, .kp] (wR1 (wCons (wVar 1) (wNil)))) (gN 3) b_rows_of_numbers_f1)
  (wRetG [false, false, false, false, false, false, false] (wFr (wVar 2))))
def sp_rows_of_numbers : TSpec := fun args PQ _ => ∃ (v_p : D) (v_m : D), args = [.v v_p, .v v_m] ∧ oP (m_rows_of_numbers v_p v_m) fun r => PQ (.v r) []
theorem cl_rows_of_numbers (v_p : D) (v_m : D) (PQ : R → List Cell → Prop) (PX : String → Pay → List Cell → Prop) : callK sp_rows_of_numbers [.v v_p, .v v_m] PQ PX ⟨⟩ = oP (m_rows_of_numbers v_p v_m) fun r => PQ (.v r) [] := by
  unfold callK sp_rows_of_numbers
  refine propext ⟨fun h => ?_, fun h => ?_⟩
  · obtain ⟨_, _, e, h⟩ := h; cases e; exact h
  · exact ⟨_, _, rfl, h⟩
theorem e_rows_of_numbers (PQ : R → List Cell → Prop) (PX : String → Pay → List Cell → Prop) (v_p : D) (v_m : D) : w_rows_of_numbers (fnX [.v v_p, .v v_m] PX) (start0 7 [.v v_p, .v v_m]) (fnD [.v v_p, .v v_m] PQ) = oP (m_rows_of_numbers v_p v_m) fun r => PQ (.v r) [] := by walk_at "mx l_rows_of_numbers_c3 l_rows_of_numbers_f2 l_rows_of_numbers_f1 m_rows_of_numbers w_rows_of_numbers"
theorem ok_rows_of_numbers : ∀ args PQ PX, sp_rows_of_numbers args PQ PX → w_rows_of_numbers (fnX args PX) (start0 7 args) (fnD args PQ) := by
  rintro args PQ PX ⟨_, _, rfl, h⟩
  rw [e_rows_of_numbers]; exact h
theorem hl_rows_of_numbers : ∀ args PQ PX, sp_rows_of_numbers args PQ PX → args.length = 2 := by
  rintro args PQ PX ⟨_, _, rfl, h⟩; rfl
def m_rest_by_f2 (v_p : D) (v_form : D) (v_degree : D) (v_place : D) (v_many : D) (s : List D) (d : D) : Option (List D) :=
  (tup2X d).bind fun t10 =>
  (subX v_place v_degree).bind fun t11 =>
  (addX t11 t10.1).bind fun t12 =>
  (getX (.lst s) t12).bind fun t13 =>
  (mulAX v_many t10.2).bind fun t14 =>
  (subX t13 t14).bind fun t15 =>
  (modX t15 v_p).bind fun t16 =>
  (subX v_place v_degree).bind fun t17 =>
  (addX t17 t10.1).bind fun t18 =>
  (setX s t18 t16).bind fun t19 =>
  some t19
def b_rest_by_f2 : WS := wSeq (wPut 3 (wBin dAdd (wBin dSub (wVar 5) (wVar 4)) (wVar 7)) (wBin dMod (wBin dSub (wSubK dGet 3 (wBin dAdd (wBin dSub (wVar 5) (wVar 4)) (wVar 7))) (wBin dMulA (wVar 6) (wVar 8))) (wVar 0)))
  (wGhN [.kp, .kp, .kp, .kp, .kp, .kp, .kp, .kl, .kl])
theorem l_rest_by_f2 (W : TX) (nx : TSt → Prop) (rt : R → TSt → Prop) (bk ct : TSt → Prop) (v_p : D) (v_form : D) (v_degree : D) (v_place : D) (v_many : D) (v_left : List D) (ds : List D) : forK (gT 2 (gsCons (gN 7) (gsCons (gN 8) (gsNil)))) b_rest_by_f2 W ds [.v v_p, .un, .v v_form, .own (.lst v_left), .v v_degree, .v v_place, .v v_many, .un, .un] ⟨nx, rt, bk, ct⟩ ⟨⟩ = oP (foldX (m_rest_by_f2 v_p v_form v_degree v_place v_many) ds v_left) fun s => nx [.v v_p, .un, .v v_form, .own (.lst s), .v v_degree, .v v_place, .v v_many, .un, .un] := forK_fold (fun s : List D => [.v v_p, .un, .v v_form, .own (.lst s), .v v_degree, .v v_place, .v v_many, .un, .un]) (m_rest_by_f2 v_p v_form v_degree v_place v_many) (fun s d nxt => by walk_at "mx  m_rest_by_f2 b_rest_by_f2") ds v_left
def m_rest_by_f1 (v_p : D) (v_form : D) (v_degree : D) (s : List D) (d : D) : Option (List D) :=
  (getX (.lst s) d).bind fun t8 =>
  (enumerateX v_form).bind fun t9 =>
  (foldX (m_rest_by_f2 v_p v_form v_degree d t8) t9 s).bind fun t20 =>
  some t20
def b_rest_by_f1 : WS := wSeq (wSeq (wSet 6 (wFr (wSubK dGet 3 (wVar 5))))
  (wFor (wIenumerate (wCons (wVar 2) (wNil))) (gT 2 (gsCons (gN 7) (gsCons (gN 8) (gsNil)))) b_rest_by_f2))
  (wGhN [.kp, .kp, .kp, .kp, .kp, .kl, .kl, .kp, .kp])
theorem l_rest_by_f1 (W : TX) (nx : TSt → Prop) (rt : R → TSt → Prop) (bk ct : TSt → Prop) (v_p : D) (v_form : D) (v_degree : D) (v_left : List D) (ds : List D) : forK (gN 5) b_rest_by_f1 W ds [.v v_p, .un, .v v_form, .own (.lst v_left), .v v_degree, .un, .un, .un, .un] ⟨nx, rt, bk, ct⟩ ⟨⟩ = oP (foldX (m_rest_by_f1 v_p v_form v_degree) ds v_left) fun s => nx [.v v_p, .un, .v v_form, .own (.lst s), .v v_degree, .un, .un, .un, .un] := forK_fold (fun s : List D => [.v v_p, .un, .v v_form, .own (.lst s), .v v_degree, .un, .un, .un, .un]) (m_rest_by_f1 v_p v_form v_degree) (fun s d nxt => by walk_at "mx l_rest_by_f2 m_rest_by_f1 b_rest_by_f1") ds v_left
def m_rest_by (v_p : D) (v_row : D) (v_form : D) : Option (D) :=
  (listX v_row).bind fun t1 =>
  (lenX v_form).bind fun t2 =>
  (subX t2 (.int 1)).bind fun t3 =>
  (lenX v_row).bind fun t4 =>
  (subX t4 (.int 1)).bind fun t5 =>
  (subX t3 (.int 1)).bind fun t6 =>
  (rg3X t5 t6 (.int (-1))).bind fun t7 =>
  (foldX (m_rest_by_f1 v_p v_form t3) t7 t1).bind fun t21 =>
  (asI t3).bind fun t22 =>
  (slX (.lst t21) none (some t22)).bind fun t23 =>
  (tupleX t23).bind fun t24 =>
  some t24
def w_rest_by : WS :=
  wSeq (wSet 3 (wBiK nList 1))
  (wSeq (wSet 4 (wFr (wBin dSub (wBiK nLen 2) (wC (.int 1)))))
  (wSeq (wFor (wIgh [.kp, .kl, .kp, .kp, .kp, .kp, .kp, .kp, .kp] (wR3 (wCons (wBin dSub (wBiK nLen 1) (wC (.int 1))) (wCons (wBin dSub (wVar 4) (wC (.int 1))) (wCons (wNeg (wC (.int 1))) (wNil)))))) (gN 5) b_rest_by_f1)
  (wRetG [false, false, false, false, false, false, false, false, false] (wFr (wBi nTuple (wCons (wSl (wVar 3) (oNone) (oSome (wFr (wVar 4)))) (wNil)))))))
def sp_rest_by : TSpec := fun args PQ _ => ∃ (v_p : D) (v_row : D) (v_form : D), args = [.v v_p, .v v_row, .v v_form] ∧ oP (m_rest_by v_p v_row v_form) fun r => PQ (.v r) []
theorem cl_rest_by (v_p : D) (v_row : D) (v_form : D) (PQ : R → List Cell → Prop) (PX : String → Pay → List Cell → Prop) : callK sp_rest_by [.v v_p, .v v_row, .v v_form] PQ PX ⟨⟩ = oP (m_rest_by v_p v_row v_form) fun r => PQ (.v r) [] := by
  unfold callK sp_rest_by
  refine propext ⟨fun h => ?_, fun h => ?_⟩
  · obtain ⟨_, _, _, e, h⟩ := h; cases e; exact h
  · exact ⟨_, _, _, rfl, h⟩
theorem e_rest_by (PQ : R → List Cell → Prop) (PX : String → Pay → List Cell → Prop) (v_p : D) (v_row : D) (v_form : D) : w_rest_by (fnX [.v v_p, .v v_row, .v v_form] PX) (start0 9 [.v v_p, .v v_row, .v v_form]) (fnD [.v v_p, .v v_row, .v v_form] PQ) = oP (m_rest_by v_p v_row v_form) fun r => PQ (.v r) [] := by walk_at "mx l_rest_by_f2 l_rest_by_f1 m_rest_by w_rest_by"
theorem ok_rest_by : ∀ args PQ PX, sp_rest_by args PQ PX → w_rest_by (fnX args PX) (start0 9 args) (fnD args PQ) := by
  rintro args PQ PX ⟨_, _, _, rfl, h⟩
  rw [e_rest_by]; exact h
theorem hl_rest_by : ∀ args PQ PX, sp_rest_by args PQ PX → args.length = 3 := by
  rintro args PQ PX ⟨_, _, _, rfl, h⟩; rfl
def m_is_prime (v_n : D) : Option (D) :=
  (gtX v_n (.int 1)).bind fun t1 =>
  (if t1 = true then (m_primes_in v_n).bind fun t2 =>
    (eqX t2 (.tup [(.tup [v_n, (.int 1)])])).bind fun t3 =>
    some (.bl t3) else some (.bl false)).bind fun t4 =>
  some t4
def w_is_prime : WS :=
  wRetG [false] (wFr (wAndV (wBin dGt (wVar 0) (wC (.int 1))) (wBin dEq (wCall sp_primes_in (aV (wVar 0) (aNil))) (wTup (wCons (wTup (wCons (wVar 0) (wCons (wC (.int 1)) (wNil)))) (wNil))))))
def sp_is_prime : TSpec := fun args PQ _ => ∃ (v_n : D), args = [.v v_n] ∧ oP (m_is_prime v_n) fun r => PQ (.v r) []
theorem cl_is_prime (v_n : D) (PQ : R → List Cell → Prop) (PX : String → Pay → List Cell → Prop) : callK sp_is_prime [.v v_n] PQ PX ⟨⟩ = oP (m_is_prime v_n) fun r => PQ (.v r) [] := by
  unfold callK sp_is_prime
  refine propext ⟨fun h => ?_, fun h => ?_⟩
  · obtain ⟨_, e, h⟩ := h; cases e; exact h
  · exact ⟨_, rfl, h⟩
theorem e_is_prime (PQ : R → List Cell → Prop) (PX : String → Pay → List Cell → Prop) (v_n : D) : w_is_prime (fnX [.v v_n] PX) (start0 1 [.v v_n]) (fnD [.v v_n] PQ) = oP (m_is_prime v_n) fun r => PQ (.v r) [] := by walk_at "mx cl_primes_in m_is_prime w_is_prime"
theorem ok_is_prime : ∀ args PQ PX, sp_is_prime args PQ PX → w_is_prime (fnX args PX) (start0 1 args) (fnD args PQ) := by
  rintro args PQ PX ⟨_, rfl, h⟩
  rw [e_is_prime]; exact h
theorem hl_is_prime : ∀ args PQ PX, sp_is_prime args PQ PX → args.length = 1 := by
  rintro args PQ PX ⟨_, rfl, h⟩; rfl
def m_is_product_f2 (v_p : D) (v_form : D) (s : Unit) (d : D) : Option (SO (Unit) (D)) :=
  (addX d (.tup [(.int 1)])).bind fun t8 =>
  (m_rest_by v_p v_form t8).bind fun t9 =>
  (anyTX t9).bind fun t10 =>
  if (!t10) = true then
    some (.rt (.bl true))
  else
    some (.nx ())
def b_is_product_f2 : WS := wSeq (wIf (wNot (wTru (wBi nAnyT (wCons (wCall sp_rest_by (aV (wVar 0) (aV (wVar 1) (aV (wBin dAdd (wVar 4) (wTup (wCons (wC (.int 1)) (wNil)))) (aNil))))) (wNil)))))
  (wRetG [false, false, false, false, false] (wFr (wC (.bl true))))
  (wNext))
  (wGhN [.kp, .kp, .kp, .kp, .kl])
theorem l_is_product_f2 (W : TX) (nx : TSt → Prop) (rt : R → TSt → Prop) (bk ct : TSt → Prop) (v_p : D) (v_form : D)  (ds : List D) : forK (gN 4) b_is_product_f2 W ds [.v v_p, .v v_form, .un, .un, .un] ⟨nx, rt, bk, ct⟩ ⟨⟩ = oP (forX (m_is_product_f2 v_p v_form) ds ()) fun o => o.cs (fun s => nx [.v v_p, .v v_form, .un, .un, .un]) (fun r => rt (.v r) [.un, .un, .un, .un, .un]) := forK_for (fun s : Unit => [.v v_p, .v v_form, .un, .un, .un]) (fun r => rt (.v r) [.un, .un, .un, .un, .un]) (m_is_product_f2 v_p v_form) (fun s d nxt => by walk_at "mx e_nAnyT cl_rows_of_numbers cl_rest_by m_is_product_f2 b_is_product_f2") ds ()
def m_is_product_f1 (v_p : D) (v_form : D) (s : Unit) (d : D) : Option (SO (Unit) (D)) :=
  (m_rows_of_numbers v_p d).bind fun t6 =>
  (itX t6).bind fun t7 =>
  (forX (m_is_product_f2 v_p v_form) t7 ()).bind fun t11 =>
  t11.cs (fun s12 =>
    some (.nx ()))
    (fun r => some (.rt r))
def b_is_product_f1 : WS := wFor (wIgh [.kp, .kp, .kp, .kl, .kp] (wItS (wCall sp_rows_of_numbers (aV (wVar 0) (aV (wVar 3) (aNil)))))) (gN 4) b_is_product_f2
theorem l_is_product_f1 (W : TX) (nx : TSt → Prop) (rt : R → TSt → Prop) (bk ct : TSt → Prop) (v_p : D) (v_form : D)  (ds : List D) : forK (gN 3) b_is_product_f1 W ds [.v v_p, .v v_form, .un, .un, .un] ⟨nx, rt, bk, ct⟩ ⟨⟩ = oP (forX (m_is_product_f1 v_p v_form) ds ()) fun o => o.cs (fun s => nx [.v v_p, .v v_form, .un, .un, .un]) (fun r => rt (.v r) [.un, .un, .un, .un, .un]) := forK_for (fun s : Unit => [.v v_p, .v v_form, .un, .un, .un]) (fun r => rt (.v r) [.un, .un, .un, .un, .un]) (m_is_product_f1 v_p v_form) (fun s d nxt => by walk_at "mx e_nAnyT l_is_product_f2 cl_rows_of_numbers cl_rest_by m_is_product_f1 b_is_product_f1") ds ()
def m_is_product (v_p : D) (v_form : D) : Option (D) :=
  (lenX v_form).bind fun t1 =>
  (subX t1 (.int 1)).bind fun t2 =>
  (divX t2 (.int 2)).bind fun t3 =>
  (addX t3 (.int 1)).bind fun t4 =>
  (rg2X (.int 1) t4).bind fun t5 =>
  (forX (m_is_product_f1 v_p v_form) t5 ()).bind fun t13 =>
  t13.cs (fun s14 =>
    some (.bl false))
    (fun r => some r)
def w_is_product : WS :=
  wSeq (wSet 2 (wFr (wBin dSub (wBiK nLen 1) (wC (.int 1)))))
  (wSeq (wFor (wIgh [.kp, .kp, .kl, .kp, .kp] (wR2 (wCons (wC (.int 1)) (wCons (wBin dAdd (wBin dDiv (wVar 2) (wC (.int 2))) (wC (.int 1))) (wNil))))) (gN 3) b_is_product_f1)
  (wRetG [false, false, false, false, false] (wFr (wC (.bl false)))))
def sp_is_product : TSpec := fun args PQ _ => ∃ (v_p : D) (v_form : D), args = [.v v_p, .v v_form] ∧ oP (m_is_product v_p v_form) fun r => PQ (.v r) []
theorem cl_is_product (v_p : D) (v_form : D) (PQ : R → List Cell → Prop) (PX : String → Pay → List Cell → Prop) : callK sp_is_product [.v v_p, .v v_form] PQ PX ⟨⟩ = oP (m_is_product v_p v_form) fun r => PQ (.v r) [] := by
  unfold callK sp_is_product
  refine propext ⟨fun h => ?_, fun h => ?_⟩
  · obtain ⟨_, _, e, h⟩ := h; cases e; exact h
  · exact ⟨_, _, rfl, h⟩
theorem e_is_product (PQ : R → List Cell → Prop) (PX : String → Pay → List Cell → Prop) (v_p : D) (v_form : D) : w_is_product (fnX [.v v_p, .v v_form] PX) (start0 5 [.v v_p, .v v_form]) (fnD [.v v_p, .v v_form] PQ) = oP (m_is_product v_p v_form) fun r => PQ (.v r) [] := by walk_at "mx e_nAnyT l_is_product_f2 l_is_product_f1 cl_rows_of_numbers cl_rest_by m_is_product w_is_product"
theorem ok_is_product : ∀ args PQ PX, sp_is_product args PQ PX → w_is_product (fnX args PX) (start0 5 args) (fnD args PQ) := by
  rintro args PQ PX ⟨_, _, rfl, h⟩
  rw [e_is_product]; exact h
theorem hl_is_product : ∀ args PQ PX, sp_is_product args PQ PX → args.length = 2 := by
  rintro args PQ PX ⟨_, _, rfl, h⟩; rfl
def m_is_power_within (v_p : D) (v_m : D) (v_most : D) : Option (D) :=
  (leX (.int 2) v_p).bind fun t1 =>
  (if t1 = true then (leX v_p v_most).bind fun t2 =>
    some t2 else some false).bind fun t3 =>
  (if (!t3) = true then some true else (leX (.int 1) v_m).bind fun t4 =>
    (if t4 = true then (leX v_m (.int 11)).bind fun t5 =>
      some t5 else some false).bind fun t6 =>
    some (!t6)).bind fun t7 =>
  if t7 = true then
    some (.bl false)
  else
    (m_to_the v_p v_m).bind fun t8 =>
    (leX t8 v_most).bind fun t9 =>
    (if t9 = true then (m_is_prime v_p).bind fun t10 =>
      some t10 else some (.bl false)).bind fun t11 =>
    some t11
def w_is_power_within : WS :=
  wSeq (wIf (wOr (wNot (wTB (wCh dLe dLe (wC (.int 2)) (wVar 0) (wVar 2)))) (wNot (wTB (wCh dLe dLe (wC (.int 1)) (wVar 1) (wC (.int 11))))))
  (wRetG [false, false, false] (wFr (wC (.bl false))))
  (wNext))
  (wRetG [false, false, false] (wFr (wAndV (wBin dLe (wCall sp_to_the (aV (wVar 0) (aV (wVar 1) (aNil)))) (wVar 2)) (wCall sp_is_prime (aV (wVar 0) (aNil))))))
def sp_is_power_within : TSpec := fun args PQ _ => ∃ (v_p : D) (v_m : D) (v_most : D), args = [.v v_p, .v v_m, .v v_most] ∧ oP (m_is_power_within v_p v_m v_most) fun r => PQ (.v r) []
theorem cl_is_power_within (v_p : D) (v_m : D) (v_most : D) (PQ : R → List Cell → Prop) (PX : String → Pay → List Cell → Prop) : callK sp_is_power_within [.v v_p, .v v_m, .v v_most] PQ PX ⟨⟩ = oP (m_is_power_within v_p v_m v_most) fun r => PQ (.v r) [] := by
  unfold callK sp_is_power_within
  refine propext ⟨fun h => ?_, fun h => ?_⟩
  · obtain ⟨_, _, _, e, h⟩ := h; cases e; exact h
  · exact ⟨_, _, _, rfl, h⟩
theorem e_is_power_within (PQ : R → List Cell → Prop) (PX : String → Pay → List Cell → Prop) (v_p : D) (v_m : D) (v_most : D) : w_is_power_within (fnX [.v v_p, .v v_m, .v v_most] PX) (start0 3 [.v v_p, .v v_m, .v v_most]) (fnD [.v v_p, .v v_m, .v v_most] PQ) = oP (m_is_power_within v_p v_m v_most) fun r => PQ (.v r) [] := by walk_at "mx cl_to_the cl_is_prime m_is_power_within w_is_power_within"
theorem ok_is_power_within : ∀ args PQ PX, sp_is_power_within args PQ PX → w_is_power_within (fnX args PX) (start0 3 args) (fnD args PQ) := by
  rintro args PQ PX ⟨_, _, _, rfl, h⟩
  rw [e_is_power_within]; exact h
theorem hl_is_power_within : ∀ args PQ PX, sp_is_power_within args PQ PX → args.length = 3 := by
  rintro args PQ PX ⟨_, _, _, rfl, h⟩; rfl
def m_least_whole_f1 (v_p : D) (s : Unit) (d : D) : Option (SO (Unit) (D)) :=
  (addX d (.tup [(.int 1)])).bind fun t3 =>
  (m_is_product v_p t3).bind fun t4 =>
  (truX t4).bind fun t5 =>
  if (!t5) = true then
    (addX d (.tup [(.int 1)])).bind fun t6 =>
    some (.rt t6)
  else
    some (.nx ())
def b_least_whole_f1 : WS := wSeq (wIf (wNot (wTru (wCall sp_is_product (aV (wVar 0) (aV (wBin dAdd (wVar 2) (wTup (wCons (wC (.int 1)) (wNil)))) (aNil))))))
  (wRetG [false, false, false] (wFr (wBin dAdd (wVar 2) (wTup (wCons (wC (.int 1)) (wNil))))))
  (wNext))
  (wGhN [.kp, .kp, .kl])
theorem l_least_whole_f1 (W : TX) (nx : TSt → Prop) (rt : R → TSt → Prop) (bk ct : TSt → Prop) (v_p : D)  (ds : List D) : forK (gN 2) b_least_whole_f1 W ds [.v v_p, .un, .un] ⟨nx, rt, bk, ct⟩ ⟨⟩ = oP (forX (m_least_whole_f1 v_p) ds ()) fun o => o.cs (fun s => nx [.v v_p, .un, .un]) (fun r => rt (.v r) [.un, .un, .un]) := forK_for (fun s : Unit => [.v v_p, .un, .un]) (fun r => rt (.v r) [.un, .un, .un]) (m_least_whole_f1 v_p) (fun s d nxt => by walk_at "mx cl_rows_of_numbers cl_is_product m_least_whole_f1 b_least_whole_f1") ds ()
def m_least_whole (v_p : D) (v_m : D) : Option (D) :=
  (m_rows_of_numbers v_p v_m).bind fun t1 =>
  (itX t1).bind fun t2 =>
  (forX (m_least_whole_f1 v_p) t2 ()).bind fun t7 =>
  t7.cs (fun s8 =>
    some .non)
    (fun r => some r)
def w_least_whole : WS :=
  wSeq (wFor (wIgh [.kp, .kl, .kp] (wItS (wCall sp_rows_of_numbers (aV (wVar 0) (aV (wVar 1) (aNil)))))) (gN 2) b_least_whole_f1)
  (wRetG [false, false, false] (wFr (wC .non)))
def sp_least_whole : TSpec := fun args PQ _ => ∃ (v_p : D) (v_m : D), args = [.v v_p, .v v_m] ∧ oP (m_least_whole v_p v_m) fun r => PQ (.v r) []
theorem cl_least_whole (v_p : D) (v_m : D) (PQ : R → List Cell → Prop) (PX : String → Pay → List Cell → Prop) : callK sp_least_whole [.v v_p, .v v_m] PQ PX ⟨⟩ = oP (m_least_whole v_p v_m) fun r => PQ (.v r) [] := by
  unfold callK sp_least_whole
  refine propext ⟨fun h => ?_, fun h => ?_⟩
  · obtain ⟨_, _, e, h⟩ := h; cases e; exact h
  · exact ⟨_, _, rfl, h⟩
theorem e_least_whole (PQ : R → List Cell → Prop) (PX : String → Pay → List Cell → Prop) (v_p : D) (v_m : D) : w_least_whole (fnX [.v v_p, .v v_m] PX) (start0 3 [.v v_p, .v v_m]) (fnD [.v v_p, .v v_m] PQ) = oP (m_least_whole v_p v_m) fun r => PQ (.v r) [] := by walk_at "mx l_least_whole_f1 cl_rows_of_numbers cl_is_product m_least_whole w_least_whole"
theorem ok_least_whole : ∀ args PQ PX, sp_least_whole args PQ PX → w_least_whole (fnX args PX) (start0 3 args) (fnD args PQ) := by
  rintro args PQ PX ⟨_, _, rfl, h⟩
  rw [e_least_whole]; exact h
theorem hl_least_whole : ∀ args PQ PX, sp_least_whole args PQ PX → args.length = 2 := by
  rintro args PQ PX ⟨_, _, rfl, h⟩; rfl
end
end
section
noncomputable section
def m_law_hand_j1 (v_script : D) (v_k : D) (v_cell : D) : Option (D) :=
  (lenX v_script).bind fun t1 =>
  (ltAX v_k t1).bind fun t2 =>
  if t2 = true then
    (getX v_script v_k).bind fun t3 =>
    some t3
  else
    some v_cell
def j_law_hand_j1 : WS := wIf (wTB (wBin dLtA (wVar 1) (wBiK nLen 0)))
  (wSeq (wSet 2 (wFr (wSubK dGet 0 (wVar 1)))) (wGhN [.kl, .kp, .kp, .kp]))
  (wSeq (wNext) (wGhN [.kl, .kp, .kp, .kp]))
theorem l_law_hand_j1 (W : TX) (nx : TSt → Prop) (rt : R → TSt → Prop) (bk ct : TSt → Prop) (v_script : D) (v_k : D) (v_cell : D) : j_law_hand_j1 W [.v v_script, .v v_k, .v v_cell, .un] ⟨nx, rt, bk, ct⟩ = oP (m_law_hand_j1 v_script v_k v_cell) fun s => nx [.un, .v v_k, .v s, .un] := by walk_at "mx  m_law_hand_j1 j_law_hand_j1"
def m_law_hand (v_script : D) (v_k : D) : Option (List D) :=
  (m_law_hand_j1 v_script v_k (.int 0)).bind fun t4 =>
  (powX (.int 10) (.int 60)).bind fun t5 =>
  (powX (.int 10) (.int 30)).bind fun t6 =>
  (mulAX t5 t6).bind fun t7 =>
  (modX t4 t7).bind fun t8 =>
  (powX (.int 10) (.int 18)).bind fun t9 =>
  (geX t4 t9).bind fun t10 =>
  (intX (.bl t10)).bind fun t11 =>
  (mulIX t8 t11).bind fun t12 =>
  (modX t4 (.int 2305843009213693951)).bind fun t13 =>
  (mulAX (.int 7919) v_k).bind fun t14 =>
  (addX t13 t14).bind fun t15 =>
  (addX t15 (.int 3)).bind fun t16 =>
  (modX t16 (.int 2305843009213693951)).bind fun t17 =>
  some ([t12, t17, (.int 0)])
def w_law_hand : WS :=
  wSeq (wSet 2 (wFr (wC (.int 0))))
  (wSeq (j_law_hand_j1)
  (wSeq (wSet 3 (wFr (wBin dMulI (wBin dMod (wVar 2) (wBin dMulA (wBin dPow (wC (.int 10)) (wC (.int 60))) (wBin dPow (wC (.int 10)) (wC (.int 30))))) (wBi nInt (wCons (wBin dGe (wVar 2) (wBin dPow (wC (.int 10)) (wC (.int 18)))) (wNil))))))
  (wRetG [false, false, false, false] (wLst (wCons (wVar 3) (wCons (wBin dMod (wBin dAdd (wBin dAdd (wBin dMod (wVar 2) (wC (.int 2305843009213693951))) (wBin dMulA (wC (.int 7919)) (wVar 1))) (wC (.int 3))) (wC (.int 2305843009213693951))) (wCons (wC (.int 0)) (wNil))))))))
def sp_law_hand : TSpec := fun args PQ _ => ∃ (v_script : D) (v_k : D), args = [.v v_script, .v v_k] ∧ oP (m_law_hand v_script v_k) fun r => PQ (.own (.lst r)) []
theorem cl_law_hand (v_script : D) (v_k : D) (PQ : R → List Cell → Prop) (PX : String → Pay → List Cell → Prop) : callK sp_law_hand [.v v_script, .v v_k] PQ PX ⟨⟩ = oP (m_law_hand v_script v_k) fun r => PQ (.own (.lst r)) [] := by
  unfold callK sp_law_hand
  refine propext ⟨fun h => ?_, fun h => ?_⟩
  · obtain ⟨_, _, e, h⟩ := h; cases e; exact h
  · exact ⟨_, _, rfl, h⟩
theorem e_law_hand (PQ : R → List Cell → Prop) (PX : String → Pay → List Cell → Prop) (v_script : D) (v_k : D) : w_law_hand (fnX [.v v_script, .v v_k] PX) (start0 4 [.v v_script, .v v_k]) (fnD [.v v_script, .v v_k] PQ) = oP (m_law_hand v_script v_k) fun r => PQ (.own (.lst r)) [] := by walk_at "mx l_law_hand_j1 e_dMulI m_law_hand w_law_hand"
theorem ok_law_hand : ∀ args PQ PX, sp_law_hand args PQ PX → w_law_hand (fnX args PX) (start0 4 args) (fnD args PQ) := by
  rintro args PQ PX ⟨_, _, rfl, h⟩
  rw [e_law_hand]; exact h
theorem hl_law_hand : ∀ args PQ PX, sp_law_hand args PQ PX → args.length = 2 := by
  rintro args PQ PX ⟨_, _, rfl, h⟩; rfl
def m_law_take (v_hand_here : List D) (v_many : D) : Option (D × (List D)) :=
  (getX (.lst v_hand_here) (.int 0)).bind fun t1 =>
  (gtX t1 (.int 0)).bind fun t2 =>
  if t2 = true then
    (getX (.lst v_hand_here) (.int 0)).bind fun t3 =>
    (modX t3 v_many).bind fun t4 =>
    (getX (.lst v_hand_here) (.int 0)).bind fun t5 =>
    (divX t5 v_many).bind fun t6 =>
    (setX v_hand_here (.int 0) t6).bind fun t7 =>
    some (t4, t7)
  else
    (getX (.lst v_hand_here) (.int 2)).bind fun t8 =>
    (addX t8 (.int 1)).bind fun t9 =>
    (setX v_hand_here (.int 2) t9).bind fun t10 =>
    (getX (.lst t10) (.int 1)).bind fun t11 =>
    (getX (.lst t10) (.int 2)).bind fun t12 =>
    (mulAX (.int 65537) t12).bind fun t13 =>
    (getX (.lst t10) (.int 2)).bind fun t14 =>
    (mulAX t13 t14).bind fun t15 =>
    (addX t11 t15).bind fun t16 =>
    (addX t16 (.int 11)).bind fun t17 =>
    (mulAX t17 (.int 48271)).bind fun t18 =>
    (modX t18 (.int 2305843009213693921)).bind fun t19 =>
    (modX t19 (.int 1000003)).bind fun t20 =>
    (getX (.lst t10) (.int 2)).bind fun t21 =>
    (mulAX (.int 99991) t21).bind fun t22 =>
    (addX t20 t22).bind fun t23 =>
    (mulAX t19 t23).bind fun t24 =>
    (modX t24 (.int 2305843009213693907)).bind fun t25 =>
    (divX t25 (.int 97)).bind fun t26 =>
    (divX t25 (.int 1000033)).bind fun t27 =>
    (addX t26 t27).bind fun t28 =>
    (modX t28 v_many).bind fun t29 =>
    some (t29, t10)
def w_law_take : WS :=
  wSeq (wIf (wTB (wBin dGt (wSubK dGet 0 (wC (.int 0))) (wC (.int 0))))
  (wSeq (wSet 2 (wFr (wBin dMod (wSubK dGet 0 (wC (.int 0))) (wVar 1))))
  (wSeq (wPut 0 (wC (.int 0)) (wBin dDiv (wSubK dGet 0 (wC (.int 0))) (wVar 1)))
  (wRetG [true, false, false, false] (wFr (wVar 2)))))
  (wNext))
  (wSeq (wPut 0 (wC (.int 2)) (wBin dAdd (wSubK dGet 0 (wC (.int 2))) (wC (.int 1))))
  (wSeq (wSet 3 (wFr (wBin dMod (wBin dMulA (wBin dAdd (wBin dAdd (wSubK dGet 0 (wC (.int 1))) (wBin dMulA (wBin dMulA (wC (.int 65537)) (wSubK dGet 0 (wC (.int 2)))) (wSubK dGet 0 (wC (.int 2))))) (wC (.int 11))) (wC (.int 48271))) (wC (.int 2305843009213693921)))))
  (wSeq (wSet 3 (wFr (wBin dMod (wBin dMulA (wVar 3) (wBin dAdd (wBin dMod (wVar 3) (wC (.int 1000003))) (wBin dMulA (wC (.int 99991)) (wSubK dGet 0 (wC (.int 2)))))) (wC (.int 2305843009213693907)))))
  (wRetG [true, false, false, false] (wFr (wBin dMod (wBin dAdd (wBin dDiv (wVar 3) (wC (.int 97))) (wBin dDiv (wVar 3) (wC (.int 1000033)))) (wVar 1)))))))
def sp_law_take : TSpec := fun args PQ _ => ∃ (v_hand_here : List D) (v_many : D), args = [.ref (.lst v_hand_here), .v v_many] ∧ oP (m_law_take v_hand_here v_many) fun r => PQ (.v r.1) [.lst r.2]
theorem cl_law_take (v_hand_here : List D) (v_many : D) (PQ : R → List Cell → Prop) (PX : String → Pay → List Cell → Prop) : callK sp_law_take [.ref (.lst v_hand_here), .v v_many] PQ PX ⟨⟩ = oP (m_law_take v_hand_here v_many) fun r => PQ (.v r.1) [.lst r.2] := by
  unfold callK sp_law_take
  refine propext ⟨fun h => ?_, fun h => ?_⟩
  · obtain ⟨_, _, e, h⟩ := h; cases e; exact h
  · exact ⟨_, _, rfl, h⟩
theorem e_law_take (PQ : R → List Cell → Prop) (PX : String → Pay → List Cell → Prop) (v_hand_here : List D) (v_many : D) : w_law_take (fnX [.ref (.lst v_hand_here), .v v_many] PX) (start0 4 [.ref (.lst v_hand_here), .v v_many]) (fnD [.ref (.lst v_hand_here), .v v_many] PQ) = oP (m_law_take v_hand_here v_many) fun r => PQ (.v r.1) [.lst r.2] := by walk_at "mx  m_law_take w_law_take"
theorem ok_law_take : ∀ args PQ PX, sp_law_take args PQ PX → w_law_take (fnX args PX) (start0 4 args) (fnD args PQ) := by
  rintro args PQ PX ⟨_, _, rfl, h⟩
  rw [e_law_take]; exact h
theorem hl_law_take : ∀ args PQ PX, sp_law_take args PQ PX → args.length = 2 := by
  rintro args PQ PX ⟨_, _, rfl, h⟩; rfl
end
end
section
noncomputable section
def m_Field_form (v_self : D) : Option (D) :=
  (fldX "Field" v_self "shape").bind fun t1 =>
  some t1
def w_Field_form : WS :=
  wRetG [false] (wFr (wFld "Field" "shape" (wVar 0)))
def sp_Field_form : TSpec := fun args PQ _ => ∃ (v_self : D), args = [.v v_self] ∧ oP (m_Field_form v_self) fun r => PQ (.v r) []
theorem cl_Field_form (v_self : D) (PQ : R → List Cell → Prop) (PX : String → Pay → List Cell → Prop) : callK sp_Field_form [.v v_self] PQ PX ⟨⟩ = oP (m_Field_form v_self) fun r => PQ (.v r) [] := by
  unfold callK sp_Field_form
  refine propext ⟨fun h => ?_, fun h => ?_⟩
  · obtain ⟨_, e, h⟩ := h; cases e; exact h
  · exact ⟨_, rfl, h⟩
theorem e_Field_form (PQ : R → List Cell → Prop) (PX : String → Pay → List Cell → Prop) (v_self : D) : w_Field_form (fnX [.v v_self] PX) (start0 1 [.v v_self]) (fnD [.v v_self] PQ) = oP (m_Field_form v_self) fun r => PQ (.v r) [] := by walk_at "mx e_wFld m_Field_form w_Field_form"
theorem ok_Field_form : ∀ args PQ PX, sp_Field_form args PQ PX → w_Field_form (fnX args PX) (start0 1 args) (fnD args PQ) := by
  rintro args PQ PX ⟨_, rfl, h⟩
  rw [e_Field_form]; exact h
theorem hl_Field_form : ∀ args PQ PX, sp_Field_form args PQ PX → args.length = 1 := by
  rintro args PQ PX ⟨_, rfl, h⟩; rfl
def m_law_size_f1 (v_p : D) (s : D) (d : D) : Option (D) :=
  (mulAX s v_p).bind fun t2 =>
  some t2
def b_law_size_f1 : WS := wSeq (wSet 2 (wFr (wBin dMulA (wVar 2) (wVar 0))))
  (wGhN [.kp, .kp, .kp, .kl])
theorem l_law_size_f1 (W : TX) (nx : TSt → Prop) (rt : R → TSt → Prop) (bk ct : TSt → Prop) (v_p : D) (v_found : D) (ds : List D) : forK (gN 3) b_law_size_f1 W ds [.v v_p, .un, .v v_found, .un] ⟨nx, rt, bk, ct⟩ ⟨⟩ = oP (foldX (m_law_size_f1 v_p) ds v_found) fun s => nx [.v v_p, .un, .v s, .un] := forK_fold (fun s : D => [.v v_p, .un, .v s, .un]) (m_law_size_f1 v_p) (fun s d nxt => by walk_at "mx  m_law_size_f1 b_law_size_f1") ds v_found
def m_law_size (v_p : D) (v_m : D) : Option (D) :=
  (rg1X v_m).bind fun t1 =>
  (foldX (m_law_size_f1 v_p) t1 (.int 1)).bind fun t3 =>
  some t3
def w_law_size : WS :=
  wSeq (wSet 2 (wFr (wC (.int 1))))
  (wSeq (wFor (wIgh [.kp, .kl, .kp, .kp] (wR1 (wCons (wVar 1) (wNil)))) (gN 3) b_law_size_f1)
  (wRetG [false, false, false, false] (wFr (wVar 2))))
def sp_law_size : TSpec := fun args PQ _ => ∃ (v_p : D) (v_m : D), args = [.v v_p, .v v_m] ∧ oP (m_law_size v_p v_m) fun r => PQ (.v r) []
theorem cl_law_size (v_p : D) (v_m : D) (PQ : R → List Cell → Prop) (PX : String → Pay → List Cell → Prop) : callK sp_law_size [.v v_p, .v v_m] PQ PX ⟨⟩ = oP (m_law_size v_p v_m) fun r => PQ (.v r) [] := by
  unfold callK sp_law_size
  refine propext ⟨fun h => ?_, fun h => ?_⟩
  · obtain ⟨_, _, e, h⟩ := h; cases e; exact h
  · exact ⟨_, _, rfl, h⟩
theorem e_law_size (PQ : R → List Cell → Prop) (PX : String → Pay → List Cell → Prop) (v_p : D) (v_m : D) : w_law_size (fnX [.v v_p, .v v_m] PX) (start0 4 [.v v_p, .v v_m]) (fnD [.v v_p, .v v_m] PQ) = oP (m_law_size v_p v_m) fun r => PQ (.v r) [] := by walk_at "mx l_law_size_f1 m_law_size w_law_size"
theorem ok_law_size : ∀ args PQ PX, sp_law_size args PQ PX → w_law_size (fnX args PX) (start0 4 args) (fnD args PQ) := by
  rintro args PQ PX ⟨_, _, rfl, h⟩
  rw [e_law_size]; exact h
theorem hl_law_size : ∀ args PQ PX, sp_law_size args PQ PX → args.length = 2 := by
  rintro args PQ PX ⟨_, _, rfl, h⟩; rfl
def m_law_by_c2 (v_p : D) (v_one : D)  (d : D) : Option (D) :=
  (tup2X d).bind fun t6 =>
  (mulAX v_one t6.2).bind fun t7 =>
  (addX t6.1 t7).bind fun t8 =>
  (modX t8 v_p).bind fun t9 =>
  some t9
def e_law_by_c2 : WE := wBin dMod (wBin dAdd (wVar 9) (wBin dMulA (wVar 7) (wVar 10))) (wVar 0)
theorem l_law_by_c2 (v_p : D) (v_form : D) (v_total : D) (v_moved : D) (v_one : D) (ds : List D) (Q : List D → TSt → Prop) : (lenOk ds ∧ lcK (gT 2 (gsCons (gN 9) (gsCons (gN 10) (gsNil)))) wYes e_law_by_c2 [9, 10] ds [] [.v v_p, .v v_form, .un, .un, .un, .v v_total, .v v_moved, .v v_one, .un, .un, .un] Q ⟨⟩) = oP (mapX (m_law_by_c2 v_p v_one) ds) fun l => Q l [.v v_p, .v v_form, .un, .un, .un, .v v_total, .v v_moved, .v v_one, .un, .un, .un] := lc_map [.v v_p, .v v_form, .un, .un, .un, .v v_total, .v v_moved, .v v_one, .un, .un, .un] (m_law_by_c2 v_p v_one) (fun d Y => by walk_at "mx  m_law_by_c2 e_law_by_c2") ds
def m_law_by_c3 (v_p : D) (v_top : D)  (d : D) : Option (D) :=
  (tup2X d).bind fun t17 =>
  (mulAX v_top t17.2).bind fun t18 =>
  (subX t17.1 t18).bind fun t19 =>
  (modX t19 v_p).bind fun t20 =>
  some t20
def e_law_by_c3 : WE := wBin dMod (wBin dSub (wVar 9) (wBin dMulA (wVar 8) (wVar 10))) (wVar 0)
theorem l_law_by_c3 (v_p : D) (v_form : D) (v_total : D) (v_moved : D) (v_one : D) (v_top : D) (ds : List D) (Q : List D → TSt → Prop) : (lenOk ds ∧ lcK (gT 2 (gsCons (gN 9) (gsCons (gN 10) (gsNil)))) wYes e_law_by_c3 [9, 10] ds [] [.v v_p, .v v_form, .un, .un, .un, .v v_total, .v v_moved, .v v_one, .v v_top, .un, .un] Q ⟨⟩) = oP (mapX (m_law_by_c3 v_p v_top) ds) fun l => Q l [.v v_p, .v v_form, .un, .un, .un, .v v_total, .v v_moved, .v v_one, .v v_top, .un, .un] := lc_map [.v v_p, .v v_form, .un, .un, .un, .v v_total, .v v_moved, .v v_one, .v v_top, .un, .un] (m_law_by_c3 v_p v_top) (fun d Y => by walk_at "mx l_law_by_c2 m_law_by_c3 e_law_by_c3") ds
def m_law_by_f1 (v_p : D) (v_form : D) (s : D × D) (d : D) : Option (D × D) :=
  (zip2X s.1 s.2).bind fun t5 =>
  (mapX (m_law_by_c2 v_p d) t5).bind fun t10 =>
  (tupleX (.lst t10)).bind fun t11 =>
  (getX s.2 (.int (-1))).bind fun t12 =>
  (slX s.2 none (some (-1))).bind fun t13 =>
  (addX (.tup [(.int 0)]) t13).bind fun t14 =>
  (slX v_form none (some (-1))).bind fun t15 =>
  (zip2X t14 t15).bind fun t16 =>
  (mapX (m_law_by_c3 v_p t12) t16).bind fun t21 =>
  (tupleX (.lst t21)).bind fun t22 =>
  some (t11, t22)
def b_law_by_f1 : WS := wSeq (wSeq (wSet 5 (wFr (wBi nTuple (wCons (wLc (wIG (wIzip2 (wCons (wVar 5) (wCons (wVar 6) (wNil))))) (gT 2 (gsCons (gN 9) (gsCons (gN 10) (gsNil)))) (wYes) e_law_by_c2 [9, 10]) (wNil)))))
  (wSeq (wSet 8 (wFr (wSubK dGet 6 (wNeg (wC (.int 1))))))
  (wSet 6 (wFr (wBi nTuple (wCons (wLc (wIG (wIzip2 (wCons (wBin dAdd (wTup (wCons (wC (.int 0)) (wNil))) (wSl (wVar 6) (oNone) (oSome (wNeg (wC (.int 1)))))) (wCons (wSl (wVar 1) (oNone) (oSome (wNeg (wC (.int 1))))) (wNil))))) (gT 2 (gsCons (gN 9) (gsCons (gN 10) (gsNil)))) (wYes) e_law_by_c3 [9, 10]) (wNil)))))))
  (wGhN [.kp, .kp, .kp, .kp, .kp, .kp, .kp, .kl, .kl, .kp, .kp])
theorem l_law_by_f1 (W : TX) (nx : TSt → Prop) (rt : R → TSt → Prop) (bk ct : TSt → Prop) (v_p : D) (v_form : D) (v_total : D) (v_moved : D) (ds : List D) : forK (gN 7) b_law_by_f1 W ds [.v v_p, .v v_form, .un, .un, .un, .v v_total, .v v_moved, .un, .un, .un, .un] ⟨nx, rt, bk, ct⟩ ⟨⟩ = oP (foldX (m_law_by_f1 v_p v_form) ds (v_total, v_moved)) fun s => nx [.v v_p, .v v_form, .un, .un, .un, .v s.1, .v s.2, .un, .un, .un, .un] := forK_fold (fun s : D × D => [.v v_p, .v v_form, .un, .un, .un, .v s.1, .v s.2, .un, .un, .un, .un]) (m_law_by_f1 v_p v_form) (fun s d nxt => by walk_at "mx l_law_by_c2 l_law_by_c3 m_law_by_f1 b_law_by_f1") ds (v_total, v_moved)
def m_law_by (v_p : D) (v_form : D) (v_a : D) (v_b : D) : Option (D) :=
  (lenX v_form).bind fun t1 =>
  (subX t1 (.int 1)).bind fun t2 =>
  (mulAX (.tup [(.int 0)]) t2).bind fun t3 =>
  (itX v_a).bind fun t4 =>
  (foldX (m_law_by_f1 v_p v_form) t4 (t3, v_b)).bind fun t23 =>
  some t23.1
def w_law_by : WS :=
  wSeq (wSet 4 (wFr (wBin dSub (wBiK nLen 1) (wC (.int 1)))))
  (wSeq (wPar 5 6 (wCons (wBin dMulA (wTup (wCons (wC (.int 0)) (wNil))) (wVar 4)) (wCons (wVar 3) (wNil))))
  (wSeq (wFor (wIgh [.kp, .kp, .kl, .kl, .kl, .kp, .kp, .kp, .kp, .kp, .kp] (wItS (wVar 2))) (gN 7) b_law_by_f1)
  (wRetG [false, false, false, false, false, false, false, false, false, false, false] (wFr (wVar 5)))))
def sp_law_by : TSpec := fun args PQ _ => ∃ (v_p : D) (v_form : D) (v_a : D) (v_b : D), args = [.v v_p, .v v_form, .v v_a, .v v_b] ∧ oP (m_law_by v_p v_form v_a v_b) fun r => PQ (.v r) []
theorem cl_law_by (v_p : D) (v_form : D) (v_a : D) (v_b : D) (PQ : R → List Cell → Prop) (PX : String → Pay → List Cell → Prop) : callK sp_law_by [.v v_p, .v v_form, .v v_a, .v v_b] PQ PX ⟨⟩ = oP (m_law_by v_p v_form v_a v_b) fun r => PQ (.v r) [] := by
  unfold callK sp_law_by
  refine propext ⟨fun h => ?_, fun h => ?_⟩
  · obtain ⟨_, _, _, _, e, h⟩ := h; cases e; exact h
  · exact ⟨_, _, _, _, rfl, h⟩
theorem e_law_by (PQ : R → List Cell → Prop) (PX : String → Pay → List Cell → Prop) (v_p : D) (v_form : D) (v_a : D) (v_b : D) : w_law_by (fnX [.v v_p, .v v_form, .v v_a, .v v_b] PX) (start0 11 [.v v_p, .v v_form, .v v_a, .v v_b]) (fnD [.v v_p, .v v_form, .v v_a, .v v_b] PQ) = oP (m_law_by v_p v_form v_a v_b) fun r => PQ (.v r) [] := by walk_at "mx l_law_by_c2 l_law_by_c3 l_law_by_f1 m_law_by w_law_by"
theorem ok_law_by : ∀ args PQ PX, sp_law_by args PQ PX → w_law_by (fnX args PX) (start0 11 args) (fnD args PQ) := by
  rintro args PQ PX ⟨_, _, _, _, rfl, h⟩
  rw [e_law_by]; exact h
theorem hl_law_by : ∀ args PQ PX, sp_law_by args PQ PX → args.length = 4 := by
  rintro args PQ PX ⟨_, _, _, _, rfl, h⟩; rfl
def m_Field_by_f2 (v_self : D) (v_b : D) (v_place : D) (v_one : D) (s : List D) (d : D) : Option (List D) :=
  (tup2X d).bind fun t8 =>
  (addX v_place t8.1).bind fun t9 =>
  (getX (.lst s) t9).bind fun t10 =>
  (mulAX v_one t8.2).bind fun t11 =>
  (addX t10 t11).bind fun t12 =>
  (fldX "Field" v_self "p").bind fun t13 =>
  (modX t12 t13).bind fun t14 =>
  (addX v_place t8.1).bind fun t15 =>
  (setX s t15 t14).bind fun t16 =>
  some t16
def b_Field_by_f2 : WS := wSeq (wPut 3 (wBin dAdd (wVar 4) (wVar 6)) (wBin dMod (wBin dAdd (wSubK dGet 3 (wBin dAdd (wVar 4) (wVar 6))) (wBin dMulA (wVar 5) (wVar 7))) (wFld "Field" "p" (wVar 0))))
  (wGhN [.kp, .kp, .kp, .kp, .kp, .kp, .kl, .kl])
theorem l_Field_by_f2 (W : TX) (nx : TSt → Prop) (rt : R → TSt → Prop) (bk ct : TSt → Prop) (v_self : D) (v_b : D) (v_place : D) (v_one : D) (v_made : List D) (ds : List D) : forK (gT 2 (gsCons (gN 6) (gsCons (gN 7) (gsNil)))) b_Field_by_f2 W ds [.v v_self, .un, .v v_b, .own (.lst v_made), .v v_place, .v v_one, .un, .un] ⟨nx, rt, bk, ct⟩ ⟨⟩ = oP (foldX (m_Field_by_f2 v_self v_b v_place v_one) ds v_made) fun s => nx [.v v_self, .un, .v v_b, .own (.lst s), .v v_place, .v v_one, .un, .un] := forK_fold (fun s : List D => [.v v_self, .un, .v v_b, .own (.lst s), .v v_place, .v v_one, .un, .un]) (m_Field_by_f2 v_self v_b v_place v_one) (fun s d nxt => by walk_at "mx e_wFld m_Field_by_f2 b_Field_by_f2") ds v_made
def m_Field_by_f1 (v_self : D) (v_b : D) (s : List D) (d : D) : Option (List D) :=
  (tup2X d).bind fun t6 =>
  (enumerateX v_b).bind fun t7 =>
  (foldX (m_Field_by_f2 v_self v_b t6.1 t6.2) t7 s).bind fun t17 =>
  some t17
def b_Field_by_f1 : WS := wSeq (wFor (wIenumerate (wCons (wVar 2) (wNil))) (gT 2 (gsCons (gN 6) (gsCons (gN 7) (gsNil)))) b_Field_by_f2)
  (wGhN [.kp, .kp, .kp, .kp, .kl, .kl, .kp, .kp])
theorem l_Field_by_f1 (W : TX) (nx : TSt → Prop) (rt : R → TSt → Prop) (bk ct : TSt → Prop) (v_self : D) (v_b : D) (v_made : List D) (ds : List D) : forK (gT 2 (gsCons (gN 4) (gsCons (gN 5) (gsNil)))) b_Field_by_f1 W ds [.v v_self, .un, .v v_b, .own (.lst v_made), .un, .un, .un, .un] ⟨nx, rt, bk, ct⟩ ⟨⟩ = oP (foldX (m_Field_by_f1 v_self v_b) ds v_made) fun s => nx [.v v_self, .un, .v v_b, .own (.lst s), .un, .un, .un, .un] := forK_fold (fun s : List D => [.v v_self, .un, .v v_b, .own (.lst s), .un, .un, .un, .un]) (m_Field_by_f1 v_self v_b) (fun s d nxt => by walk_at "mx e_wFld l_Field_by_f2 m_Field_by_f1 b_Field_by_f1") ds v_made
def m_Field_by (v_self : D) (v_a : D) (v_b : D) : Option (D) :=
  (fldX "Field" v_self "m").bind fun t1 =>
  (mulAX (.int 2) t1).bind fun t2 =>
  (subX t2 (.int 1)).bind fun t3 =>
  (mulLX (.lst [(.int 0)]) t3).bind fun t4 =>
  (enumerateX v_a).bind fun t5 =>
  (foldX (m_Field_by_f1 v_self v_b) t5 t4).bind fun t18 =>
  (fldX "Field" v_self "p").bind fun t19 =>
  (fldX "Field" v_self "shape").bind fun t20 =>
  (m_rest_by t19 (.lst t18) t20).bind fun t21 =>
  some t21
def w_Field_by : WS :=
  wSeq (wSet 3 (wBin dMulL (wLst (wCons (wC (.int 0)) (wNil))) (wBin dSub (wBin dMulA (wC (.int 2)) (wFld "Field" "m" (wVar 0))) (wC (.int 1)))))
  (wSeq (wFor (wIgh [.kp, .kl, .kp, .kp, .kp, .kp, .kp, .kp] (wIenumerate (wCons (wVar 1) (wNil)))) (gT 2 (gsCons (gN 4) (gsCons (gN 5) (gsNil)))) b_Field_by_f1)
  (wRetG [false, false, false, false, false, false, false, false] (wFr (wCall sp_rest_by (aV (wFld "Field" "p" (wVar 0)) (aV (wVar 3) (aV (wFld "Field" "shape" (wVar 0)) (aNil))))))))
def sp_Field_by : TSpec := fun args PQ _ => ∃ (v_self : D) (v_a : D) (v_b : D), args = [.v v_self, .v v_a, .v v_b] ∧ oP (m_Field_by v_self v_a v_b) fun r => PQ (.v r) []
theorem cl_Field_by (v_self : D) (v_a : D) (v_b : D) (PQ : R → List Cell → Prop) (PX : String → Pay → List Cell → Prop) : callK sp_Field_by [.v v_self, .v v_a, .v v_b] PQ PX ⟨⟩ = oP (m_Field_by v_self v_a v_b) fun r => PQ (.v r) [] := by
  unfold callK sp_Field_by
  refine propext ⟨fun h => ?_, fun h => ?_⟩
  · obtain ⟨_, _, _, e, h⟩ := h; cases e; exact h
  · exact ⟨_, _, _, rfl, h⟩
theorem e_Field_by (PQ : R → List Cell → Prop) (PX : String → Pay → List Cell → Prop) (v_self : D) (v_a : D) (v_b : D) : w_Field_by (fnX [.v v_self, .v v_a, .v v_b] PX) (start0 8 [.v v_self, .v v_a, .v v_b]) (fnD [.v v_self, .v v_a, .v v_b] PQ) = oP (m_Field_by v_self v_a v_b) fun r => PQ (.v r) [] := by walk_at "mx e_wFld l_Field_by_f2 l_Field_by_f1 cl_rest_by m_Field_by w_Field_by"
theorem ok_Field_by : ∀ args PQ PX, sp_Field_by args PQ PX → w_Field_by (fnX args PX) (start0 8 args) (fnD args PQ) := by
  rintro args PQ PX ⟨_, _, _, rfl, h⟩
  rw [e_Field_by]; exact h
theorem hl_Field_by : ∀ args PQ PX, sp_Field_by args PQ PX → args.length = 3 := by
  rintro args PQ PX ⟨_, _, _, rfl, h⟩; rfl
def m_Field_power_j2 (v_self : D) (v_k : D) (v_found : D) (v_square : D) (v_digit : D) : Option (D) :=
  (eqX v_digit (.int 1)).bind fun t5 =>
  if t5 = true then
    (objX "Field" v_self).bind fun t6 =>
    (m_Field_by t6 v_found v_square).bind fun t7 =>
    some t7
  else
    some v_found
def j_Field_power_j2 : WS := wIf (wTB (wBin dEq (wVar 5) (wC (.int 1))))
  (wSeq (wSet 3 (wFr (wMeth "Field" sp_Field_by (wVar 0) (aV (wVar 3) (aV (wVar 4) (aNil)))))) (wGhN [.kp, .kp, .kp, .kp, .kp, .kl]))
  (wSeq (wNext) (wGhN [.kp, .kp, .kp, .kp, .kp, .kl]))
theorem l_Field_power_j2 (W : TX) (nx : TSt → Prop) (rt : R → TSt → Prop) (bk ct : TSt → Prop) (v_self : D) (v_k : D) (v_found : D) (v_square : D) (v_digit : D) : j_Field_power_j2 W [.v v_self, .un, .v v_k, .v v_found, .v v_square, .v v_digit] ⟨nx, rt, bk, ct⟩ = oP (m_Field_power_j2 v_self v_k v_found v_square v_digit) fun s => nx [.v v_self, .un, .v v_k, .v s, .v v_square, .un] := by walk_at "mx e_wFld e_nDivmod e_wMeth cl_Field_by m_Field_power_j2 j_Field_power_j2"
def m_Field_power_w1 (v_self : D) (s : D × D × D) : Option (WH (D × D × D) (D)) :=
  (gtX s.1 (.int 0)).bind fun t2 =>
  if t2 = true then
    (divmodX s.1 (.int 2)).bind fun t3 =>
    (tup2X t3).bind fun t4 =>
    (m_Field_power_j2 v_self t4.1 s.2.1 s.2.2 t4.2).bind fun t8 =>
    (objX "Field" v_self).bind fun t9 =>
    (m_Field_by t9 s.2.2 s.2.2).bind fun t10 =>
    some (.go (t4.1, t8, t10))
  else
    some (.dn (s.1, s.2.1, s.2.2))
def q_Field_power_w1 : WT := wTB (wBin dGt (wVar 2) (wC (.int 0)))
def b_Field_power_w1 : WS := wSeq (wAsg (wBi nDivmod (wCons (wVar 2) (wCons (wC (.int 2)) (wNil)))) (gT 2 (gsCons (gN 2) (gsCons (gN 5) (gsNil)))))
  (wSeq (j_Field_power_j2)
  (wSet 4 (wFr (wMeth "Field" sp_Field_by (wVar 0) (aV (wVar 4) (aV (wVar 4) (aNil)))))))
theorem l_Field_power_w1 (W : TX) (nx : TSt → Prop) (rt : R → TSt → Prop) (bk ct : TSt → Prop) (v_self : D) (v_k : D) (v_found : D) (v_square : D) : whileK q_Field_power_w1 b_Field_power_w1 W [.v v_self, .un, .v v_k, .v v_found, .v v_square, .un] ⟨nx, rt, bk, ct⟩ ⟨⟩ = oP (whX (m_Field_power_w1 v_self) (v_k, v_found, v_square)) fun o => o.cs (fun s => nx [.v v_self, .un, .v s.1, .v s.2.1, .v s.2.2, .un]) (fun r => rt (.v r) [.un, .un, .un, .un, .un, .un]) := whileK_X (fun s : D × D × D => [.v v_self, .un, .v s.1, .v s.2.1, .v s.2.2, .un]) (fun r => rt (.v r) [.un, .un, .un, .un, .un, .un]) (m_Field_power_w1 v_self) (fun s nxt => by walk_at "mx e_wFld e_nDivmod e_wMeth l_Field_power_j2 cl_Field_by m_Field_power_w1 b_Field_power_w1 q_Field_power_w1") (v_k, v_found, v_square)
def m_Field_power (v_self : D) (v_a : D) (v_k : D) : Option (D) :=
  (fldX "Field" v_self "one").bind fun t1 =>
  (whX (m_Field_power_w1 v_self) (v_k, t1, v_a)).bind fun t11 =>
  t11.cs (fun s12 =>
    some s12.2.1)
    (fun r => some r)
def w_Field_power : WS :=
  wSeq (wSet 3 (wFr (wFld "Field" "one" (wVar 0))))
  (wSeq (wSet 4 (wFr (wVar 1)))
  (wSeq (wSeq (wGhN [.kp, .kl, .kp, .kp, .kp, .kp]) (wWhile q_Field_power_w1 b_Field_power_w1))
  (wRetG [false, false, false, false, false, false] (wFr (wVar 3)))))
def sp_Field_power : TSpec := fun args PQ _ => ∃ (v_self : D) (v_a : D) (v_k : D), args = [.v v_self, .v v_a, .v v_k] ∧ oP (m_Field_power v_self v_a v_k) fun r => PQ (.v r) []
theorem cl_Field_power (v_self : D) (v_a : D) (v_k : D) (PQ : R → List Cell → Prop) (PX : String → Pay → List Cell → Prop) : callK sp_Field_power [.v v_self, .v v_a, .v v_k] PQ PX ⟨⟩ = oP (m_Field_power v_self v_a v_k) fun r => PQ (.v r) [] := by
  unfold callK sp_Field_power
  refine propext ⟨fun h => ?_, fun h => ?_⟩
  · obtain ⟨_, _, _, e, h⟩ := h; cases e; exact h
  · exact ⟨_, _, _, rfl, h⟩
theorem e_Field_power (PQ : R → List Cell → Prop) (PX : String → Pay → List Cell → Prop) (v_self : D) (v_a : D) (v_k : D) : w_Field_power (fnX [.v v_self, .v v_a, .v v_k] PX) (start0 6 [.v v_self, .v v_a, .v v_k]) (fnD [.v v_self, .v v_a, .v v_k] PQ) = oP (m_Field_power v_self v_a v_k) fun r => PQ (.v r) [] := by walk_at "mx e_wFld e_nDivmod e_wMeth l_Field_power_j2 l_Field_power_w1 cl_Field_by m_Field_power w_Field_power"
theorem ok_Field_power : ∀ args PQ PX, sp_Field_power args PQ PX → w_Field_power (fnX args PX) (start0 6 args) (fnD args PQ) := by
  rintro args PQ PX ⟨_, _, _, rfl, h⟩
  rw [e_Field_power]; exact h
theorem hl_Field_power : ∀ args PQ PX, sp_Field_power args PQ PX → args.length = 3 := by
  rintro args PQ PX ⟨_, _, _, rfl, h⟩; rfl
end
end
section
noncomputable section
def m_law_rows_c3 (v_row : D)  (d : D) : Option (D) :=
  (addX v_row (.tup [d])).bind fun t4 =>
  some t4
def e_law_rows_c3 : WE := wBin dAdd (wVar 5) (wTup (wCons (wVar 6) (wNil)))
theorem l_law_rows_c3 (v_p : D) (v_longer : List D) (v_row : D) (ds : List D) (Q : List D → TSt → Prop) : (lenOk ds ∧ lcK (gN 6) wYes e_law_rows_c3 [6] ds [] [.v v_p, .un, .un, .un, .own (.lst v_longer), .v v_row, .un] Q ⟨⟩) = oP (mapX (m_law_rows_c3 v_row) ds) fun l => Q l [.v v_p, .un, .un, .un, .own (.lst v_longer), .v v_row, .un] := lc_map [.v v_p, .un, .un, .un, .own (.lst v_longer), .v v_row, .un] (m_law_rows_c3 v_row) (fun d Y => by walk_at "mx  m_law_rows_c3 e_law_rows_c3") ds
def m_law_rows_f2 (v_p : D) (s : List D) (d : D) : Option (List D) :=
  (rg1X v_p).bind fun t3 =>
  (mapX (m_law_rows_c3 d) t3).bind fun t5 =>
  (extX s t5).bind fun t6 =>
  some t6
def b_law_rows_f2 : WS := wSeq (wDrop (wExt 4 (wCons (wLc (wIG (wR1 (wCons (wVar 0) (wNil)))) (gN 6) (wYes) e_law_rows_c3 [6]) (wNil))))
  (wGhN [.kp, .kp, .kp, .kp, .kp, .kl, .kp])
theorem l_law_rows_f2 (W : TX) (nx : TSt → Prop) (rt : R → TSt → Prop) (bk ct : TSt → Prop) (v_p : D) (v_longer : List D) (ds : List D) : forK (gN 5) b_law_rows_f2 W ds [.v v_p, .un, .un, .un, .own (.lst v_longer), .un, .un] ⟨nx, rt, bk, ct⟩ ⟨⟩ = oP (foldX (m_law_rows_f2 v_p) ds v_longer) fun s => nx [.v v_p, .un, .un, .un, .own (.lst s), .un, .un] := forK_fold (fun s : List D => [.v v_p, .un, .un, .un, .own (.lst s), .un, .un]) (m_law_rows_f2 v_p) (fun s d nxt => by walk_at "mx l_law_rows_c3 m_law_rows_f2 b_law_rows_f2") ds v_longer
def m_law_rows_f1 (v_p : D) (s : D) (d : D) : Option (D) :=
  (itX s).bind fun t2 =>
  (foldX (m_law_rows_f2 v_p) t2 []).bind fun t7 =>
  some (.lst t7)
def b_law_rows_f1 : WS := wSeq (wSeq (wSet 4 (wLst (wNil)))
  (wSeq (wFor (wIgh [.kp, .kp, .kl, .kl, .kp, .kp, .kp] (wItS (wVar 2))) (gN 5) b_law_rows_f2)
  (wSet 2 (wFr (wVar 4)))))
  (wGhN [.kp, .kp, .kp, .kp, .kl, .kp, .kp])
theorem l_law_rows_f1 (W : TX) (nx : TSt → Prop) (rt : R → TSt → Prop) (bk ct : TSt → Prop) (v_p : D) (v_found : D) (ds : List D) : forK (gN 3) b_law_rows_f1 W ds [.v v_p, .un, .v v_found, .un, .un, .un, .un] ⟨nx, rt, bk, ct⟩ ⟨⟩ = oP (foldX (m_law_rows_f1 v_p) ds v_found) fun s => nx [.v v_p, .un, .v s, .un, .un, .un, .un] := forK_fold (fun s : D => [.v v_p, .un, .v s, .un, .un, .un, .un]) (m_law_rows_f1 v_p) (fun s d nxt => by walk_at "mx l_law_rows_c3 l_law_rows_f2 m_law_rows_f1 b_law_rows_f1") ds v_found
def m_law_rows (v_p : D) (v_m : D) : Option (D) :=
  (rg1X v_m).bind fun t1 =>
  (foldX (m_law_rows_f1 v_p) t1 (.lst [(.tup [])])).bind fun t8 =>
  some t8
def w_law_rows : WS :=
  wSeq (wSet 2 (wFr (wLst (wCons (wTup (wNil)) (wNil)))))
  (wSeq (wFor (wIgh [.kp, .kl, .kp, .kp, .kp, .kp, .kp] (wR1 (wCons (wVar 1) (wNil)))) (gN 3) b_law_rows_f1)
  (wRetG [false, false, false, false, false, false, false] (wFr (wVar 2))))
def sp_law_rows : TSpec := fun args PQ _ => ∃ (v_p : D) (v_m : D), args = [.v v_p, .v v_m] ∧ oP (m_law_rows v_p v_m) fun r => PQ (.v r) []
theorem cl_law_rows (v_p : D) (v_m : D) (PQ : R → List Cell → Prop) (PX : String → Pay → List Cell → Prop) : callK sp_law_rows [.v v_p, .v v_m] PQ PX ⟨⟩ = oP (m_law_rows v_p v_m) fun r => PQ (.v r) [] := by
  unfold callK sp_law_rows
  refine propext ⟨fun h => ?_, fun h => ?_⟩
  · obtain ⟨_, _, e, h⟩ := h; cases e; exact h
  · exact ⟨_, _, rfl, h⟩
theorem e_law_rows (PQ : R → List Cell → Prop) (PX : String → Pay → List Cell → Prop) (v_p : D) (v_m : D) : w_law_rows (fnX [.v v_p, .v v_m] PX) (start0 7 [.v v_p, .v v_m]) (fnD [.v v_p, .v v_m] PQ) = oP (m_law_rows v_p v_m) fun r => PQ (.v r) [] := by walk_at "mx l_law_rows_c3 l_law_rows_f2 l_law_rows_f1 m_law_rows w_law_rows"
theorem ok_law_rows : ∀ args PQ PX, sp_law_rows args PQ PX → w_law_rows (fnX args PX) (start0 7 args) (fnD args PQ) := by
  rintro args PQ PX ⟨_, _, rfl, h⟩
  rw [e_law_rows]; exact h
theorem hl_law_rows : ∀ args PQ PX, sp_law_rows args PQ PX → args.length = 2 := by
  rintro args PQ PX ⟨_, _, rfl, h⟩; rfl
def m_law_marks (v_error : D) : Option (D) :=
  (isEX ["NoMember"] ["NoField", "NoLine", "NoMember", "NoName", "NoNumber", "NoRings", "NoRow", "NoSpot", "NoText", "NoTurn", "NoWay", "TooMany"] v_error (.cl "NoNumber")).bind fun t1 =>
  (isEX ["NoMember"] ["NoField", "NoLine", "NoMember", "NoName", "NoNumber", "NoRings", "NoRow", "NoSpot", "NoText", "NoTurn", "NoWay", "TooMany"] v_error (.cl "NoSpot")).bind fun t2 =>
  (isEX ["NoMember"] ["NoField", "NoLine", "NoMember", "NoName", "NoNumber", "NoRings", "NoRow", "NoSpot", "NoText", "NoTurn", "NoWay", "TooMany"] v_error (.cl "NoTurn")).bind fun t3 =>
  (isEX ["NoMember"] ["NoField", "NoLine", "NoMember", "NoName", "NoNumber", "NoRings", "NoRow", "NoSpot", "NoText", "NoTurn", "NoWay", "TooMany"] v_error (.cl "NoField")).bind fun t4 =>
  (isEX ["NoMember"] ["NoField", "NoLine", "NoMember", "NoName", "NoNumber", "NoRings", "NoRow", "NoSpot", "NoText", "NoTurn", "NoWay", "TooMany"] v_error (.cl "NoMember")).bind fun t5 =>
  (isEX ["NoMember"] ["NoField", "NoLine", "NoMember", "NoName", "NoNumber", "NoRings", "NoRow", "NoSpot", "NoText", "NoTurn", "NoWay", "TooMany"] v_error (.cl "NoWay")).bind fun t6 =>
  (isEX ["NoMember"] ["NoField", "NoLine", "NoMember", "NoName", "NoNumber", "NoRings", "NoRow", "NoSpot", "NoText", "NoTurn", "NoWay", "TooMany"] v_error (.cl "TooMany")).bind fun t7 =>
  (isEX ["NoMember"] ["NoField", "NoLine", "NoMember", "NoName", "NoNumber", "NoRings", "NoRow", "NoSpot", "NoText", "NoTurn", "NoWay", "TooMany"] v_error (.cl "NoRow")).bind fun t8 =>
  (isEX ["NoMember"] ["NoField", "NoLine", "NoMember", "NoName", "NoNumber", "NoRings", "NoRow", "NoSpot", "NoText", "NoTurn", "NoWay", "TooMany"] v_error (.cl "NoLine")).bind fun t9 =>
  (isEX ["NoMember"] ["NoField", "NoLine", "NoMember", "NoName", "NoNumber", "NoRings", "NoRow", "NoSpot", "NoText", "NoTurn", "NoWay", "TooMany"] v_error (.cl "NoRings")).bind fun t10 =>
  (isEX ["NoMember"] ["NoField", "NoLine", "NoMember", "NoName", "NoNumber", "NoRings", "NoRow", "NoSpot", "NoText", "NoTurn", "NoWay", "TooMany"] v_error (.cl "NoName")).bind fun t11 =>
  (isEX ["NoMember"] ["NoField", "NoLine", "NoMember", "NoName", "NoNumber", "NoRings", "NoRow", "NoSpot", "NoText", "NoTurn", "NoWay", "TooMany"] v_error (.cl "NoText")).bind fun t12 =>
  (addX (.lst [(.bl t1), (.bl t2), (.bl t3)]) (.lst [(.bl t4), (.bl t5), (.bl t6)])).bind fun t13 =>
  (addX t13 (.lst [(.bl t7), (.bl t8), (.bl t9)])).bind fun t14 =>
  (addX t14 (.lst [(.bl t10), (.bl t11), (.bl t12)])).bind fun t15 =>
  some t15
def w_law_marks : WS :=
  wSeq (wSet 1 (wFr (wLst (wCons (wBi (nIsE ["NoMember"] ["NoField", "NoLine", "NoMember", "NoName", "NoNumber", "NoRings", "NoRow", "NoSpot", "NoText", "NoTurn", "NoWay", "TooMany"]) (wCons (wVar 0) (wCons (wC (.cl "NoNumber")) (wNil)))) (wCons (wBi (nIsE ["NoMember"] ["NoField", "NoLine", "NoMember", "NoName", "NoNumber", "NoRings", "NoRow", "NoSpot", "NoText", "NoTurn", "NoWay", "TooMany"]) (wCons (wVar 0) (wCons (wC (.cl "NoSpot")) (wNil)))) (wCons (wBi (nIsE ["NoMember"] ["NoField", "NoLine", "NoMember", "NoName", "NoNumber", "NoRings", "NoRow", "NoSpot", "NoText", "NoTurn", "NoWay", "TooMany"]) (wCons (wVar 0) (wCons (wC (.cl "NoTurn")) (wNil)))) (wNil)))))))
  (wSeq (wSet 2 (wFr (wLst (wCons (wBi (nIsE ["NoMember"] ["NoField", "NoLine", "NoMember", "NoName", "NoNumber", "NoRings", "NoRow", "NoSpot", "NoText", "NoTurn", "NoWay", "TooMany"]) (wCons (wVar 0) (wCons (wC (.cl "NoField")) (wNil)))) (wCons (wBi (nIsE ["NoMember"] ["NoField", "NoLine", "NoMember", "NoName", "NoNumber", "NoRings", "NoRow", "NoSpot", "NoText", "NoTurn", "NoWay", "TooMany"]) (wCons (wVar 0) (wCons (wC (.cl "NoMember")) (wNil)))) (wCons (wBi (nIsE ["NoMember"] ["NoField", "NoLine", "NoMember", "NoName", "NoNumber", "NoRings", "NoRow", "NoSpot", "NoText", "NoTurn", "NoWay", "TooMany"]) (wCons (wVar 0) (wCons (wC (.cl "NoWay")) (wNil)))) (wNil)))))))
  (wSeq (wSet 3 (wFr (wLst (wCons (wBi (nIsE ["NoMember"] ["NoField", "NoLine", "NoMember", "NoName", "NoNumber", "NoRings", "NoRow", "NoSpot", "NoText", "NoTurn", "NoWay", "TooMany"]) (wCons (wVar 0) (wCons (wC (.cl "TooMany")) (wNil)))) (wCons (wBi (nIsE ["NoMember"] ["NoField", "NoLine", "NoMember", "NoName", "NoNumber", "NoRings", "NoRow", "NoSpot", "NoText", "NoTurn", "NoWay", "TooMany"]) (wCons (wVar 0) (wCons (wC (.cl "NoRow")) (wNil)))) (wCons (wBi (nIsE ["NoMember"] ["NoField", "NoLine", "NoMember", "NoName", "NoNumber", "NoRings", "NoRow", "NoSpot", "NoText", "NoTurn", "NoWay", "TooMany"]) (wCons (wVar 0) (wCons (wC (.cl "NoLine")) (wNil)))) (wNil)))))))
  (wSeq (wSet 4 (wFr (wLst (wCons (wBi (nIsE ["NoMember"] ["NoField", "NoLine", "NoMember", "NoName", "NoNumber", "NoRings", "NoRow", "NoSpot", "NoText", "NoTurn", "NoWay", "TooMany"]) (wCons (wVar 0) (wCons (wC (.cl "NoRings")) (wNil)))) (wCons (wBi (nIsE ["NoMember"] ["NoField", "NoLine", "NoMember", "NoName", "NoNumber", "NoRings", "NoRow", "NoSpot", "NoText", "NoTurn", "NoWay", "TooMany"]) (wCons (wVar 0) (wCons (wC (.cl "NoName")) (wNil)))) (wCons (wBi (nIsE ["NoMember"] ["NoField", "NoLine", "NoMember", "NoName", "NoNumber", "NoRings", "NoRow", "NoSpot", "NoText", "NoTurn", "NoWay", "TooMany"]) (wCons (wVar 0) (wCons (wC (.cl "NoText")) (wNil)))) (wNil)))))))
  (wRetG [false, false, false, false, false] (wFr (wBin dAdd (wBin dAdd (wBin dAdd (wVar 1) (wVar 2)) (wVar 3)) (wVar 4)))))))
def sp_law_marks : TSpec := fun args PQ _ => ∃ (v_error : D), args = [.v v_error] ∧ oP (m_law_marks v_error) fun r => PQ (.v r) []
theorem cl_law_marks (v_error : D) (PQ : R → List Cell → Prop) (PX : String → Pay → List Cell → Prop) : callK sp_law_marks [.v v_error] PQ PX ⟨⟩ = oP (m_law_marks v_error) fun r => PQ (.v r) [] := by
  unfold callK sp_law_marks
  refine propext ⟨fun h => ?_, fun h => ?_⟩
  · obtain ⟨_, e, h⟩ := h; cases e; exact h
  · exact ⟨_, rfl, h⟩
theorem e_law_marks (PQ : R → List Cell → Prop) (PX : String → Pay → List Cell → Prop) (v_error : D) : w_law_marks (fnX [.v v_error] PX) (start0 5 [.v v_error]) (fnD [.v v_error] PQ) = oP (m_law_marks v_error) fun r => PQ (.v r) [] := by walk_at "mx  m_law_marks w_law_marks"
theorem ok_law_marks : ∀ args PQ PX, sp_law_marks args PQ PX → w_law_marks (fnX args PX) (start0 5 args) (fnD args PQ) := by
  rintro args PQ PX ⟨_, rfl, h⟩
  rw [e_law_marks]; exact h
theorem hl_law_marks : ∀ args PQ PX, sp_law_marks args PQ PX → args.length = 1 := by
  rintro args PQ PX ⟨_, rfl, h⟩; rfl
def m_law_only_c1 (v_at : D)  (d : D) : Option (D) :=
  (eqX d v_at).bind fun t5 =>
  some (.bl t5)
def e_law_only_c1 : WE := wBin dEq (wVar 2) (wVar 1)
theorem l_law_only_c1 (v_error : D) (v_at : D) (ds : List D) (Q : List D → TSt → Prop) : (lenOk ds ∧ lcK (gN 2) wYes e_law_only_c1 [2] ds [] [.v v_error, .v v_at, .un] Q ⟨⟩) = oP (mapX (m_law_only_c1 v_at) ds) fun l => Q l [.v v_error, .v v_at, .un] := lc_map [.v v_error, .v v_at, .un] (m_law_only_c1 v_at) (fun d Y => by walk_at "mx cl_law_marks m_law_only_c1 e_law_only_c1") ds
def m_law_only (v_error : D) (v_at : D) : Option (D) :=
  (if v_error.isNon = true then some true else (isEX ["NoMember"] ["NoField", "NoLine", "NoMember", "NoName", "NoNumber", "NoRings", "NoRow", "NoSpot", "NoText", "NoTurn", "NoWay", "TooMany"] v_error (.ty "ValueError")).bind fun t1 =>
    some (!t1)).bind fun t2 =>
  if t2 = true then
    some (.bl false)
  else
    (m_law_marks v_error).bind fun t3 =>
    (rg1X (.int 12)).bind fun t4 =>
    (mapX (m_law_only_c1 v_at) t4).bind fun t6 =>
    (eqX t3 (.lst t6)).bind fun t7 =>
    some (.bl t7)
def w_law_only : WS :=
  wSeq (wIf (wOr (wTB (wBin dIs (wVar 0) (wC .non))) (wNot (wTru (wBi (nIsE ["NoMember"] ["NoField", "NoLine", "NoMember", "NoName", "NoNumber", "NoRings", "NoRow", "NoSpot", "NoText", "NoTurn", "NoWay", "TooMany"]) (wCons (wVar 0) (wCons (wC (.ty "ValueError")) (wNil)))))))
  (wRetG [false, false, false] (wFr (wC (.bl false))))
  (wNext))
  (wRetG [false, false, false] (wFr (wBin dEq (wCall sp_law_marks (aV (wVar 0) (aNil))) (wLc (wIG (wR1 (wCons (wC (.int 12)) (wNil)))) (gN 2) (wYes) e_law_only_c1 [2]))))
def sp_law_only : TSpec := fun args PQ _ => ∃ (v_error : D) (v_at : D), args = [.v v_error, .v v_at] ∧ oP (m_law_only v_error v_at) fun r => PQ (.v r) []
theorem cl_law_only (v_error : D) (v_at : D) (PQ : R → List Cell → Prop) (PX : String → Pay → List Cell → Prop) : callK sp_law_only [.v v_error, .v v_at] PQ PX ⟨⟩ = oP (m_law_only v_error v_at) fun r => PQ (.v r) [] := by
  unfold callK sp_law_only
  refine propext ⟨fun h => ?_, fun h => ?_⟩
  · obtain ⟨_, _, e, h⟩ := h; cases e; exact h
  · exact ⟨_, _, rfl, h⟩
theorem e_law_only (PQ : R → List Cell → Prop) (PX : String → Pay → List Cell → Prop) (v_error : D) (v_at : D) : w_law_only (fnX [.v v_error, .v v_at] PX) (start0 3 [.v v_error, .v v_at]) (fnD [.v v_error, .v v_at] PQ) = oP (m_law_only v_error v_at) fun r => PQ (.v r) [] := by walk_at "mx l_law_only_c1 cl_law_marks m_law_only w_law_only"
theorem ok_law_only : ∀ args PQ PX, sp_law_only args PQ PX → w_law_only (fnX args PX) (start0 3 args) (fnD args PQ) := by
  rintro args PQ PX ⟨_, _, rfl, h⟩
  rw [e_law_only]; exact h
theorem hl_law_only : ∀ args PQ PX, sp_law_only args PQ PX → args.length = 2 := by
  rintro args PQ PX ⟨_, _, rfl, h⟩; rfl
def m_law_pair (v_hand_here : List D) : Option (D × (List D)) :=
  (addX (.lst [(.tup [(.int 2), (.int 1)]), (.tup [(.int 3), (.int 1)]), (.tup [(.int 5), (.int 1)]), (.tup [(.int 7), (.int 1)]), (.tup [(.int 11), (.int 1)]), (.tup [(.int 2), (.int 2)]), (.tup [(.int 3), (.int 2)]), (.tup [(.int 2), (.int 3)]), (.tup [(.int 5), (.int 2)]), (.tup [(.int 3), (.int 3)]), (.tup [(.int 2), (.int 4)]), (.tup [(.int 7), (.int 2)]), (.tup [(.int 2), (.int 5)])]) (.lst [(.tup [(.int 3), (.int 4)]), (.tup [(.int 2), (.int 6)]), (.tup [(.int 11), (.int 2)]), (.tup [(.int 5), (.int 3)]), (.tup [(.int 2), (.int 7)]), (.tup [(.int 23), (.int 1)]), (.tup [(.int 101), (.int 1)])])).bind fun t1 =>
  (m_law_take v_hand_here (.int 8)).bind fun t2 =>
  (eqX t2.1 (.int 0)).bind fun t3 =>
  if t3 = true then
    (m_law_take t2.2 (.int 8)).bind fun t4 =>
    (getX (.lst [(.tup [(.int 13), (.int 2)]), (.tup [(.int 3), (.int 5)]), (.tup [(.int 2), (.int 8)]), (.tup [(.int 17), (.int 2)]), (.tup [(.int 7), (.int 3)]), (.tup [(.int 211), (.int 1)]), (.tup [(.int 19), (.int 2)]), (.tup [(.int 349), (.int 1)])]) t4.1).bind fun t5 =>
    some (t5, t4.2)
  else
    (m_law_take t2.2 (.int 20)).bind fun t6 =>
    (getX t1 t6.1).bind fun t7 =>
    some (t7, t6.2)
def w_law_pair : WS :=
  wSeq (wSet 1 (wFr (wLst (wCons (wTup (wCons (wC (.int 2)) (wCons (wC (.int 1)) (wNil)))) (wCons (wTup (wCons (wC (.int 3)) (wCons (wC (.int 1)) (wNil)))) (wCons (wTup (wCons (wC (.int 5)) (wCons (wC (.int 1)) (wNil)))) (wCons (wTup (wCons (wC (.int 7)) (wCons (wC (.int 1)) (wNil)))) (wCons (wTup (wCons (wC (.int 11)) (wCons (wC (.int 1)) (wNil)))) (wCons (wTup (wCons (wC (.int 2)) (wCons (wC (.int 2)) (wNil)))) (wCons (wTup (wCons (wC (.int 3)) (wCons (wC (.int 2)) (wNil)))) (wCons (wTup (wCons (wC (.int 2)) (wCons (wC (.int 3)) (wNil)))) (wCons (wTup (wCons (wC (.int 5)) (wCons (wC (.int 2)) (wNil)))) (wCons (wTup (wCons (wC (.int 3)) (wCons (wC (.int 3)) (wNil)))) (wCons (wTup (wCons (wC (.int 2)) (wCons (wC (.int 4)) (wNil)))) (wCons (wTup (wCons (wC (.int 7)) (wCons (wC (.int 2)) (wNil)))) (wCons (wTup (wCons (wC (.int 2)) (wCons (wC (.int 5)) (wNil)))) (wNil)))))))))))))))))
  (wSeq (wSet 1 (wFr (wBin dAdd (wVar 1) (wLst (wCons (wTup (wCons (wC (.int 3)) (wCons (wC (.int 4)) (wNil)))) (wCons (wTup (wCons (wC (.int 2)) (wCons (wC (.int 6)) (wNil)))) (wCons (wTup (wCons (wC (.int 11)) (wCons (wC (.int 2)) (wNil)))) (wCons (wTup (wCons (wC (.int 5)) (wCons (wC (.int 3)) (wNil)))) (wCons (wTup (wCons (wC (.int 2)) (wCons (wC (.int 7)) (wNil)))) (wCons (wTup (wCons (wC (.int 23)) (wCons (wC (.int 1)) (wNil)))) (wCons (wTup (wCons (wC (.int 101)) (wCons (wC (.int 1)) (wNil)))) (wNil))))))))))))
  (wSeq (wIf (wTB (wBin dEq (wCall sp_law_take (aR 0 (aV (wC (.int 8)) (aNil)))) (wC (.int 0))))
  (wRetG [true, false] (wFr (wBin dGet (wLst (wCons (wTup (wCons (wC (.int 13)) (wCons (wC (.int 2)) (wNil)))) (wCons (wTup (wCons (wC (.int 3)) (wCons (wC (.int 5)) (wNil)))) (wCons (wTup (wCons (wC (.int 2)) (wCons (wC (.int 8)) (wNil)))) (wCons (wTup (wCons (wC (.int 17)) (wCons (wC (.int 2)) (wNil)))) (wCons (wTup (wCons (wC (.int 7)) (wCons (wC (.int 3)) (wNil)))) (wCons (wTup (wCons (wC (.int 211)) (wCons (wC (.int 1)) (wNil)))) (wCons (wTup (wCons (wC (.int 19)) (wCons (wC (.int 2)) (wNil)))) (wCons (wTup (wCons (wC (.int 349)) (wCons (wC (.int 1)) (wNil)))) (wNil)))))))))) (wCall sp_law_take (aR 0 (aV (wC (.int 8)) (aNil)))))))
  (wNext))
  (wRetG [true, false] (wFr (wSubK dGet 1 (wCall sp_law_take (aR 0 (aV (wC (.int 20)) (aNil)))))))))
def sp_law_pair : TSpec := fun args PQ _ => ∃ (v_hand_here : List D), args = [.ref (.lst v_hand_here)] ∧ oP (m_law_pair v_hand_here) fun r => PQ (.v r.1) [.lst r.2]
theorem cl_law_pair (v_hand_here : List D) (PQ : R → List Cell → Prop) (PX : String → Pay → List Cell → Prop) : callK sp_law_pair [.ref (.lst v_hand_here)] PQ PX ⟨⟩ = oP (m_law_pair v_hand_here) fun r => PQ (.v r.1) [.lst r.2] := by
  unfold callK sp_law_pair
  refine propext ⟨fun h => ?_, fun h => ?_⟩
  · obtain ⟨_, e, h⟩ := h; cases e; exact h
  · exact ⟨_, rfl, h⟩
theorem e_law_pair (PQ : R → List Cell → Prop) (PX : String → Pay → List Cell → Prop) (v_hand_here : List D) : w_law_pair (fnX [.ref (.lst v_hand_here)] PX) (start0 2 [.ref (.lst v_hand_here)]) (fnD [.ref (.lst v_hand_here)] PQ) = oP (m_law_pair v_hand_here) fun r => PQ (.v r.1) [.lst r.2] := by walk_at "mx cl_law_take m_law_pair w_law_pair"
theorem ok_law_pair : ∀ args PQ PX, sp_law_pair args PQ PX → w_law_pair (fnX args PX) (start0 2 args) (fnD args PQ) := by
  rintro args PQ PX ⟨_, rfl, h⟩
  rw [e_law_pair]; exact h
theorem hl_law_pair : ∀ args PQ PX, sp_law_pair args PQ PX → args.length = 1 := by
  rintro args PQ PX ⟨_, rfl, h⟩; rfl
def m_law_walk_w1 (v_p : D) (v_form : D) (v_a : D) (v_unit : D) (s : (List D) × D) : Option (WH ((List D) × D) (D)) :=
  (neX s.2 v_unit).bind fun t5 =>
  (if t5 = true then (lenX (.lst s.1)).bind fun t6 =>
    (lenX v_form).bind fun t7 =>
    (subX t7 (.int 1)).bind fun t8 =>
    (m_law_size v_p t8).bind fun t9 =>
    (ltAX t6 t9).bind fun t10 =>
    some t10 else some false).bind fun t11 =>
  if t11 = true then
    (appX s.1 s.2).bind fun t12 =>
    (m_law_by v_p v_form s.2 v_a).bind fun t13 =>
    some (.go (t12, t13))
  else
    some (.dn (s.1, s.2))
def q_law_walk_w1 : WT := wAnd (wTB (wBin dNe (wVar 5) (wVar 3))) (wTB (wBin dLtA (wBiK nLen 4) (wCall sp_law_size (aV (wVar 0) (aV (wBin dSub (wBiK nLen 1) (wC (.int 1))) (aNil))))))
def b_law_walk_w1 : WS := wSeq (wDrop (wApp 4 (wCons (wVar 5) (wNil))))
  (wSet 5 (wFr (wCall sp_law_by (aV (wVar 0) (aV (wVar 1) (aV (wVar 5) (aV (wVar 2) (aNil))))))))
theorem l_law_walk_w1 (W : TX) (nx : TSt → Prop) (rt : R → TSt → Prop) (bk ct : TSt → Prop) (v_p : D) (v_form : D) (v_a : D) (v_unit : D) (v_found : List D) (v_here : D) : whileK q_law_walk_w1 b_law_walk_w1 W [.v v_p, .v v_form, .v v_a, .v v_unit, .own (.lst v_found), .v v_here] ⟨nx, rt, bk, ct⟩ ⟨⟩ = oP (whX (m_law_walk_w1 v_p v_form v_a v_unit) (v_found, v_here)) fun o => o.cs (fun s => nx [.v v_p, .v v_form, .v v_a, .v v_unit, .own (.lst s.1), .v s.2]) (fun r => rt (.v r) [.un, .un, .un, .un, .un, .un]) := whileK_X (fun s : (List D) × D => [.v v_p, .v v_form, .v v_a, .v v_unit, .own (.lst s.1), .v s.2]) (fun r => rt (.v r) [.un, .un, .un, .un, .un, .un]) (m_law_walk_w1 v_p v_form v_a v_unit) (fun s nxt => by walk_at "mx cl_law_size cl_law_by m_law_walk_w1 b_law_walk_w1 q_law_walk_w1") (v_found, v_here)
def m_law_walk (v_p : D) (v_form : D) (v_a : D) : Option (D) :=
  (lenX v_form).bind fun t1 =>
  (subX t1 (.int 2)).bind fun t2 =>
  (mulAX (.tup [(.int 0)]) t2).bind fun t3 =>
  (addX (.tup [(.int 1)]) t3).bind fun t4 =>
  (whX (m_law_walk_w1 v_p v_form v_a t4) ([t4], v_a)).bind fun t14 =>
  t14.cs (fun s15 =>
    some (.lst s15.1))
    (fun r => some r)
def w_law_walk : WS :=
  wSeq (wSet 3 (wFr (wBin dAdd (wTup (wCons (wC (.int 1)) (wNil))) (wBin dMulA (wTup (wCons (wC (.int 0)) (wNil))) (wBin dSub (wBiK nLen 1) (wC (.int 2)))))))
  (wSeq (wParR2 4 5 (wLst (wCons (wVar 3) (wNil))) (wFr (wVar 2)))
  (wSeq (wWhile q_law_walk_w1 b_law_walk_w1)
  (wRetG [false, false, false, false, false, false] (wFr (wVar 4)))))
def sp_law_walk : TSpec := fun args PQ _ => ∃ (v_p : D) (v_form : D) (v_a : D), args = [.v v_p, .v v_form, .v v_a] ∧ oP (m_law_walk v_p v_form v_a) fun r => PQ (.v r) []
theorem cl_law_walk (v_p : D) (v_form : D) (v_a : D) (PQ : R → List Cell → Prop) (PX : String → Pay → List Cell → Prop) : callK sp_law_walk [.v v_p, .v v_form, .v v_a] PQ PX ⟨⟩ = oP (m_law_walk v_p v_form v_a) fun r => PQ (.v r) [] := by
  unfold callK sp_law_walk
  refine propext ⟨fun h => ?_, fun h => ?_⟩
  · obtain ⟨_, _, _, e, h⟩ := h; cases e; exact h
  · exact ⟨_, _, _, rfl, h⟩
theorem e_law_walk (PQ : R → List Cell → Prop) (PX : String → Pay → List Cell → Prop) (v_p : D) (v_form : D) (v_a : D) : w_law_walk (fnX [.v v_p, .v v_form, .v v_a] PX) (start0 6 [.v v_p, .v v_form, .v v_a]) (fnD [.v v_p, .v v_form, .v v_a] PQ) = oP (m_law_walk v_p v_form v_a) fun r => PQ (.v r) [] := by walk_at "mx l_law_walk_w1 cl_law_size cl_law_by m_law_walk w_law_walk"
theorem ok_law_walk : ∀ args PQ PX, sp_law_walk args PQ PX → w_law_walk (fnX args PX) (start0 6 args) (fnD args PQ) := by
  rintro args PQ PX ⟨_, _, _, rfl, h⟩
  rw [e_law_walk]; exact h
theorem hl_law_walk : ∀ args PQ PX, sp_law_walk args PQ PX → args.length = 3 := by
  rintro args PQ PX ⟨_, _, _, rfl, h⟩; rfl
def m_law_first_f1 (v_p : D) (v_form : D) (v_most : D) (s : Unit) (d : D) : Option (SO (Unit) (D)) :=
  (m_law_walk v_p v_form d).bind fun t10 =>
  (lenX t10).bind fun t11 =>
  (eqX t11 v_most).bind fun t12 =>
  if t12 = true then
    some (.rt (.tup [d, t10]))
  else
    some (.nx ())
def b_law_first_f1 : WS := wSeq (wSeq (wSet 4 (wFr (wCall sp_law_walk (aV (wVar 0) (aV (wVar 1) (aV (wVar 3) (aNil)))))))
  (wIf (wTB (wBin dEq (wBiK nLen 4) (wVar 2)))
  (wRetG [false, false, false, false, false] (wFr (wTup (wCons (wVar 3) (wCons (wVar 4) (wNil))))))
  (wNext)))
  (wGhN [.kp, .kp, .kp, .kl, .kl])
theorem l_law_first_f1 (W : TX) (nx : TSt → Prop) (rt : R → TSt → Prop) (bk ct : TSt → Prop) (v_p : D) (v_form : D) (v_most : D)  (ds : List D) : forK (gN 3) b_law_first_f1 W ds [.v v_p, .v v_form, .v v_most, .un, .un] ⟨nx, rt, bk, ct⟩ ⟨⟩ = oP (forX (m_law_first_f1 v_p v_form v_most) ds ()) fun o => o.cs (fun s => nx [.v v_p, .v v_form, .v v_most, .un, .un]) (fun r => rt (.v r) [.un, .un, .un, .un, .un]) := forK_for (fun s : Unit => [.v v_p, .v v_form, .v v_most, .un, .un]) (fun r => rt (.v r) [.un, .un, .un, .un, .un]) (m_law_first_f1 v_p v_form v_most) (fun s d nxt => by walk_at "mx cl_law_size cl_law_rows cl_law_walk m_law_first_f1 b_law_first_f1") ds ()
def m_law_first (v_p : D) (v_form : D) : Option (D) :=
  (lenX v_form).bind fun t1 =>
  (subX t1 (.int 1)).bind fun t2 =>
  (m_law_size v_p t2).bind fun t3 =>
  (subX t3 (.int 1)).bind fun t4 =>
  (lenX v_form).bind fun t5 =>
  (subX t5 (.int 1)).bind fun t6 =>
  (m_law_rows v_p t6).bind fun t7 =>
  (slX t7 (some 1) none).bind fun t8 =>
  (itX t8).bind fun t9 =>
  (forX (m_law_first_f1 v_p v_form t4) t9 ()).bind fun t13 =>
  t13.cs (fun s14 =>
    some .non)
    (fun r => some r)
def w_law_first : WS :=
  wSeq (wSet 2 (wFr (wBin dSub (wCall sp_law_size (aV (wVar 0) (aV (wBin dSub (wBiK nLen 1) (wC (.int 1))) (aNil)))) (wC (.int 1)))))
  (wSeq (wFor (wItS (wSl (wCall sp_law_rows (aV (wVar 0) (aV (wBin dSub (wBiK nLen 1) (wC (.int 1))) (aNil)))) (oSome (wC (.int 1))) (oNone))) (gN 3) b_law_first_f1)
  (wRetG [false, false, false, false, false] (wFr (wC .non))))
def sp_law_first : TSpec := fun args PQ _ => ∃ (v_p : D) (v_form : D), args = [.v v_p, .v v_form] ∧ oP (m_law_first v_p v_form) fun r => PQ (.v r) []
theorem cl_law_first (v_p : D) (v_form : D) (PQ : R → List Cell → Prop) (PX : String → Pay → List Cell → Prop) : callK sp_law_first [.v v_p, .v v_form] PQ PX ⟨⟩ = oP (m_law_first v_p v_form) fun r => PQ (.v r) [] := by
  unfold callK sp_law_first
  refine propext ⟨fun h => ?_, fun h => ?_⟩
  · obtain ⟨_, _, e, h⟩ := h; cases e; exact h
  · exact ⟨_, _, rfl, h⟩
theorem e_law_first (PQ : R → List Cell → Prop) (PX : String → Pay → List Cell → Prop) (v_p : D) (v_form : D) : w_law_first (fnX [.v v_p, .v v_form] PX) (start0 5 [.v v_p, .v v_form]) (fnD [.v v_p, .v v_form] PQ) = oP (m_law_first v_p v_form) fun r => PQ (.v r) [] := by walk_at "mx l_law_first_f1 cl_law_size cl_law_rows cl_law_walk m_law_first w_law_first"
theorem ok_law_first : ∀ args PQ PX, sp_law_first args PQ PX → w_law_first (fnX args PX) (start0 5 args) (fnD args PQ) := by
  rintro args PQ PX ⟨_, _, rfl, h⟩
  rw [e_law_first]; exact h
theorem hl_law_first : ∀ args PQ PX, sp_law_first args PQ PX → args.length = 2 := by
  rintro args PQ PX ⟨_, _, rfl, h⟩; rfl
def m_Field_init (v_self : List (Str × FV)) (v_p : D) (v_m : D) : Option (D × (List (Str × FV))) :=
  (m_is_power_within v_p v_m (.int 2200)).bind fun t1 =>
  (truX t1).bind fun t2 =>
  if (!t2) = true then
    none
  else
    (m_least_whole v_p v_m).bind fun t3 =>
    (mulAX (.tup [(.int 0)]) v_m).bind fun t4 =>
    (subX v_m (.int 1)).bind fun t5 =>
    (mulAX (.tup [(.int 0)]) t5).bind fun t6 =>
    (addX (.tup [(.int 1)]) t6).bind fun t7 =>
    some (.non, (putFV "kept_logs" (.d .t []) (putFV "kept_first" (.v .non) (putFV "one" (.v t7) (putFV "nought" (.v t4) (putFV "shape" (.v t3) (putFV "m" (.v v_m) (putFV "p" (.v v_p) v_self))))))))
def w_Field_init : WS :=
  wSeq (wIf (wNot (wTru (wCall sp_is_power_within (aV (wVar 1) (aV (wVar 2) (aV (wC (.int 2200)) (aNil)))))))
  (wNever)
  (wNext))
  (wSeq (wFldS "Field" 0 "p" (wFr (wVar 1)))
  (wSeq (wFldS "Field" 0 "m" (wFr (wVar 2)))
  (wSeq (wFldS "Field" 0 "shape" (wFr (wCall sp_least_whole (aV (wVar 1) (aV (wVar 2) (aNil))))))
  (wSeq (wFldS "Field" 0 "nought" (wFr (wBin dMulA (wTup (wCons (wC (.int 0)) (wNil))) (wVar 2))))
  (wSeq (wFldS "Field" 0 "one" (wFr (wBin dAdd (wTup (wCons (wC (.int 1)) (wNil))) (wBin dMulA (wTup (wCons (wC (.int 0)) (wNil))) (wBin dSub (wVar 2) (wC (.int 1)))))))
  (wSeq (wFldS "Field" 0 "kept_first" (wFr (wC .non)))
  (wFldS "Field" 0 "kept_logs" (wDnew .t))))))))
def sp_Field_init : TSpec := fun args PQ _ => ∃ (v_self : List (Str × FV)) (v_p : D) (v_m : D), args = [.ref (.ins "Field" v_self), .v v_p, .v v_m] ∧ oP (m_Field_init v_self v_p v_m) fun r => PQ (.v r.1) [.ins "Field" r.2]
theorem cl_Field_init (v_self : List (Str × FV)) (v_p : D) (v_m : D) (PQ : R → List Cell → Prop) (PX : String → Pay → List Cell → Prop) : callK sp_Field_init [.ref (.ins "Field" v_self), .v v_p, .v v_m] PQ PX ⟨⟩ = oP (m_Field_init v_self v_p v_m) fun r => PQ (.v r.1) [.ins "Field" r.2] := by
  unfold callK sp_Field_init
  refine propext ⟨fun h => ?_, fun h => ?_⟩
  · obtain ⟨_, _, _, e, h⟩ := h; cases e; exact h
  · exact ⟨_, _, _, rfl, h⟩
theorem e_Field_init (PQ : R → List Cell → Prop) (PX : String → Pay → List Cell → Prop) (v_self : List (Str × FV)) (v_p : D) (v_m : D) : w_Field_init (fnX [.ref (.ins "Field" v_self), .v v_p, .v v_m] PX) (start0 3 [.ref (.ins "Field" v_self), .v v_p, .v v_m]) (fnD [.ref (.ins "Field" v_self), .v v_p, .v v_m] PQ) = oP (m_Field_init v_self v_p v_m) fun r => PQ (.v r.1) [.ins "Field" r.2] := by walk_at "mx e_wFldS onIns_ap insAt fvR_v fvR_l fvR_d cl_is_power_within cl_least_whole m_Field_init w_Field_init"
theorem ok_Field_init : ∀ args PQ PX, sp_Field_init args PQ PX → w_Field_init (fnX args PX) (start0 3 args) (fnD args PQ) := by
  rintro args PQ PX ⟨_, _, _, rfl, h⟩
  rw [e_Field_init]; exact h
theorem hl_Field_init : ∀ args PQ PX, sp_Field_init args PQ PX → args.length = 3 := by
  rintro args PQ PX ⟨_, _, _, rfl, h⟩; rfl
def m_Field_is_first_c1 (v_self : D) (v_a : D) (v_most : D)  (d : D) : Option (D) :=
  (tup2X d).bind fun t8 =>
  (objX "Field" v_self).bind fun t9 =>
  (divX v_most t8.1).bind fun t10 =>
  (m_Field_power t9 v_a t10).bind fun t11 =>
  (fldX "Field" v_self "one").bind fun t12 =>
  (neX t11 t12).bind fun t13 =>
  some (.bl t13)
def e_Field_is_first_c1 : WE := wBin dNe (wMeth "Field" sp_Field_power (wVar 0) (aV (wVar 1) (aV (wBin dDiv (wVar 3) (wVar 4)) (aNil)))) (wFld "Field" "one" (wVar 0))
theorem l_Field_is_first_c1 (v_self : D) (v_a : D) (v_primes : D) (v_most : D) (ds : List D) (Q : List D → TSt → Prop) : (lenOk ds ∧ lcK (gT 2 (gsCons (gN 4) (gsCons (gN 5) (gsNil)))) wYes e_Field_is_first_c1 [4, 5] ds [] [.v v_self, .v v_a, .v v_primes, .v v_most, .un, .un] Q ⟨⟩) = oP (mapX (m_Field_is_first_c1 v_self v_a v_most) ds) fun l => Q l [.v v_self, .v v_a, .v v_primes, .v v_most, .un, .un] := lc_map [.v v_self, .v v_a, .v v_primes, .v v_most, .un, .un] (m_Field_is_first_c1 v_self v_a v_most) (fun d Y => by walk_at "mx e_wFld e_wMeth cl_to_the cl_Field_power m_Field_is_first_c1 e_Field_is_first_c1") ds
def m_Field_is_first (v_self : D) (v_a : D) (v_primes : D) : Option (D) :=
  (fldX "Field" v_self "nought").bind fun t1 =>
  (eqX v_a t1).bind fun t2 =>
  if t2 = true then
    some (.bl false)
  else
    (fldX "Field" v_self "p").bind fun t3 =>
    (fldX "Field" v_self "m").bind fun t4 =>
    (m_to_the t3 t4).bind fun t5 =>
    (subX t5 (.int 1)).bind fun t6 =>
    (itX v_primes).bind fun t7 =>
    (mapX (m_Field_is_first_c1 v_self v_a t6) t7).bind fun t14 =>
    (allX (.lst t14)).bind fun t15 =>
    some (.bl t15)
def w_Field_is_first : WS :=
  wSeq (wIf (wTB (wBin dEq (wVar 1) (wFld "Field" "nought" (wVar 0))))
  (wRetG [false, false, false, false, false, false] (wFr (wC (.bl false))))
  (wNext))
  (wSeq (wSet 3 (wFr (wBin dSub (wCall sp_to_the (aV (wFld "Field" "p" (wVar 0)) (aV (wFld "Field" "m" (wVar 0)) (aNil)))) (wC (.int 1)))))
  (wRetG [false, false, false, false, false, false] (wFr (wBi nAll (wCons (wLc (wIG (wItS (wVar 2))) (gT 2 (gsCons (gN 4) (gsCons (gN 5) (gsNil)))) (wYes) e_Field_is_first_c1 [4, 5]) (wNil))))))
def sp_Field_is_first : TSpec := fun args PQ _ => ∃ (v_self : D) (v_a : D) (v_primes : D), args = [.v v_self, .v v_a, .v v_primes] ∧ oP (m_Field_is_first v_self v_a v_primes) fun r => PQ (.v r) []
theorem cl_Field_is_first (v_self : D) (v_a : D) (v_primes : D) (PQ : R → List Cell → Prop) (PX : String → Pay → List Cell → Prop) : callK sp_Field_is_first [.v v_self, .v v_a, .v v_primes] PQ PX ⟨⟩ = oP (m_Field_is_first v_self v_a v_primes) fun r => PQ (.v r) [] := by
  unfold callK sp_Field_is_first
  refine propext ⟨fun h => ?_, fun h => ?_⟩
  · obtain ⟨_, _, _, e, h⟩ := h; cases e; exact h
  · exact ⟨_, _, _, rfl, h⟩
theorem e_Field_is_first (PQ : R → List Cell → Prop) (PX : String → Pay → List Cell → Prop) (v_self : D) (v_a : D) (v_primes : D) : w_Field_is_first (fnX [.v v_self, .v v_a, .v v_primes] PX) (start0 6 [.v v_self, .v v_a, .v v_primes]) (fnD [.v v_self, .v v_a, .v v_primes] PQ) = oP (m_Field_is_first v_self v_a v_primes) fun r => PQ (.v r) [] := by walk_at "mx e_wFld e_wMeth l_Field_is_first_c1 cl_to_the cl_Field_power m_Field_is_first w_Field_is_first"
theorem ok_Field_is_first : ∀ args PQ PX, sp_Field_is_first args PQ PX → w_Field_is_first (fnX args PX) (start0 6 args) (fnD args PQ) := by
  rintro args PQ PX ⟨_, _, _, rfl, h⟩
  rw [e_Field_is_first]; exact h
theorem hl_Field_is_first : ∀ args PQ PX, sp_Field_is_first args PQ PX → args.length = 3 := by
  rintro args PQ PX ⟨_, _, _, rfl, h⟩; rfl
def m_Field_first_w2 (v_self : List (Str × FV)) (v_primes : D) (v_some : D) (s : D) : Option (WH (D) (D × (List (Str × FV)))) :=
  (getX v_some s).bind fun t10 =>
  (m_Field_is_first (frzI "Field" v_self) t10 v_primes).bind fun t11 =>
  (flatX t11).bind fun t12 =>
  (truX t11).bind fun t13 =>
  if (!t13) = true then
    (iaddX s (.int 1)).bind fun t14 =>
    some (.go t14)
  else
    some (.dn s)
def q_Field_first_w2 : WT := wNot (wTru (wMethR "Field" (vwT sp_Field_is_first) 0 (aV (wSubK dGet 3 (wVar 2)) (aV (wVar 1) (aNil)))))
def b_Field_first_w2 : WS := wAug 2 iAdd (wC (.int 1))
theorem l_Field_first_w2 (W : TX) (nx : TSt → Prop) (rt : R → TSt → Prop) (bk ct : TSt → Prop) (v_self : List (Str × FV)) (v_primes : D) (v_some : D) (v_at : D) : whileK q_Field_first_w2 b_Field_first_w2 W [.bor (.ins "Field" v_self), .v v_primes, .v v_at, .v v_some] ⟨nx, rt, bk, ct⟩ ⟨⟩ = oP (whX (m_Field_first_w2 v_self v_primes v_some) v_at) fun o => o.cs (fun s => nx [.bor (.ins "Field" v_self), .v v_primes, .v s, .v v_some]) (fun r => rt (.v r.1) [.bor (.ins "Field" r.2), .un, .un, .un]) := whileK_X (fun s : D => [.bor (.ins "Field" v_self), .v v_primes, .v s, .v v_some]) (fun r => rt (.v r.1) [.bor (.ins "Field" r.2), .un, .un, .un]) (m_Field_first_w2 v_self v_primes v_some) (fun s nxt => by walk_at "mx e_wFldK onIns_ap insAt e_wMethR vw_ap nrK_nil nrK_v flatR_v cl_to_the cl_primes_in cl_rows_of_numbers cl_Field_is_first m_Field_first_w2 b_Field_first_w2 q_Field_first_w2") v_at
def m_Field_first_j1 (v_self : List (Str × FV)) : Option (SO (List (Str × FV)) (D × (List (Str × FV)))) :=
  (fldCX v_self "kept_first").bind fun t1 =>
  if t1.isNon = true then
    (fldCX v_self "p").bind fun t2 =>
    (fldCX v_self "m").bind fun t3 =>
    (m_to_the t2 t3).bind fun t4 =>
    (subX t4 (.int 1)).bind fun t5 =>
    (m_primes_in t5).bind fun t6 =>
    (fldCX v_self "p").bind fun t7 =>
    (fldCX v_self "m").bind fun t8 =>
    (m_rows_of_numbers t7 t8).bind fun t9 =>
    (whX (m_Field_first_w2 v_self t6 t9) (.int 0)).bind fun t15 =>
    t15.cs (fun s16 =>
      (getX t9 s16).bind fun t17 =>
      some (.nx (putFV "kept_first" (.v t17) v_self)))
      (fun r => some (.rt r))
  else
    some (.nx v_self)
def j_Field_first_j1 : WS := wIf (wTB (wBin dIs (wFldK "Field" 0 "kept_first") (wC .non)))
  (wSeq (wSeq (wSet 1 (wFr (wCall sp_primes_in (aV (wBin dSub (wCall sp_to_the (aV (wFldK "Field" 0 "p") (aV (wFldK "Field" 0 "m") (aNil)))) (wC (.int 1))) (aNil)))))
  (wSeq (wSet 2 (wFr (wC (.int 0))))
  (wSeq (wSet 3 (wFr (wCall sp_rows_of_numbers (aV (wFldK "Field" 0 "p") (aV (wFldK "Field" 0 "m") (aNil))))))
  (wSeq (wWhile q_Field_first_w2 b_Field_first_w2)
  (wFldS "Field" 0 "kept_first" (wFr (wSubK dGet 3 (wVar 2)))))))) (wGhN [.kp, .kl, .kl, .kl]))
  (wNext)
theorem l_Field_first_j1 (W : TX) (nx : TSt → Prop) (rt : R → TSt → Prop) (bk ct : TSt → Prop) (v_self : List (Str × FV)) : j_Field_first_j1 W [.bor (.ins "Field" v_self), .un, .un, .un] ⟨nx, rt, bk, ct⟩ = oP (m_Field_first_j1 v_self) fun o => o.cs (fun s => nx [.bor (.ins "Field" s), .un, .un, .un]) (fun r => rt (.v r.1) [.bor (.ins "Field" r.2), .un, .un, .un]) := by walk_at "mx e_wFldK onIns_ap insAt e_wMethR vw_ap nrK_nil nrK_v flatR_v l_Field_first_w2 e_wFldS fvR_v fvR_l fvR_d cl_to_the cl_primes_in cl_rows_of_numbers cl_Field_is_first m_Field_first_j1 j_Field_first_j1"
def m_Field_first (v_self : List (Str × FV)) : Option (D × (List (Str × FV))) :=
  (m_Field_first_j1 v_self).bind fun t18 =>
  t18.cs (fun s19 =>
    (fldCX s19 "kept_first").bind fun t20 =>
    some (t20, s19))
    (fun r => some r)
def w_Field_first : WS :=
  wSeq (j_Field_first_j1)
  (wRetG [true, false, false, false] (wFr (wFldK "Field" 0 "kept_first")))
def sp_Field_first : TSpec := fun args PQ _ => ∃ (v_self : List (Str × FV)), args = [.ref (.ins "Field" v_self)] ∧ oP (m_Field_first v_self) fun r => PQ (.v r.1) [.ins "Field" r.2]
theorem cl_Field_first (v_self : List (Str × FV)) (PQ : R → List Cell → Prop) (PX : String → Pay → List Cell → Prop) : callK sp_Field_first [.ref (.ins "Field" v_self)] PQ PX ⟨⟩ = oP (m_Field_first v_self) fun r => PQ (.v r.1) [.ins "Field" r.2] := by
  unfold callK sp_Field_first
  refine propext ⟨fun h => ?_, fun h => ?_⟩
  · obtain ⟨_, e, h⟩ := h; cases e; exact h
  · exact ⟨_, rfl, h⟩
theorem e_Field_first (PQ : R → List Cell → Prop) (PX : String → Pay → List Cell → Prop) (v_self : List (Str × FV)) : w_Field_first (fnX [.ref (.ins "Field" v_self)] PX) (start0 4 [.ref (.ins "Field" v_self)]) (fnD [.ref (.ins "Field" v_self)] PQ) = oP (m_Field_first v_self) fun r => PQ (.v r.1) [.ins "Field" r.2] := by walk_at "mx e_wFldK onIns_ap insAt e_wMethR vw_ap nrK_nil nrK_v flatR_v l_Field_first_w2 e_wFldS fvR_v fvR_l fvR_d l_Field_first_j1 cl_to_the cl_primes_in cl_rows_of_numbers cl_Field_is_first m_Field_first w_Field_first"
theorem ok_Field_first : ∀ args PQ PX, sp_Field_first args PQ PX → w_Field_first (fnX args PX) (start0 4 args) (fnD args PQ) := by
  rintro args PQ PX ⟨_, rfl, h⟩
  rw [e_Field_first]; exact h
theorem hl_Field_first : ∀ args PQ PX, sp_Field_first args PQ PX → args.length = 1 := by
  rintro args PQ PX ⟨_, rfl, h⟩; rfl
def m_Field_log_f2 (v_a : D) (s : (List (Str × FV)) × D) (d : D) : Option ((List (Str × FV)) × D) :=
  (setFX s.1 "kept_logs" s.2 d).bind fun t10 =>
  (m_Field_first t10).bind fun t11 =>
  (m_Field_by (frzI "Field" t11.2) s.2 t11.1).bind fun t12 =>
  (flatX t12).bind fun t13 =>
  some (t11.2, t12)
def b_Field_log_f2 : WS := wSeq (wSeq (wFPut "Field" 0 "kept_logs" 2 (wVar 3))
  (wSet 2 (wFr (wMethR "Field" (vwT sp_Field_by) 0 (aV (wVar 2) (aV (wMethR "Field" sp_Field_first 0 (aNil)) (aNil)))))))
  (wGhN [.kp, .kp, .kp, .kl])
theorem l_Field_log_f2 (W : TX) (nx : TSt → Prop) (rt : R → TSt → Prop) (bk ct : TSt → Prop) (v_a : D) (v_self : List (Str × FV)) (v_here : D) (ds : List D) : forK (gN 3) b_Field_log_f2 W ds [.bor (.ins "Field" v_self), .v v_a, .v v_here, .un] ⟨nx, rt, bk, ct⟩ ⟨⟩ = oP (foldX (m_Field_log_f2 v_a) ds (v_self, v_here)) fun s => nx [.bor (.ins "Field" s.1), .v v_a, .v s.2, .un] := forK_fold (fun s : (List (Str × FV)) × D => [.bor (.ins "Field" s.1), .v v_a, .v s.2, .un]) (m_Field_log_f2 v_a) (fun s d nxt => by walk_at "mx e_wFldK onIns_ap insAt e_wFEmp e_wFPut vAt e_wMethR vw_ap nrK_nil nrK_v flatR_v cl_to_the cl_Field_first cl_Field_by m_Field_log_f2 b_Field_log_f2") ds (v_self, v_here)
def m_Field_log_j1 (v_self : List (Str × FV)) (v_a : D) : Option (List (Str × FV)) :=
  (empFX v_self "kept_logs").bind fun t3 =>
  if t3 = true then
    (fldCX v_self "one").bind fun t4 =>
    (fldCX v_self "p").bind fun t5 =>
    (fldCX v_self "m").bind fun t6 =>
    (m_to_the t5 t6).bind fun t7 =>
    (subX t7 (.int 1)).bind fun t8 =>
    (rg1X t8).bind fun t9 =>
    (foldX (m_Field_log_f2 v_a) t9 (v_self, t4)).bind fun t14 =>
    some t14.1
  else
    some v_self
def j_Field_log_j1 : WS := wIf (wTB (wFEmp "Field" 0 "kept_logs"))
  (wSeq (wSeq (wSet 2 (wFr (wFldK "Field" 0 "one")))
  (wFor (wR1 (wCons (wBin dSub (wCall sp_to_the (aV (wFldK "Field" 0 "p") (aV (wFldK "Field" 0 "m") (aNil)))) (wC (.int 1))) (wNil))) (gN 3) b_Field_log_f2)) (wGhN [.kp, .kp, .kl, .kp]))
  (wNext)
theorem l_Field_log_j1 (W : TX) (nx : TSt → Prop) (rt : R → TSt → Prop) (bk ct : TSt → Prop) (v_self : List (Str × FV)) (v_a : D) : j_Field_log_j1 W [.bor (.ins "Field" v_self), .v v_a, .un, .un] ⟨nx, rt, bk, ct⟩ = oP (m_Field_log_j1 v_self v_a) fun s => nx [.bor (.ins "Field" s), .v v_a, .un, .un] := by walk_at "mx e_wFldK onIns_ap insAt e_wFEmp e_wFPut vAt e_wMethR vw_ap nrK_nil nrK_v flatR_v l_Field_log_f2 cl_to_the cl_Field_first cl_Field_by m_Field_log_j1 j_Field_log_j1"
def m_Field_log (v_self : List (Str × FV)) (v_a : D) : Option (Ex (D × (List (Str × FV)))) :=
  (fldCX v_self "nought").bind fun t1 =>
  (eqX v_a t1).bind fun t2 =>
  if t2 = true then
    some (.er "NoMember")
  else
    (m_Field_log_j1 v_self v_a).bind fun t15 =>
    (getFX t15 "kept_logs" v_a).bind fun t16 =>
    some (.ok (t16, t15))
def w_Field_log : WS :=
  wSeq (wIf (wTB (wBin dEq (wVar 1) (wFldK "Field" 0 "nought")))
  (wRaise "NoMember")
  (wNext))
  (wSeq (j_Field_log_j1)
  (wRetG [true, false, false, false] (wFr (wFSub "Field" 0 "kept_logs" 1))))
def sp_Field_log : TSpec := fun args PQ PX => ∃ (v_self : List (Str × FV)) (v_a : D), args = [.ref (.ins "Field" v_self), .v v_a] ∧ oP (m_Field_log v_self v_a) fun o => o.cs (fun r => PQ (.v r.1) [.ins "Field" r.2]) (fun n => PX n none [.ins "Field" v_self])
theorem cl_Field_log (v_self : List (Str × FV)) (v_a : D) (PQ : R → List Cell → Prop) (PX : String → Pay → List Cell → Prop) : callK sp_Field_log [.ref (.ins "Field" v_self), .v v_a] PQ PX ⟨⟩ = oP (m_Field_log v_self v_a) fun o => o.cs (fun r => PQ (.v r.1) [.ins "Field" r.2]) (fun n => PX n none [.ins "Field" v_self]) := by
  unfold callK sp_Field_log
  refine propext ⟨fun h => ?_, fun h => ?_⟩
  · obtain ⟨_, _, e, h⟩ := h; cases e; exact h
  · exact ⟨_, _, rfl, h⟩
theorem e_Field_log (PQ : R → List Cell → Prop) (PX : String → Pay → List Cell → Prop) (v_self : List (Str × FV)) (v_a : D) : w_Field_log (fnX [.ref (.ins "Field" v_self), .v v_a] PX) (start0 4 [.ref (.ins "Field" v_self), .v v_a]) (fnD [.ref (.ins "Field" v_self), .v v_a] PQ) = oP (m_Field_log v_self v_a) fun o => o.cs (fun r => PQ (.v r.1) [.ins "Field" r.2]) (fun n => PX n none [.ins "Field" v_self]) := by walk_at "mx e_wFldK onIns_ap insAt e_wFEmp e_wFPut vAt e_wMethR vw_ap nrK_nil nrK_v flatR_v l_Field_log_f2 l_Field_log_j1 e_wFSub cl_to_the cl_Field_first cl_Field_by m_Field_log w_Field_log"
theorem ok_Field_log : ∀ args PQ PX, sp_Field_log args PQ PX → w_Field_log (fnX args PX) (start0 4 args) (fnD args PQ) := by
  rintro args PQ PX ⟨_, _, rfl, h⟩
  rw [e_Field_log]; exact h
theorem hl_Field_log : ∀ args PQ PX, sp_Field_log args PQ PX → args.length = 2 := by
  rintro args PQ PX ⟨_, _, rfl, h⟩; rfl
def m_law_refused_t1x (v_field : List (Str × FV)) (v_m : D) (v_caught : D) (n : String) : Option ((List (Str × FV)) × D) :=
  (guardX (["NoMember"].contains n)).bind fun _ =>
  some (v_field, (.exc n))
def m_law_refused_t1 (v_field : List (Str × FV)) (v_m : D) (v_caught : D) : Option ((List (Str × FV)) × D) :=
  (mulAX (.tup [(.int 0)]) v_m).bind fun t1 =>
  bindE (m_Field_log v_field t1) (fun n => m_law_refused_t1x v_field v_m v_caught n) fun t2 =>
  some (t2.2, v_caught)
def j_law_refused_t1 : WS := wTryAs 3 ["NoMember"]
  (wSeq (wDrop (wMethR "Field" sp_Field_log 0 (aV (wBin dMulA (wTup (wCons (wC (.int 0)) (wNil))) (wVar 1)) (aNil)))) (wGhN [.kp, .kl, .kp, .kp]))
  (wSeq (wSet 2 (wFr (wVar 3))) (wGhN [.kp, .kl, .kp, .kp]))
theorem l_law_refused_t1 (W : TX) (nx : TSt → Prop) (rt : R → TSt → Prop) (bk ct : TSt → Prop) (v_field : List (Str × FV)) (v_m : D) (v_caught : D) : j_law_refused_t1 W [.bor (.ins "Field" v_field), .v v_m, .v v_caught, .un] ⟨nx, rt, bk, ct⟩ = oP (m_law_refused_t1 v_field v_m v_caught) fun s => nx [.bor (.ins "Field" s.1), .un, .v s.2, .un] := by walk_at "mx e_wMethR onIns_ap insAt cl_Field_log m_law_refused_t1 m_law_refused_t1x j_law_refused_t1"
def m_law_refused (v_field : List (Str × FV)) (v_m : D) : Option (D × (List (Str × FV))) :=
  (m_law_refused_t1 v_field v_m .non).bind fun t3 =>
  (m_law_only t3.2 (.int 4)).bind fun t4 =>
  some (t4, t3.1)
def w_law_refused : WS :=
  wSeq (wSet 2 (wFr (wC .non)))
  (wSeq (j_law_refused_t1)
  (wRetG [true, false, false, false] (wFr (wCall sp_law_only (aV (wVar 2) (aV (wC (.int 4)) (aNil)))))))
def sp_law_refused : TSpec := fun args PQ _ => ∃ (v_field : List (Str × FV)) (v_m : D), args = [.ref (.ins "Field" v_field), .v v_m] ∧ oP (m_law_refused v_field v_m) fun r => PQ (.v r.1) [.ins "Field" r.2]
theorem cl_law_refused (v_field : List (Str × FV)) (v_m : D) (PQ : R → List Cell → Prop) (PX : String → Pay → List Cell → Prop) : callK sp_law_refused [.ref (.ins "Field" v_field), .v v_m] PQ PX ⟨⟩ = oP (m_law_refused v_field v_m) fun r => PQ (.v r.1) [.ins "Field" r.2] := by
  unfold callK sp_law_refused
  refine propext ⟨fun h => ?_, fun h => ?_⟩
  · obtain ⟨_, _, e, h⟩ := h; cases e; exact h
  · exact ⟨_, _, rfl, h⟩
theorem e_law_refused (PQ : R → List Cell → Prop) (PX : String → Pay → List Cell → Prop) (v_field : List (Str × FV)) (v_m : D) : w_law_refused (fnX [.ref (.ins "Field" v_field), .v v_m] PX) (start0 4 [.ref (.ins "Field" v_field), .v v_m]) (fnD [.ref (.ins "Field" v_field), .v v_m] PQ) = oP (m_law_refused v_field v_m) fun r => PQ (.v r.1) [.ins "Field" r.2] := by walk_at "mx e_wMethR onIns_ap insAt l_law_refused_t1 cl_Field_log cl_law_only m_law_refused w_law_refused"
theorem ok_law_refused : ∀ args PQ PX, sp_law_refused args PQ PX → w_law_refused (fnX args PX) (start0 4 args) (fnD args PQ) := by
  rintro args PQ PX ⟨_, _, rfl, h⟩
  rw [e_law_refused]; exact h
theorem hl_law_refused : ∀ args PQ PX, sp_law_refused args PQ PX → args.length = 2 := by
  rintro args PQ PX ⟨_, _, rfl, h⟩; rfl
def m_law_great_right_c1 (v_most : D) (s : List D) (d : D) : Option ((D) × (List D)) :=
  (m_law_take s v_most).bind fun t10 =>
  some (t10.1, t10.2)
def e_law_great_right_c1 : WE := wCall sp_law_take (aR 0 (aV (wVar 5) (aNil)))
theorem l_law_great_right_c1 (v_hand_here : List D) (v_some : D) (v_p : D) (v_m : D) (v_field : List (Str × FV)) (v_most : D) (ds : List D) (Q : List D → TSt → Prop) : (lenOk ds ∧ lcK (gN 7) wYes e_law_great_right_c1 [7] ds [] [.bor (.lst v_hand_here), .v v_some, .v v_p, .v v_m, .own (.ins "Field" v_field), .v v_most, .un, .un, .un] Q ⟨⟩) = oP (mapSX (m_law_great_right_c1 v_most) ds v_hand_here) fun p => Q p.1 [.bor (.lst p.2), .v v_some, .v v_p, .v v_m, .own (.ins "Field" v_field), .v v_most, .un, .un, .un] := lc_mapS (fun s : List D => [.bor (.lst s), .v v_some, .v v_p, .v v_m, .own (.ins "Field" v_field), .v v_most, .un, .un, .un]) (m_law_great_right_c1 v_most) (fun s d Y => by walk_at "mx e_wMake goMake_ap madeR_X cl_law_take cl_Field_init cl_law_size m_law_great_right_c1 e_law_great_right_c1") ds v_hand_here
def m_law_great_right_c2  (s : List (Str × FV)) (d : D) : Option ((D) × (List (Str × FV))) :=
  (m_Field_first s).bind fun t14 =>
  (m_Field_power (frzI "Field" t14.2) t14.1 d).bind fun t15 =>
  (flatX t15).bind fun t16 =>
  (m_Field_log t14.2 t15).bind fun t17 =>
  (t17.un).bind fun t18 =>
  (reprX t18.1).bind fun t19 =>
  (reprX d).bind fun t20 =>
  (eqX t19 t20).bind fun t21 =>
  some ((.bl t21), t18.2)
def e_law_great_right_c2 : WE := wBin dEq (wBi nRepr (wCons (wNoX (wMethR "Field" sp_Field_log 4 (aV (wMethR "Field" (vwT sp_Field_power) 4 (aV (wMethR "Field" sp_Field_first 4 (aNil)) (aV (wVar 8) (aNil)))) (aNil)))) (wNil))) (wBi nRepr (wCons (wVar 8) (wNil)))
theorem l_law_great_right_c2 (v_hand_here : List D) (v_some : D) (v_p : D) (v_m : D) (v_field : List (Str × FV)) (v_most : D) (v_powers : D) (ds : List D) (Q : List D → TSt → Prop) : (lenOk ds ∧ lcK (gN 8) wYes e_law_great_right_c2 [8] ds [] [.bor (.lst v_hand_here), .v v_some, .v v_p, .v v_m, .own (.ins "Field" v_field), .v v_most, .v v_powers, .un, .un] Q ⟨⟩) = oP (mapSX (m_law_great_right_c2 ) ds v_field) fun p => Q p.1 [.bor (.lst v_hand_here), .v v_some, .v v_p, .v v_m, .own (.ins "Field" p.2), .v v_most, .v v_powers, .un, .un] := lc_mapS (fun s : List (Str × FV) => [.bor (.lst v_hand_here), .v v_some, .v v_p, .v v_m, .own (.ins "Field" s), .v v_most, .v v_powers, .un, .un]) (m_law_great_right_c2 ) (fun s d Y => by walk_at "mx e_wMake goMake_ap madeR_X l_law_great_right_c1 e_wMethR onIns_ap insAt vw_ap nrK_nil nrK_v flatR_v cl_law_take cl_Field_init cl_law_size cl_Field_first cl_Field_power cl_Field_log m_law_great_right_c2 e_law_great_right_c2") ds v_field
def m_law_great_right (v_hand_here : List D) : Option (D × (List D)) :=
  (m_law_take v_hand_here (.int 10)).bind fun t1 =>
  (getX (.lst [(.tup [(.int 2), (.int 10)]), (.tup [(.int 11), (.int 3)]), (.tup [(.int 43), (.int 2)]), (.tup [(.int 2), (.int 11)]), (.tup [(.int 3), (.int 7)]), (.tup [(.int 13), (.int 3)]), (.tup [(.int 2179), (.int 1)]), (.tup [(.int 3), (.int 6)]), (.tup [(.int 5), (.int 4)]), (.tup [(.int 31), (.int 2)])]) t1.1).bind fun t2 =>
  (tup2X t2).bind fun t3 =>
  (m_Field_init [] t3.1 t3.2).bind fun t4 =>
  (nonX t4.1).bind fun t5 =>
  (m_law_size t3.1 t3.2).bind fun t6 =>
  (subX t6 (.int 1)).bind fun t7 =>
  (subX t7 (.int 1)).bind fun t8 =>
  (rg1X (.int 4)).bind fun t9 =>
  (mapSX (m_law_great_right_c1 t7) t9 t1.2).bind fun t11 =>
  (addX (.lst [(.int 0), t8]) (.lst t11.1)).bind fun t12 =>
  (itX t12).bind fun t13 =>
  (mapSX (m_law_great_right_c2 ) t13 t4.2).bind fun t22 =>
  (allX (.lst t22.1)).bind fun t23 =>
  some ((.bl t23), t11.2)
def w_law_great_right : WS :=
  wSeq (wSet 1 (wFr (wLst (wCons (wTup (wCons (wC (.int 2)) (wCons (wC (.int 10)) (wNil)))) (wCons (wTup (wCons (wC (.int 11)) (wCons (wC (.int 3)) (wNil)))) (wCons (wTup (wCons (wC (.int 43)) (wCons (wC (.int 2)) (wNil)))) (wCons (wTup (wCons (wC (.int 2)) (wCons (wC (.int 11)) (wNil)))) (wCons (wTup (wCons (wC (.int 3)) (wCons (wC (.int 7)) (wNil)))) (wCons (wTup (wCons (wC (.int 13)) (wCons (wC (.int 3)) (wNil)))) (wCons (wTup (wCons (wC (.int 2179)) (wCons (wC (.int 1)) (wNil)))) (wCons (wTup (wCons (wC (.int 3)) (wCons (wC (.int 6)) (wNil)))) (wCons (wTup (wCons (wC (.int 5)) (wCons (wC (.int 4)) (wNil)))) (wCons (wTup (wCons (wC (.int 31)) (wCons (wC (.int 2)) (wNil)))) (wNil))))))))))))))
  (wSeq (wAsg (wSubK dGet 1 (wCall sp_law_take (aR 0 (aV (wC (.int 10)) (aNil))))) (gT 2 (gsCons (gN 2) (gsCons (gN 3) (gsNil)))))
  (wSeq (wParR2 4 5 (wMake "Field" sp_Field_init (aV (wVar 2) (aV (wVar 3) (aNil)))) (wFr (wBin dSub (wCall sp_law_size (aV (wVar 2) (aV (wVar 3) (aNil)))) (wC (.int 1)))))
  (wSeq (wSet 6 (wFr (wBin dAdd (wLst (wCons (wC (.int 0)) (wCons (wBin dSub (wVar 5) (wC (.int 1))) (wNil)))) (wLc (wIG (wR1 (wCons (wC (.int 4)) (wNil)))) (gN 7) (wYes) e_law_great_right_c1 [7]))))
  (wRetG [true, false, false, false, false, false, false, false, false] (wFr (wBi nAll (wCons (wLc (wIG (wItS (wVar 6))) (gN 8) (wYes) e_law_great_right_c2 [8]) (wNil))))))))
def sp_law_great_right : TSpec := fun args PQ _ => ∃ (v_hand_here : List D), args = [.ref (.lst v_hand_here)] ∧ oP (m_law_great_right v_hand_here) fun r => PQ (.v r.1) [.lst r.2]
theorem cl_law_great_right (v_hand_here : List D) (PQ : R → List Cell → Prop) (PX : String → Pay → List Cell → Prop) : callK sp_law_great_right [.ref (.lst v_hand_here)] PQ PX ⟨⟩ = oP (m_law_great_right v_hand_here) fun r => PQ (.v r.1) [.lst r.2] := by
  unfold callK sp_law_great_right
  refine propext ⟨fun h => ?_, fun h => ?_⟩
  · obtain ⟨_, e, h⟩ := h; cases e; exact h
  · exact ⟨_, rfl, h⟩
theorem e_law_great_right (PQ : R → List Cell → Prop) (PX : String → Pay → List Cell → Prop) (v_hand_here : List D) : w_law_great_right (fnX [.ref (.lst v_hand_here)] PX) (start0 9 [.ref (.lst v_hand_here)]) (fnD [.ref (.lst v_hand_here)] PQ) = oP (m_law_great_right v_hand_here) fun r => PQ (.v r.1) [.lst r.2] := by walk_at "mx e_wMake goMake_ap madeR_X l_law_great_right_c1 e_wMethR onIns_ap insAt vw_ap nrK_nil nrK_v flatR_v l_law_great_right_c2 cl_law_take cl_Field_init cl_law_size cl_Field_first cl_Field_power cl_Field_log m_law_great_right w_law_great_right"
theorem ok_law_great_right : ∀ args PQ PX, sp_law_great_right args PQ PX → w_law_great_right (fnX args PX) (start0 9 args) (fnD args PQ) := by
  rintro args PQ PX ⟨_, rfl, h⟩
  rw [e_law_great_right]; exact h
theorem hl_law_great_right : ∀ args PQ PX, sp_law_great_right args PQ PX → args.length = 1 := by
  rintro args PQ PX ⟨_, rfl, h⟩; rfl
def m_law_c2 (v_walk_here : D) (s : List D) (d : D) : Option ((D) × (List D)) :=
  (lenX v_walk_here).bind fun t19 =>
  (m_law_take s t19).bind fun t20 =>
  some (t20.1, t20.2)
def e_law_c2 : WE := wCall sp_law_take (aR 2 (aV (wBiK nLen 8) (aNil)))
theorem l_law_c2 (v_script : D) (v_k : D) (v_hand_here : List D) (v_p : D) (v_m : D) (v_field : List (Str × FV)) (v_logs_first : D) (v_a : D) (v_walk_here : D) (ds : List D) (Q : List D → TSt → Prop) : (lenOk ds ∧ lcK (gN 11) wYes e_law_c2 [11] ds [] [.v v_script, .v v_k, .own (.lst v_hand_here), .v v_p, .v v_m, .own (.ins "Field" v_field), .v v_logs_first, .v v_a, .v v_walk_here, .un, .un, .un] Q ⟨⟩) = oP (mapSX (m_law_c2 v_walk_here) ds v_hand_here) fun p => Q p.1 [.v v_script, .v v_k, .own (.lst p.2), .v v_p, .v v_m, .own (.ins "Field" v_field), .v v_logs_first, .v v_a, .v v_walk_here, .un, .un, .un] := lc_mapS (fun s : List D => [.v v_script, .v v_k, .own (.lst s), .v v_p, .v v_m, .own (.ins "Field" v_field), .v v_logs_first, .v v_a, .v v_walk_here, .un, .un, .un]) (m_law_c2 v_walk_here) (fun s d Y => by walk_at "mx e_wCallO e_ownC e_wMake goMake_ap madeR_X e_wMethR onIns_ap insAt vw_ap nrK_nil nrK_v flatR_v cl_law_hand cl_law_great_right cl_law_pair cl_Field_init cl_law_take cl_Field_form cl_law_first m_law_c2 e_law_c2") ds v_hand_here
def m_law_f3 (v_script : D) (v_walk_here : D) (s : List (Str × FV)) (d : D) : Option (SO (List (Str × FV)) (D)) :=
  (getX v_walk_here d).bind fun t51 =>
  (m_Field_log s t51).bind fun t52 =>
  (t52.un).bind fun t53 =>
  (reprX t53.1).bind fun t54 =>
  (reprX d).bind fun t55 =>
  (neX t54 t55).bind fun t56 =>
  if t56 = true then
    some (.rt (.bl false))
  else
    some (.nx t53.2)
def b_law_f3 : WS := wSeq (wIf (wTB (wBin dNe (wBi nRepr (wCons (wNoX (wMethR "Field" sp_Field_log 5 (aV (wSubK dGet 8 (wVar 10)) (aNil)))) (wNil))) (wBi nRepr (wCons (wVar 10) (wNil)))))
  (wRetG [false, false, false, false, false, false, false, false, false, false, false, false] (wFr (wC (.bl false))))
  (wNext))
  (wGhN [.kp, .kp, .kp, .kp, .kp, .kp, .kp, .kp, .kp, .kp, .kl, .kp])
theorem l_law_f3 (W : TX) (nx : TSt → Prop) (rt : R → TSt → Prop) (bk ct : TSt → Prop) (v_script : D) (v_walk_here : D) (v_field : List (Str × FV)) (ds : List D) : forK (gN 10) b_law_f3 W ds [.v v_script, .un, .un, .un, .un, .own (.ins "Field" v_field), .un, .un, .v v_walk_here, .un, .un, .un] ⟨nx, rt, bk, ct⟩ ⟨⟩ = oP (forX (m_law_f3 v_script v_walk_here) ds v_field) fun o => o.cs (fun s => nx [.v v_script, .un, .un, .un, .un, .own (.ins "Field" s), .un, .un, .v v_walk_here, .un, .un, .un]) (fun r => rt (.v r) [.un, .un, .un, .un, .un, .un, .un, .un, .un, .un, .un, .un]) := forK_for (fun s : List (Str × FV) => [.v v_script, .un, .un, .un, .un, .own (.ins "Field" s), .un, .un, .v v_walk_here, .un, .un, .un]) (fun r => rt (.v r) [.un, .un, .un, .un, .un, .un, .un, .un, .un, .un, .un, .un]) (m_law_f3 v_script v_walk_here) (fun s d nxt => by walk_at "mx e_wCallO e_ownC e_wMake goMake_ap madeR_X e_wMethR onIns_ap insAt vw_ap nrK_nil nrK_v flatR_v l_law_c2 cl_law_hand cl_law_great_right cl_law_pair cl_Field_init cl_law_take cl_Field_form cl_law_first cl_Field_log cl_Field_first cl_law_refused m_law_f3 b_law_f3") ds v_field
def m_law_f1 (v_script : D) (s : Unit) (d : D) : Option (SO (Unit) (D)) :=
  (m_law_hand v_script d).bind fun t8 =>
  (m_law_pair t8).bind fun t9 =>
  (tup2X t9.1).bind fun t10 =>
  (m_Field_init [] t10.1 t10.2).bind fun t11 =>
  (nonX t11.1).bind fun t12 =>
  (m_law_take t9.2 (.int 2)).bind fun t13 =>
  (m_Field_form (frzI "Field" t11.2)).bind fun t14 =>
  (flatX t14).bind fun t15 =>
  (m_law_first t10.1 t14).bind fun t16 =>
  (tup2X t16).bind fun t17 =>
  (rg1X (.int 6)).bind fun t18 =>
  (mapSX (m_law_c2 t17.2) t18 t13.2).bind fun t21 =>
  (lenX t17.2).bind fun t22 =>
  (min2X (.int 64) t22).bind fun t23 =>
  (lrg1X t23).bind fun t24 =>
  (addX (.lst t21.1) (.lst t24)).bind fun t25 =>
  (eqX t13.1 (.int 0)).bind fun t26 =>
  (if t26 = true then (getX t25 (.int 0)).bind fun t27 =>
    (getX t17.2 t27).bind fun t28 =>
    (m_Field_log t11.2 t28).bind fun t29 =>
    (t29.un).bind fun t30 =>
    (reprX t30.1).bind fun t31 =>
    (getX t25 (.int 0)).bind fun t32 =>
    (reprX t32).bind fun t33 =>
    (neX t31 t33).bind fun t34 =>
    some (t34, t30.2) else some (false, t11.2)).bind fun t35 =>
  if t35.1 = true then
    some (.rt (.bl false))
  else
    (m_Field_first t35.2).bind fun t36 =>
    (reprX t36.1).bind fun t37 =>
    (reprX t17.1).bind fun t38 =>
    (neX t37 t38).bind fun t39 =>
    (if t39 = true then some (true, t36.2) else (m_law_refused t36.2 t10.2).bind fun t40 =>
      (truX t40.1).bind fun t41 =>
      (if (!t41) = true then some (true, t40.2) else (m_Field_first t40.2).bind fun t42 =>
        (reprX t42.1).bind fun t43 =>
        (reprX t17.1).bind fun t44 =>
        (neX t43 t44).bind fun t45 =>
        some (t45, t42.2)).bind fun t46 =>
      some (t46.1, t46.2)).bind fun t47 =>
    if t47.1 = true then
      some (.rt (.bl false))
    else
      (slX t25 none (some 2)).bind fun t48 =>
      (addX t25 t48).bind fun t49 =>
      (itX t49).bind fun t50 =>
      (forX (m_law_f3 v_script t17.2) t50 t47.2).bind fun t57 =>
      t57.cs (fun s58 =>
        some (.nx ()))
        (fun r => some (.rt r))
def b_law_f1 : WS := wSeq (wSeq (wSet 2 (wCall sp_law_hand (aV (wVar 0) (aV (wVar 1) (aNil)))))
  (wSeq (wAsg (wCall sp_law_pair (aR 2 (aNil))) (gT 2 (gsCons (gN 3) (gsCons (gN 4) (gsNil)))))
  (wSeq (wParR2 5 6 (wMake "Field" sp_Field_init (aV (wVar 3) (aV (wVar 4) (aNil)))) (wFr (wCall sp_law_take (aR 2 (aV (wC (.int 2)) (aNil))))))
  (wSeq (wAsg (wCall sp_law_first (aV (wVar 3) (aV (wMethR "Field" (vwT sp_Field_form) 5 (aNil)) (aNil)))) (gT 2 (gsCons (gN 7) (gsCons (gN 8) (gsNil)))))
  (wSeq (wSet 9 (wFr (wBin dAdd (wLc (wIG (wR1 (wCons (wC (.int 6)) (wNil)))) (gN 11) (wYes) e_law_c2 [11]) (wLrg1 (wBi nMin2 (wCons (wC (.int 64)) (wCons (wBiK nLen 8) (wNil))))))))
  (wSeq (wIf (wAnd (wTB (wBin dEq (wVar 6) (wC (.int 0)))) (wTB (wBin dNe (wBi nRepr (wCons (wNoX (wMethR "Field" sp_Field_log 5 (aV (wSubK dGet 8 (wSubK dGet 9 (wC (.int 0)))) (aNil)))) (wNil))) (wBi nRepr (wCons (wSubK dGet 9 (wC (.int 0))) (wNil))))))
  (wRetG [false, false, false, false, false, false, false, false, false, false, false, false] (wFr (wC (.bl false))))
  (wNext))
  (wSeq (wIf (wOr (wTB (wBin dNe (wBi nRepr (wCons (wMethR "Field" sp_Field_first 5 (aNil)) (wNil))) (wBi nRepr (wCons (wVar 7) (wNil))))) (wOr (wNot (wTru (wCall sp_law_refused (aR 5 (aV (wVar 4) (aNil)))))) (wTB (wBin dNe (wBi nRepr (wCons (wMethR "Field" sp_Field_first 5 (aNil)) (wNil))) (wBi nRepr (wCons (wVar 7) (wNil)))))))
  (wRetG [false, false, false, false, false, false, false, false, false, false, false, false] (wFr (wC (.bl false))))
  (wNext))
  (wFor (wIgh [.kp, .kl, .kl, .kl, .kl, .kp, .kl, .kl, .kp, .kl, .kp, .kp] (wItS (wBin dAdd (wVar 9) (wSl (wVar 9) (oNone) (oSome (wC (.int 2))))))) (gN 10) b_law_f3))))))))
  (wGhN [.kp, .kp, .kp, .kp, .kp, .kl, .kp, .kp, .kl, .kp, .kp, .kp])
theorem l_law_f1 (W : TX) (nx : TSt → Prop) (rt : R → TSt → Prop) (bk ct : TSt → Prop) (v_script : D)  (ds : List D) : forK (gN 1) b_law_f1 W ds [.v v_script, .un, .un, .un, .un, .un, .un, .un, .un, .un, .un, .un] ⟨nx, rt, bk, ct⟩ ⟨⟩ = oP (forX (m_law_f1 v_script) ds ()) fun o => o.cs (fun s => nx [.v v_script, .un, .un, .un, .un, .un, .un, .un, .un, .un, .un, .un]) (fun r => rt (.v r) [.un, .un, .un, .un, .un, .un, .un, .un, .un, .un, .un, .un]) := forK_for (fun s : Unit => [.v v_script, .un, .un, .un, .un, .un, .un, .un, .un, .un, .un, .un]) (fun r => rt (.v r) [.un, .un, .un, .un, .un, .un, .un, .un, .un, .un, .un, .un]) (m_law_f1 v_script) (fun s d nxt => by walk_at "mx e_wCallO e_ownC e_wMake goMake_ap madeR_X e_wMethR onIns_ap insAt vw_ap nrK_nil nrK_v flatR_v l_law_c2 l_law_f3 cl_law_hand cl_law_great_right cl_law_pair cl_Field_init cl_law_take cl_Field_form cl_law_first cl_Field_log cl_Field_first cl_law_refused m_law_f1 b_law_f1") ds ()
def m_law (v_script : D) : Option (D) :=
  (m_law_hand v_script (.int 0)).bind fun t1 =>
  (m_law_great_right t1).bind fun t2 =>
  (truX t2.1).bind fun t3 =>
  if (!t3) = true then
    some (.bl false)
  else
    (lenX v_script).bind fun t4 =>
    (min2X (.int 3) t4).bind fun t5 =>
    (max2X (.int 1) t5).bind fun t6 =>
    (rg1X t6).bind fun t7 =>
    (forX (m_law_f1 v_script) t7 ()).bind fun t59 =>
    t59.cs (fun s60 =>
      some (.bl true))
      (fun r => some r)
def w_law : WS :=
  wSeq (wIf (wNot (wTru (wCallO sp_law_great_right (wCall sp_law_hand (aV (wVar 0) (aV (wC (.int 0)) (aNil)))))))
  (wRetG [false, false, false, false, false, false, false, false, false, false, false, false] (wFr (wC (.bl false))))
  (wNext))
  (wSeq (wFor (wR1 (wCons (wBi nMax2 (wCons (wC (.int 1)) (wCons (wBi nMin2 (wCons (wC (.int 3)) (wCons (wBiK nLen 0) (wNil)))) (wNil)))) (wNil))) (gN 1) b_law_f1)
  (wRetG [false, false, false, false, false, false, false, false, false, false, false, false] (wFr (wC (.bl true)))))
theorem e_law (PQ : R → List Cell → Prop) (PX : String → Pay → List Cell → Prop) (v_script : D) : w_law (fnX [.v v_script] PX) (start0 12 [.v v_script]) (fnD [.v v_script] PQ) = oP (m_law v_script) fun r => PQ (.v r) [] := by walk_at "mx e_wCallO e_ownC e_wMake goMake_ap madeR_X e_wMethR onIns_ap insAt vw_ap nrK_nil nrK_v flatR_v l_law_c2 l_law_f3 l_law_f1 cl_law_hand cl_law_great_right cl_law_pair cl_Field_init cl_law_take cl_Field_form cl_law_first cl_Field_log cl_Field_first cl_law_refused m_law w_law"
end
end
section
noncomputable section
end
end
end TL
namespace TL
open PySem PySem.Spec PyProof.Rows L2
local macro_rules | `(tactic| walk_at $s:str) => do
  let names := (s.getString.splitOn " ").filter (· ≠ "")
  match names with
  | "xs" :: ls => do
    let base := "Option.bind_some Option.bind_none addX_i subX_i mulX_i divX_i modX_i powX_i iaddX_i eqX_i neX_i eqX_b neX_b ltX_i ltAX_i leX_i gtX_i geX_i truX_bl truX_i truX_non truX_tup truX_lst itX_tup itX_lst itX_scr lenX_tup lenX_lst lenX_scr lenX_dct tupleX_lst tupleX_tup listX_lst listX_tup seqX_lst seqX_tup intX_bl intX_int absX_i max2X_i min2X_i slX_tup slX_lst slX_scr addX_tup addX_lst addLX_lst appX_ok extX_ok rg1X_i rg2X_i allX_ok anyX_ok sumX_ok tup2X_ok tup3X_ok asI_int asB_bl asL_lst SO.cs_nx SO.cs_rt WH.cs_go WH.cs_dn WH.cs_rt if_true if_false reduceIte decide_eq_true_eq not_true_eq_false not_false_eq_true decide_true decide_false Bool.not_true Bool.not_false Bool.not_not Bool.not_eq_true' decide_eq_false_iff_not Bool.false_eq_true Bool.true_eq_false D.isNon List.length_map List.isEmpty_nil List.isEmpty_cons isi_int_int isi_int_bool isi_int_tuple isi_int_list isi_int_str isi_int_dict isi_bl_int isi_bl_bool isi_bl_tuple isi_bl_list isi_bl_str isi_bl_dict isi_non_int isi_non_bool isi_non_tuple isi_non_list isi_non_str isi_non_dict isi_str_int isi_str_bool isi_str_tuple isi_str_list isi_str_str isi_str_dict isi_tup_int isi_tup_bool isi_tup_tuple isi_tup_list isi_tup_str isi_tup_dict isi_lst_int isi_lst_bool isi_lst_tuple isi_lst_list isi_lst_str isi_lst_dict isi_dct_int isi_dct_bool isi_dct_tuple isi_dct_list isi_dct_str isi_dct_dict".splitOn " "
    let all ← (base ++ ls).toArray.mapM fun (l : String) => do
      let i := Lean.mkIdent l.toName
      `(Lean.Parser.Tactic.simpLemma| $i:term)
    `(tactic| simp (disch := first | assumption | omega | decide | (simp only [List.length_cons, List.length_nil, List.length_append, List.length_map, List.length_range, rangeD_len, size_def]; omega) | (simp only [List.length_cons, List.length_nil, List.length_append, List.length_map, List.length_range, rangeD_len, size_def]; decide)) only [$all,*])
  | "ow" :: ls => do
    let base := "Option.bind_some Option.bind_none addX_i subX_i mulX_i divX_i modX_i powX_i iaddX_i eqX_i neX_i eqX_b neX_b ltX_i ltAX_i leX_i gtX_i geX_i truX_bl truX_i truX_non truX_tup truX_lst itX_tup itX_lst itX_scr lenX_tup lenX_lst lenX_scr lenX_dct tupleX_lst tupleX_tup listX_lst listX_tup seqX_lst seqX_tup intX_bl intX_int absX_i max2X_i min2X_i slX_tup slX_lst slX_scr addX_tup addX_lst addLX_lst appX_ok extX_ok rg1X_i rg2X_i allX_ok anyX_ok sumX_ok tup2X_ok tup3X_ok asI_int asB_bl asL_lst if_true if_false reduceIte decide_eq_true_eq not_true_eq_false not_false_eq_true decide_true decide_false Bool.not_true Bool.not_false Bool.not_not Bool.not_eq_true' decide_eq_false_iff_not Bool.false_eq_true Bool.true_eq_false D.isNon List.length_map List.isEmpty_nil List.isEmpty_cons isi_int_int isi_int_bool isi_int_tuple isi_int_list isi_int_str isi_int_dict isi_bl_int isi_bl_bool isi_bl_tuple isi_bl_list isi_bl_str isi_bl_dict isi_non_int isi_non_bool isi_non_tuple isi_non_list isi_non_str isi_non_dict isi_str_int isi_str_bool isi_str_tuple isi_str_list isi_str_str isi_str_dict isi_tup_int isi_tup_bool isi_tup_tuple isi_tup_list isi_tup_str isi_tup_dict isi_lst_int isi_lst_bool isi_lst_tuple isi_lst_list isi_lst_str isi_lst_dict isi_dct_int isi_dct_bool isi_dct_tuple isi_dct_list isi_dct_str isi_dct_dict ~oP_bindT ~withO_bind ~oP_condK ~oP_nx ~oP_rt ~SO.cs_nx ~SO.cs_rt ~WH.cs_go ~WH.cs_dn ~WH.cs_rt oP_some withO_some withO_condK condK_t condK_f iteB_some iteD_some ite_int ite_and ite_or get3_0 get3_1 get3_2 set3_0 set3_1 set3_2 gett2_0 gett2_1 isX_b isNotX_b mulLX_i Bool.and_eq_true Bool.or_eq_true true_implies and_true true_and implies_true Int.not_lt Int.not_le Bool.not_eq_true forall_const false_or true_or or_true or_false and_false false_and eq_self natz Bool.true_and Bool.and_true Bool.false_or Bool.or_false Bool.true_or Bool.or_true Bool.false_and Bool.and_false".splitOn " "
    let all ← (base ++ ls).toArray.mapM fun (l : String) => do
      if l.startsWith "~" then
        let i := Lean.mkIdent (l.drop 1).toString.toName
        `(Lean.Parser.Tactic.simpLemma| ↓ $i:term)
      else
        let i := Lean.mkIdent l.toName
        `(Lean.Parser.Tactic.simpLemma| $i:term)
    `(tactic| (try simp (disch := first | assumption | omega | decide | (simp only [List.length_cons, List.length_nil, List.length_append, List.length_map, List.length_range, rangeD_len, size_def]; omega) | (simp only [List.length_cons, List.length_nil, List.length_append, List.length_map, List.length_range, rangeD_len, size_def]; decide)) only [$all,*]; try refine withO_i ?_))
  | _ => Lean.Macro.throwUnsupported
section
section
variable {α : Type}
/-- a tuple of numbers, one of each thing in q -/
def tupM (q : List α) (f : α → Int) : D := .tup (q.map fun t => .int (f t))
theorem tupM_nice (q : List α) (f : α → Int) : D.nice 1 (tupM q f) = true := nice_tup.mpr ⟨0, rfl, fun x hx => by
  obtain ⟨t, _, rfl⟩ := List.mem_map.mp hx
  rfl⟩
theorem tupM_ib {q : List α} {f : α → Int} (h : ∀ t ∈ q, (f t).natAbs < 10 ^ 40) : (tupM q f).ib = true := ibL_of fun x hx => by
  obtain ⟨t, ht, rfl⟩ := List.mem_map.mp hx
  exact decide_eq_true (h t ht)
theorem tupM_rc (q : List α) (f : α → Int) : (tupM q f).rc ≤ q.length * 47 + 3 := by
  have := rcL_le (l := q.map fun t => D.int (f t)) (c := 45) fun x hx => by
    obtain ⟨t, ht, rfl⟩ := List.mem_map.mp hx
    exact Nat.le_refl _
  rw [List.length_map] at this
  show D.rcL _ + 3 ≤ _
  omega
theorem tupM_repr {q : List α} {f : α → Int} (hl : q.length ≤ 10000) (h : ∀ t ∈ q, (f t).natAbs < 10 ^ 40) : reprX (tupM q f) = some (.str (tupM q f).py.shown) :=
  reprX_ok (tupM_nice q f) (by decide) (tupM_ib h) (by have := tupM_rc q f; omega)
end
end
section
def prodI : List Int → Int
  | [] => 1
  | n :: ns => n * prodI ns
theorem get_last (l : List D) (x : D) : getX (.lst (l ++ [x])) (.int (-1)) = some x := by
  show L2.atI (l ++ [x]) (-1) = some x
  have e : L2.ixN (l ++ [x]).length (-1) = some l.length := by
    unfold L2.ixN
    simp
    omega
  unfold L2.atI
  rw [e]
  simp
structure Rings (most : Int) (ns : List Int) : Prop where
  len : ns.length ≤ 4
  ne : 1 ≤ ns.length
  two : ∀ n ∈ ns, 2 ≤ n
  prod : prodI ns ≤ most
def tupI (ns : List Int) : D := .tup (ns.map D.int)
/-- a spot of these rings -/
def Spot (rs sp : List Int) : Prop := sp.length = rs.length ∧ ∀ p ∈ sp.zip rs, 0 ≤ p.1 ∧ p.1 < p.2
end
end TL
namespace TL
open PySem PySem.Spec PyProof.Rows L2
def PrN (n : Nat) : Prop := 2 ≤ n ∧ ∀ d, 2 ≤ d → d ∣ n → d = n
/-- no part below p, and p * p > n -/
theorem prime_of_least {n p : Nat} (h1 : 1 < n) (hp : n < p * p) (h : ∀ d, 2 ≤ d → d < p → ¬ d ∣ n) : PrN n := by
  refine ⟨h1, fun d hd hn => ?_⟩
  obtain ⟨e, he⟩ := hn
  have hde : ¬ d < p := fun z => h d hd z ⟨e, he⟩
  have e0 : e ≠ 0 := by rintro rfl; omega
  by_cases z : e = 1
  · subst z; omega
  · have : ¬ e < p := fun z' => h e (by omega) z' ⟨d, by rw [he, Nat.mul_comm]⟩
    have := Nat.mul_le_mul (show p ≤ d by omega) (show p ≤ e by omega)
    omega
theorem prime_least {m p : Nat} (hp : 2 ≤ p) (hd : p ∣ m) (h : ∀ d, 2 ≤ d → d < p → ¬ d ∣ m) : PrN p := by
  refine ⟨hp, fun d h2 hdp => ?_⟩
  have := Nat.le_of_dvd (by omega) hdp
  by_cases z : d < p
  · exact absurd (Nat.dvd_trans hdp hd) (h d h2 z)
  · omega
def prodP : List (Nat × Nat) → Nat
  | [] => 1
  | q :: l => q.1 ^ q.2 * prodP l
theorem prodP_app : ∀ (a b : List (Nat × Nat)), prodP (a ++ b) = prodP a * prodP b
  | [], b => by rw [List.nil_append, prodP, Nat.one_mul]
  | q :: a, b => by rw [List.cons_append, prodP, prodP, prodP_app a b, Nat.mul_assoc]
structure Pri (l : List (Nat × Nat)) : Prop where
  pr : ∀ q ∈ l, PrN q.1 ∧ 1 ≤ q.2
  up : l.Pairwise fun a b => a.1 < b.1
theorem two_le_pow {q e : Nat} (h : 2 ≤ q) (he : 1 ≤ e) : 2 ≤ q ^ e := by
  obtain ⟨f, rfl⟩ : ∃ f, e = f + 1 := ⟨e - 1, by omega⟩
  rw [Nat.pow_succ]
  have := Nat.pow_pos (n := f) (show 0 < q by omega)
  have := Nat.mul_le_mul this h
  omega
theorem prodP_two : ∀ {l : List (Nat × Nat)}, (∀ q ∈ l, PrN q.1 ∧ 1 ≤ q.2) → 2 ^ l.length ≤ prodP l
  | [], _ => Nat.le_refl _
  | q :: l, h => by
    have hq := h q List.mem_cons_self
    have h2 := two_le_pow hq.1.1 hq.2
    have ih := prodP_two fun x hx => h x (List.mem_cons_of_mem _ hx)
    rw [List.length_cons, Nat.pow_succ, Nat.mul_comm, prodP]
    exact Nat.mul_le_mul h2 ih
theorem prodP_pos {l : List (Nat × Nat)} (h : ∀ q ∈ l, PrN q.1 ∧ 1 ≤ q.2) : 1 ≤ prodP l := by
  have := prodP_two h
  have := Nat.pow_pos (n := l.length) (show 0 < 2 by decide)
  omega
theorem pow_dvd : ∀ {l : List (Nat × Nat)} {q : Nat × Nat}, q ∈ l → q.1 ^ q.2 ∣ prodP l
  | x :: l, q, h => by
    rw [prodP]
    rcases List.mem_cons.mp h with rfl | h
    · exact Nat.dvd_mul_right _ _
    · exact Nat.dvd_trans (pow_dvd h) (Nat.dvd_mul_left _ _)
/-- of one prime alone -/
theorem prodP_prime {l : List (Nat × Nat)} {n : Nat} (h : Pri l) (e : prodP l = n) : PrN n ↔ l = [(n, 1)] := by
  constructor
  · intro hn
    cases l with
    | nil => rw [prodP] at e; have := hn.1; omega
    | cons q l =>
      have hq := h.pr q List.mem_cons_self
      have hd : q.1 ∣ n := by
        rw [← e, prodP]
        refine Nat.dvd_trans ?_ (Nat.dvd_mul_right _ _)
        obtain ⟨f, hf⟩ : ∃ f, q.2 = f + 1 := ⟨q.2 - 1, by omega⟩
        rw [hf, Nat.pow_succ]
        exact Nat.dvd_mul_left _ _
      have h1 := hn.2 q.1 hq.1.1 hd
      have hl : ∀ x ∈ l, PrN x.1 ∧ 1 ≤ x.2 := fun x hx => h.pr x (List.mem_cons_of_mem _ hx)
      have p1 := prodP_pos hl
      rw [prodP, h1] at e
      have n2 := hn.1
      have q1 : q.2 = 1 := by
        refine Classical.byContradiction fun z => ?_
        have a : n ^ 2 ≤ n ^ q.2 := Nat.pow_le_pow_right (by omega) (by omega)
        have b := Nat.mul_le_mul_left (n ^ q.2) p1
        have c := Nat.mul_le_mul_right n n2
        rw [Nat.pow_two] at a
        rw [e] at b
        omega
      have l0 : l = [] := by
        cases l with
        | nil => rfl
        | cons x l' =>
          have a := prodP_two hl
          rw [List.length_cons, Nat.pow_succ] at a
          have b := Nat.pow_pos (n := l'.length) (show 0 < 2 by decide)
          rw [q1, Nat.pow_one] at e
          have c := Nat.mul_le_mul_left n (show 2 ≤ prodP (x :: l') by omega)
          omega
      obtain ⟨qa, qe⟩ := q
      simp only at h1 q1
      rw [l0, h1, q1]
  · intro hl
    have := h.pr (n, 1) (by rw [hl]; exact List.mem_cons_self)
    exact this.1
theorem prime_by {n b : Nat} (h2 : 2 ≤ n) (hb : n < b * b) (h : ((List.range b).all fun d => decide (d < 2) || decide (n % d ≠ 0)) = true) : PrN n := by
  refine prime_of_least h2 hb fun d hd hdb hdn => ?_
  have := List.all_eq_true.mp h d (List.mem_range.mpr hdb)
  rw [Bool.or_eq_true, decide_eq_true_eq, decide_eq_true_eq] at this
  rcases this with z | z
  · omega
  · exact z (Nat.mod_eq_zero_of_dvd hdn)
end TL
namespace TL
open PySem PySem.Spec PyProof.Rows L2
local macro_rules | `(tactic| walk_at $s:str) => do
  let names := (s.getString.splitOn " ").filter (· ≠ "")
  match names with
  | "xs" :: ls => do
    let base := "Option.bind_some Option.bind_none addX_i subX_i mulX_i divX_i modX_i powX_i iaddX_i eqX_i neX_i eqX_b neX_b ltX_i ltAX_i leX_i gtX_i geX_i truX_bl truX_i truX_non truX_tup truX_lst itX_tup itX_lst itX_scr lenX_tup lenX_lst lenX_scr lenX_dct tupleX_lst tupleX_tup listX_lst listX_tup seqX_lst seqX_tup intX_bl intX_int absX_i max2X_i min2X_i slX_tup slX_lst slX_scr addX_tup addX_lst addLX_lst appX_ok extX_ok rg1X_i rg2X_i allX_ok anyX_ok sumX_ok tup2X_ok tup3X_ok asI_int asB_bl asL_lst SO.cs_nx SO.cs_rt WH.cs_go WH.cs_dn WH.cs_rt if_true if_false reduceIte decide_eq_true_eq not_true_eq_false not_false_eq_true decide_true decide_false Bool.not_true Bool.not_false Bool.not_not Bool.not_eq_true' decide_eq_false_iff_not Bool.false_eq_true Bool.true_eq_false D.isNon List.length_map List.isEmpty_nil List.isEmpty_cons isi_int_int isi_int_bool isi_int_tuple isi_int_list isi_int_str isi_int_dict isi_bl_int isi_bl_bool isi_bl_tuple isi_bl_list isi_bl_str isi_bl_dict isi_non_int isi_non_bool isi_non_tuple isi_non_list isi_non_str isi_non_dict isi_str_int isi_str_bool isi_str_tuple isi_str_list isi_str_str isi_str_dict isi_tup_int isi_tup_bool isi_tup_tuple isi_tup_list isi_tup_str isi_tup_dict isi_lst_int isi_lst_bool isi_lst_tuple isi_lst_list isi_lst_str isi_lst_dict isi_dct_int isi_dct_bool isi_dct_tuple isi_dct_list isi_dct_str isi_dct_dict".splitOn " "
    let all ← (base ++ ls).toArray.mapM fun (l : String) => do
      let i := Lean.mkIdent l.toName
      `(Lean.Parser.Tactic.simpLemma| $i:term)
    `(tactic| simp (disch := first | assumption | omega | decide | (simp only [List.length_cons, List.length_nil, List.length_append, List.length_map, List.length_range, rangeD_len, size_def]; omega) | (simp only [List.length_cons, List.length_nil, List.length_append, List.length_map, List.length_range, rangeD_len, size_def]; decide)) only [$all,*])
  | "ow" :: ls => do
    let base := "Option.bind_some Option.bind_none addX_i subX_i mulX_i divX_i modX_i powX_i iaddX_i eqX_i neX_i eqX_b neX_b ltX_i ltAX_i leX_i gtX_i geX_i truX_bl truX_i truX_non truX_tup truX_lst itX_tup itX_lst itX_scr lenX_tup lenX_lst lenX_scr lenX_dct tupleX_lst tupleX_tup listX_lst listX_tup seqX_lst seqX_tup intX_bl intX_int absX_i max2X_i min2X_i slX_tup slX_lst slX_scr addX_tup addX_lst addLX_lst appX_ok extX_ok rg1X_i rg2X_i allX_ok anyX_ok sumX_ok tup2X_ok tup3X_ok asI_int asB_bl asL_lst if_true if_false reduceIte decide_eq_true_eq not_true_eq_false not_false_eq_true decide_true decide_false Bool.not_true Bool.not_false Bool.not_not Bool.not_eq_true' decide_eq_false_iff_not Bool.false_eq_true Bool.true_eq_false D.isNon List.length_map List.isEmpty_nil List.isEmpty_cons isi_int_int isi_int_bool isi_int_tuple isi_int_list isi_int_str isi_int_dict isi_bl_int isi_bl_bool isi_bl_tuple isi_bl_list isi_bl_str isi_bl_dict isi_non_int isi_non_bool isi_non_tuple isi_non_list isi_non_str isi_non_dict isi_str_int isi_str_bool isi_str_tuple isi_str_list isi_str_str isi_str_dict isi_tup_int isi_tup_bool isi_tup_tuple isi_tup_list isi_tup_str isi_tup_dict isi_lst_int isi_lst_bool isi_lst_tuple isi_lst_list isi_lst_str isi_lst_dict isi_dct_int isi_dct_bool isi_dct_tuple isi_dct_list isi_dct_str isi_dct_dict ~oP_bindT ~withO_bind ~oP_condK ~oP_nx ~oP_rt ~SO.cs_nx ~SO.cs_rt ~WH.cs_go ~WH.cs_dn ~WH.cs_rt oP_some withO_some withO_condK condK_t condK_f iteB_some iteD_some ite_int ite_and ite_or get3_0 get3_1 get3_2 set3_0 set3_1 set3_2 gett2_0 gett2_1 isX_b isNotX_b mulLX_i Bool.and_eq_true Bool.or_eq_true true_implies and_true true_and implies_true Int.not_lt Int.not_le Bool.not_eq_true forall_const false_or true_or or_true or_false and_false false_and eq_self natz Bool.true_and Bool.and_true Bool.false_or Bool.or_false Bool.true_or Bool.or_true Bool.false_and Bool.and_false".splitOn " "
    let all ← (base ++ ls).toArray.mapM fun (l : String) => do
      if l.startsWith "~" then
        let i := Lean.mkIdent (l.drop 1).toString.toName
        `(Lean.Parser.Tactic.simpLemma| ↓ $i:term)
      else
        let i := Lean.mkIdent l.toName
        `(Lean.Parser.Tactic.simpLemma| $i:term)
    `(tactic| (try simp (disch := first | assumption | omega | decide | (simp only [List.length_cons, List.length_nil, List.length_append, List.length_map, List.length_range, rangeD_len, size_def]; omega) | (simp only [List.length_cons, List.length_nil, List.length_append, List.length_map, List.length_range, rangeD_len, size_def]; decide)) only [$all,*]; try refine withO_i ?_))
  | _ => Lean.Macro.throwUnsupported
section
theorem mod_dvd (n p : Nat) : decide ((n : Int) % (p : Int) = 0) = decide (p ∣ n) := by
  apply decide_eq_decide.mpr
  rw [← Int.natCast_emod, Nat.dvd_iff_mod_eq_zero]
  omega
def pD (q : Nat × Nat) : D := tupI [(q.1 : Int), (q.2 : Int)]
theorem inner {p : Nat} (hp : 2 ≤ p) (hpb : p ≤ 2 ^ 40) (f : List D) : ∀ (m k : Nat), 1 ≤ m → ∃ m' j : Nat, whX (m_primes_in_w2 f (.int (p : Int))) (.int (m : Int), .int (k : Int)) = some (.nx (.int (m' : Int), .int ((k + j : Nat) : Int))) ∧ m = m' * p ^ j ∧ 1 ≤ m' ∧ ¬ p ∣ m' ∧ (j = 0 ↔ ¬ p ∣ m) := by
  intro m
  induction m using Nat.strongRecOn with
  | ind m ih =>
    intro k hm
    rw [whX_eq]
    by_cases hd : p ∣ m
    · obtain ⟨c, hc⟩ := hd
      have c1 : 1 ≤ c := by
        rcases Nat.eq_zero_or_pos c with rfl | h
        · omega
        · exact h
      have cm : c < m := by
        have := Nat.mul_le_mul_right c hp
        omega
      have hq : m / p = c := by rw [hc]; exact Nat.mul_div_cancel_left c (by omega)
      have e : m_primes_in_w2 f (.int (p : Int)) (.int (m : Int), .int (k : Int)) = some (.go (.int (c : Int), .int ((k + 1 : Nat) : Int))) := by
        unfold m_primes_in_w2
        dsimp only
        rw [modX_i (by omega), Option.bind_some, eqX_i, Option.bind_some, mod_dvd, decide_eq_true ⟨c, hc⟩, if_pos rfl, iaddX_i, Option.bind_some, divX_i (by omega) (by omega), Option.bind_some, ← Int.natCast_ediv, hq]
        rfl
      obtain ⟨m', j, h1, h2, h3, h4, h5⟩ := ih c cm (k + 1) c1
      refine ⟨m', j + 1, ?_, ?_, h3, h4, ⟨fun z => by omega, fun z => absurd ⟨c, hc⟩ z⟩⟩
      · rw [e, Option.bind_some, WH.cs_go, h1]
        rw [show k + 1 + j = k + (j + 1) by omega]
      · rw [hc, h2, Nat.pow_succ, Nat.mul_comm p, Nat.mul_assoc]
    · have e : m_primes_in_w2 f (.int (p : Int)) (.int (m : Int), .int (k : Int)) = some (.dn (.int (m : Int), .int (k : Int))) := by
        unfold m_primes_in_w2
        dsimp only
        rw [modX_i (by omega), Option.bind_some, eqX_i, Option.bind_some, mod_dvd, decide_eq_false hd, if_neg (by decide)]
      refine ⟨m, 0, ?_, by rw [Nat.pow_zero, Nat.mul_one], hm, hd, ⟨fun _ => hd, fun _ => rfl⟩⟩
      rw [e, Option.bind_some, WH.cs_dn]
      rfl
structure Mid (N m p : Nat) (l : List (Nat × Nat)) : Prop where
  m1 : 1 ≤ m
  p2 : 2 ≤ p
  prod : prodP l * m = N
  low : ∀ d, 2 ≤ d → d < p → ¬ d ∣ m
  pri : Pri l
  below : ∀ q ∈ l, q.1 < p
  len : l.length ≤ p
theorem outer {N : Nat} (hN : N ≤ 2 ^ 21) : ∀ (k p m : Nat) (l : List (Nat × Nat)), N + 2 - p = k → p ≤ N + 2 → Mid N m p l →
    ∃ (p' m' : Nat) (l' : List (Nat × Nat)), whX m_primes_in_w1 (.int (m : Int), l.map pD, .int (p : Int)) = some (.nx (.int (m' : Int), l'.map pD, .int (p' : Int))) ∧ Mid N m' p' l' ∧ m' < p' * p' ∧ p' ≤ N + 2 := by
  intro k
  induction k with
  | zero =>
    intro p m l hk hle h
    have hmN : m ≤ N := by rw [← h.prod]; exact Nat.le_mul_of_pos_left _ (prodP_pos h.pri.pr)
    have hpp := Nat.mul_le_mul_right p h.p2
    have z : ¬ (p : Int) * p ≤ m := by rw [← Int.natCast_mul]; omega
    refine ⟨p, m, l, ?_, h, by omega, hle⟩
    have e : m_primes_in_w1 (.int (m : Int), l.map pD, .int (p : Int)) = some (.dn (.int (m : Int), l.map pD, .int (p : Int))) := by
      unfold m_primes_in_w1
      dsimp only
      rw [mulX_i (by omega) (by omega), Option.bind_some, leX_i, Option.bind_some, decide_eq_false z, if_neg (by decide)]
    rw [whX_eq, e, Option.bind_some, WH.cs_dn]
  | succ k ih =>
    intro p m l hk hle h
    have hmN : m ≤ N := by rw [← h.prod]; exact Nat.le_mul_of_pos_left _ (prodP_pos h.pri.pr)
    have hp2 := h.p2
    by_cases zz : p * p ≤ m
    · have z : (p : Int) * p ≤ m := by rw [← Int.natCast_mul]; omega
      have hpp := Nat.mul_le_mul_right p hp2
      obtain ⟨m', j, e1, e2, e3, e4, e5⟩ := inner hp2 (by omega) (l.map pD) m 0 h.m1
      rw [Nat.zero_add] at e1
      have hlow : ∀ d, 2 ≤ d → d < p + 1 → ¬ d ∣ m' := fun d h2 hd hdm => by
        by_cases q : d = p
        · subst q; exact e4 hdm
        · exact h.low d h2 (by omega) (by rw [e2]; exact Nat.dvd_trans hdm (Nat.dvd_mul_right _ _))
      have step : ∃ l2 : List (Nat × Nat), m_primes_in_w1 (.int (m : Int), l.map pD, .int (p : Int)) = some (.go (.int (m' : Int), l2.map pD, .int ((p + 1 : Nat) : Int))) ∧ Mid N m' (p + 1) l2 := by
        by_cases j0 : j = 0
        · refine ⟨l, ?_, ⟨e3, by omega, ?_, hlow, h.pri, fun q hq => by have := h.below q hq; omega, by have := h.len; omega⟩⟩
          · unfold m_primes_in_w1
            dsimp only
            rw [mulX_i (by omega) (by omega), Option.bind_some, leX_i, Option.bind_some, decide_eq_true z, if_pos rfl]
            have e1 : whX (m_primes_in_w2 (l.map pD) (.int (p : Int))) (.int (m : Int), .int 0) = some (.nx (.int (m' : Int), .int (j : Int))) := e1
            rw [e1, Option.bind_some, SO.cs_nx]
            unfold m_primes_in_j3
            dsimp only
            rw [gtX_i, Option.bind_some, decide_eq_false (by omega), if_neg (by decide), Option.bind_some, iaddX_i, Option.bind_some]
            rfl
          · rw [← h.prod, e2, j0, Nat.pow_zero, Nat.mul_one]
        · have pd : p ∣ m := Classical.byContradiction fun w => j0 (e5.mpr w)
          have hpr := prime_least hp2 pd h.low
          refine ⟨l ++ [(p, j)], ?_, ⟨e3, by omega, ?_, hlow, ⟨fun q hq => ?_, ?_⟩, fun q hq => ?_, ?_⟩⟩
          · unfold m_primes_in_w1
            dsimp only
            rw [mulX_i (by omega) (by omega), Option.bind_some, leX_i, Option.bind_some, decide_eq_true z, if_pos rfl]
            have e1 : whX (m_primes_in_w2 (l.map pD) (.int (p : Int))) (.int (m : Int), .int 0) = some (.nx (.int (m' : Int), .int (j : Int))) := e1
            rw [e1, Option.bind_some, SO.cs_nx]
            unfold m_primes_in_j3
            dsimp only
            rw [gtX_i, Option.bind_some, decide_eq_true (by omega), if_pos rfl, appX_ok (by rw [List.length_map, size_def]; have := h.len; omega), Option.bind_some, Option.bind_some, iaddX_i, Option.bind_some, List.map_append]
            rfl
          · rw [prodP_app, prodP, prodP, Nat.mul_one, ← h.prod, e2, Nat.mul_assoc, Nat.mul_comm (p ^ j)]
          · rcases List.mem_append.mp hq with hq | hq
            · exact h.pri.pr q hq
            · rw [List.mem_singleton.mp hq]; exact ⟨hpr, by show 1 ≤ j; omega⟩
          · refine List.pairwise_append.mpr ⟨h.pri.up, List.pairwise_singleton _ _, fun a ha b hb => ?_⟩
            rw [List.mem_singleton.mp hb]
            exact h.below a ha
          · rcases List.mem_append.mp hq with hq | hq
            · have := h.below q hq; omega
            · rw [List.mem_singleton.mp hq]; show p < p + 1; omega
          · rw [List.length_append, List.length_singleton]; have := h.len; omega
      obtain ⟨l2, e6, h2⟩ := step
      obtain ⟨p', m'', l', a1, a2, a3, a4⟩ := ih (p + 1) m' l2 (by omega) (by omega) h2
      refine ⟨p', m'', l', ?_, a2, a3, a4⟩
      rw [whX_eq, e6, Option.bind_some, WH.cs_go, a1]
    · have z : ¬ (p : Int) * p ≤ m := by rw [← Int.natCast_mul]; omega
      refine ⟨p, m, l, ?_, h, by omega, hle⟩
      have e : m_primes_in_w1 (.int (m : Int), l.map pD, .int (p : Int)) = some (.dn (.int (m : Int), l.map pD, .int (p : Int))) := by
        unfold m_primes_in_w1
        dsimp only
        rw [mulX_i (by omega) (by omega), Option.bind_some, leX_i, Option.bind_some, decide_eq_false z, if_neg (by decide)]
      rw [whX_eq, e, Option.bind_some, WH.cs_dn]
theorem primes_ok {N : Nat} (h1 : 1 ≤ N) (hN : N ≤ 2 ^ 21) : ∃ l : List (Nat × Nat), m_primes_in (.int (N : Int)) = some (.tup (l.map pD)) ∧ Pri l ∧ prodP l = N := by
  obtain ⟨p, m, l, e, h, hm, hp⟩ := outer hN N 2 N [] (by omega) (by omega) ⟨h1, Nat.le_refl _, (by rw [prodP, Nat.one_mul]), (fun d a b => by omega), ⟨(fun q hq => nomatch hq), List.Pairwise.nil⟩, (fun q hq => nomatch hq), (by decide)⟩
  have e : whX m_primes_in_w1 (.int (N : Int), [], .int 2) = some (.nx (.int (m : Int), l.map pD, .int (p : Int))) := e
  unfold m_primes_in
  rw [e, Option.bind_some, SO.cs_nx]
  unfold m_primes_in_j4
  dsimp only
  rw [gtX_i, Option.bind_some]
  by_cases z : 1 < m
  · have pm := prime_of_least z hm h.low
    have hmp : p ≤ m := Nat.le_of_not_lt fun w => h.low m (by omega) w (Nat.dvd_refl m)
    refine ⟨l ++ [(m, 1)], ?_, ⟨fun q hq => ?_, ?_⟩, ?_⟩
    · rw [decide_eq_true (by omega), if_pos rfl, appX_ok (by rw [List.length_map, size_def]; have := h.len; omega), Option.bind_some, Option.bind_some, tupleX_lst, Option.bind_some, List.map_append]
      rfl
    · rcases List.mem_append.mp hq with hq | hq
      · exact h.pri.pr q hq
      · rw [List.mem_singleton.mp hq]; exact ⟨pm, Nat.le_refl _⟩
    · refine List.pairwise_append.mpr ⟨h.pri.up, List.pairwise_singleton _ _, fun a ha b hb => ?_⟩
      rw [List.mem_singleton.mp hb]
      have := h.below a ha
      show a.1 < m
      omega
    · rw [prodP_app, prodP, prodP, Nat.mul_one, Nat.pow_one]; exact h.prod
  · refine ⟨l, ?_, h.pri, ?_⟩
    · rw [decide_eq_false (by omega), if_neg (by decide), Option.bind_some, tupleX_lst]
      rfl
    · have := h.m1
      have e : m = 1 := by omega
      have := h.prod
      rw [e, Nat.mul_one] at this
      exact this
theorem tup2_eq (l : List (Nat × Nat)) (n k : Int) : eqX (.tup (l.map pD)) (.tup [.tup [.int n, .int k]]) = some (decide (l.map (fun q => [(q.1 : Int), (q.2 : Int)]) = [[n, k]])) := by
  have e1 : D.tup (l.map pD) = (encT (encT encI)).enc (l.map fun q => [(q.1 : Int), (q.2 : Int)]) := by
    show _ = D.tup ((l.map fun q => [(q.1 : Int), (q.2 : Int)]).map fun a => D.tup (a.map D.int))
    rw [List.map_map]; rfl
  have e2 : D.tup [.tup [.int n, .int k]] = (encT (encT encI)).enc [[n, k]] := rfl
  rw [e1, e2, Enc.eqX _ (by decide)]
theorem is_prime_ok {N : Nat} (hN : N ≤ 2 ^ 21) : ∃ b : Bool, m_is_prime (.int (N : Int)) = some (.bl b) ∧ (b = true ↔ PrN N) := by
  unfold m_is_prime
  rw [gtX_i, Option.bind_some]
  by_cases z : 1 < N
  · rw [decide_eq_true (by omega), if_pos rfl]
    obtain ⟨l, h1, h2, h3⟩ := primes_ok (N := N) (by omega) hN
    rw [h1, Option.bind_some, tup2_eq, Option.bind_some, Option.bind_some]
    refine ⟨_, rfl, ?_⟩
    rw [decide_eq_true_eq, prodP_prime h2 h3]
    constructor
    · intro e
      match l, e with
      | [(a, b)], e =>
        simp only [List.map_cons, List.map_nil, List.cons.injEq, and_true] at e
        have e1 : a = N := by omega
        have e2 : b = 1 := by omega
        rw [e1, e2]
    · rintro rfl
      rfl
  · rw [decide_eq_false (by omega), if_neg (by decide)]
    exact ⟨false, rfl, by
      constructor
      · intro h; cases h
      · intro h; have := h.1; omega⟩
end
end TL
namespace TL
open PySem PySem.Spec PyProof.Rows L2
local macro_rules | `(tactic| walk_at $s:str) => do
  let names := (s.getString.splitOn " ").filter (· ≠ "")
  match names with
  | "mx" :: ls => do
    let pre := "wVar_ap nDictT_X nSorted_X dMulL_X dIsA_X dIsNotA_X wC_ap wBin_ap wBinK_ap wTB_ap wTru_ap wAnd_ap wOr_ap wNot_ap wAndV_ap wOrV_ap wNotT_ap wIte_ap wCh_ap wNext_ap wSeq_ap wDrop_ap wRet_ap wBrk_ap wCnt_ap wIf_ap wSet_ap wAsg_ap wPar_ap wPar3_ap wAug_ap wFor_ap wItS_ap wR1_X wR2_X wR3_X wNil_ap wCons_ap gN_ap wYes_ap wLc_ap aNil_ap aV_ap aR_ap wNeg_ap wTup_ap wLst_ap wBi_ap wBiK_ap wSubK_ap oNone_ap oSome_ap wSl_ap wApp_ap wExt_ap wPop_X wPut_ap wAugS_ap wDnew_ap kNil_ap kCons_ap wDisp_ap wPairs pk_ap stR_ap onLst_ap retO_ap goCall_ap putC_ap putC'_dct putC'_X getC_ap getC'_L getC'_D tup2_P tup3_P gT2_X gT3_X gsNil_ap gsCons_ap wLrg1_X wTrg1_X wWhile_ap wCall_ap wGhN_ap wRetG_ap wFr_ap wGhE_ap wGX_ap wIG_ap wIgh_ap fzv fzl fzd rB_v asB_bl_P truD_X itD_X dAdd_X dAddL_X dSub_X dMulA_X dDiv_X dMod_X dPow_X dShl_X dShr_X dAnd_X iAdd_X iMul_X dEq_X dNe_X dLt_X dLtA_X dLe_X dGt_X dGe_X dIn_X dNotIn_X dIs_X dIsNot_X dGet_X dSl_X nLen_X nInt_X nAbs_X nMax2_X nMin2_X nSum_X nAll_X nAny_X nTuple_X nList_X nIsi_X oP_some oP_none oP_bind oP_ite oP_cs appX_P extX_P putX_P dispX_P withO_asI withO_isi withO_asL itX_l itX_t truX_b wNever_ap wIzip2_ap wIzip3_ap wIenumerate_ap wIreversed_ap wParR2_ap wParR3_ap nRepr_X oP_exs oP_un oP_bindE wNoX_ap wRaise_ap wTryAs_ap catchK_ap nIsE_X wLm1_ap pkL_ap dCountT_X dIndexT_X guard_P".splitOn " "
    let post := "withO_some varS stS two? three? oneX rint_v rbl_v int_v oneL_X asL_lst asI_int asB_bl vAt lstAt peek cellAt setCell fnD fnX outsOf start0 toSlot refsA_nil refsA_inl refsA_inr List.nodup_nil List.nodup_cons List.not_mem_nil not_false_eq_true resA putA reSlot wipeT R.d? Cell.d? Cell.p? List.getElem?_cons_zero List.getElem?_cons_succ List.set_cons_zero List.set_cons_succ List.map_cons List.map_nil List.length_cons List.length_nil List.nil_append List.cons_append List.append_nil md_zero md_succ Option.isSome_some Option.map_some List.replicate Option.some.injEq if_true if_false ite_true ite_false Bool.false_eq_true Bool.true_eq_false reduceIte and_true true_and Bool.not_true Bool.not_false Bool.not_not Nat.reduceAdd Nat.reduceSub Nat.reduceLeDiff size_def ghZ_kp ghZ_fz ghZ_kl ghZ_nil klZ_t klZ_f klZ_nil frzS_l frzS_d frzS_v frzS_un killS_v killS_un killS_own killS_bor SO.cs_nx SO.cs_rt WH.cs_go WH.cs_dn WH.cs_rt List.mem_cons List.mem_singleton or_false false_or Ex.cs_ok Ex.cs_er noX_ap unS".splitOn " "
    let down := fun (l : String) => l.startsWith "b_" || l.startsWith "w_" || l.startsWith "e_" || l.startsWith "q_" || l.startsWith "j_" || l.startsWith "m_"
    let a ← (pre ++ ls.filter down).toArray.mapM fun (l : String) => do
      let i := Lean.mkIdent l.toName
      `(Lean.Parser.Tactic.simpLemma| ↓$i:term)
    let b ← (post ++ ls.filter (fun l => !down l)).toArray.mapM fun (l : String) => do
      let i := Lean.mkIdent l.toName
      `(Lean.Parser.Tactic.simpLemma| $i:term)
    let all := a ++ b
    `(tactic| simp -implicitDefEqProofs -dsimp only [$all,*])
  | _ => Lean.Macro.throwUnsupported
section
noncomputable section
end
end
section
noncomputable section
end
end
end TL
namespace TL
open PySem PySem.Spec PyProof.Rows L2
local macro_rules | `(tactic| walk_at $s:str) => do
  let names := (s.getString.splitOn " ").filter (· ≠ "")
  match names with
  | "xs" :: ls => do
    let base := "Option.bind_some Option.bind_none addX_i subX_i mulX_i divX_i modX_i powX_i iaddX_i eqX_i neX_i eqX_b neX_b ltX_i ltAX_i leX_i gtX_i geX_i truX_bl truX_i truX_non truX_tup truX_lst itX_tup itX_lst itX_scr lenX_tup lenX_lst lenX_scr lenX_dct tupleX_lst tupleX_tup listX_lst listX_tup seqX_lst seqX_tup intX_bl intX_int absX_i max2X_i min2X_i slX_tup slX_lst slX_scr addX_tup addX_lst addLX_lst appX_ok extX_ok rg1X_i rg2X_i allX_ok anyX_ok sumX_ok tup2X_ok tup3X_ok asI_int asB_bl asL_lst SO.cs_nx SO.cs_rt WH.cs_go WH.cs_dn WH.cs_rt if_true if_false reduceIte decide_eq_true_eq not_true_eq_false not_false_eq_true decide_true decide_false Bool.not_true Bool.not_false Bool.not_not Bool.not_eq_true' decide_eq_false_iff_not Bool.false_eq_true Bool.true_eq_false D.isNon List.length_map List.isEmpty_nil List.isEmpty_cons isi_int_int isi_int_bool isi_int_tuple isi_int_list isi_int_str isi_int_dict isi_bl_int isi_bl_bool isi_bl_tuple isi_bl_list isi_bl_str isi_bl_dict isi_non_int isi_non_bool isi_non_tuple isi_non_list isi_non_str isi_non_dict isi_str_int isi_str_bool isi_str_tuple isi_str_list isi_str_str isi_str_dict isi_tup_int isi_tup_bool isi_tup_tuple isi_tup_list isi_tup_str isi_tup_dict isi_lst_int isi_lst_bool isi_lst_tuple isi_lst_list isi_lst_str isi_lst_dict isi_dct_int isi_dct_bool isi_dct_tuple isi_dct_list isi_dct_str isi_dct_dict".splitOn " "
    let all ← (base ++ ls).toArray.mapM fun (l : String) => do
      let i := Lean.mkIdent l.toName
      `(Lean.Parser.Tactic.simpLemma| $i:term)
    `(tactic| simp (disch := first | assumption | omega | decide | (simp only [List.length_cons, List.length_nil, List.length_append, List.length_map, List.length_range, rangeD_len, size_def]; omega) | (simp only [List.length_cons, List.length_nil, List.length_append, List.length_map, List.length_range, rangeD_len, size_def]; decide)) only [$all,*])
  | "ow" :: ls => do
    let base := "Option.bind_some Option.bind_none addX_i subX_i mulX_i divX_i modX_i powX_i iaddX_i eqX_i neX_i eqX_b neX_b ltX_i ltAX_i leX_i gtX_i geX_i truX_bl truX_i truX_non truX_tup truX_lst itX_tup itX_lst itX_scr lenX_tup lenX_lst lenX_scr lenX_dct tupleX_lst tupleX_tup listX_lst listX_tup seqX_lst seqX_tup intX_bl intX_int absX_i max2X_i min2X_i slX_tup slX_lst slX_scr addX_tup addX_lst addLX_lst appX_ok extX_ok rg1X_i rg2X_i allX_ok anyX_ok sumX_ok tup2X_ok tup3X_ok asI_int asB_bl asL_lst if_true if_false reduceIte decide_eq_true_eq not_true_eq_false not_false_eq_true decide_true decide_false Bool.not_true Bool.not_false Bool.not_not Bool.not_eq_true' decide_eq_false_iff_not Bool.false_eq_true Bool.true_eq_false D.isNon List.length_map List.isEmpty_nil List.isEmpty_cons isi_int_int isi_int_bool isi_int_tuple isi_int_list isi_int_str isi_int_dict isi_bl_int isi_bl_bool isi_bl_tuple isi_bl_list isi_bl_str isi_bl_dict isi_non_int isi_non_bool isi_non_tuple isi_non_list isi_non_str isi_non_dict isi_str_int isi_str_bool isi_str_tuple isi_str_list isi_str_str isi_str_dict isi_tup_int isi_tup_bool isi_tup_tuple isi_tup_list isi_tup_str isi_tup_dict isi_lst_int isi_lst_bool isi_lst_tuple isi_lst_list isi_lst_str isi_lst_dict isi_dct_int isi_dct_bool isi_dct_tuple isi_dct_list isi_dct_str isi_dct_dict ~oP_bindT ~withO_bind ~oP_condK ~oP_nx ~oP_rt ~SO.cs_nx ~SO.cs_rt ~WH.cs_go ~WH.cs_dn ~WH.cs_rt oP_some withO_some withO_condK condK_t condK_f iteB_some iteD_some ite_int ite_and ite_or get3_0 get3_1 get3_2 set3_0 set3_1 set3_2 gett2_0 gett2_1 isX_b isNotX_b mulLX_i Bool.and_eq_true Bool.or_eq_true true_implies and_true true_and implies_true Int.not_lt Int.not_le Bool.not_eq_true forall_const false_or true_or or_true or_false and_false false_and eq_self natz Bool.true_and Bool.and_true Bool.false_or Bool.or_false Bool.true_or Bool.or_true Bool.false_and Bool.and_false".splitOn " "
    let all ← (base ++ ls).toArray.mapM fun (l : String) => do
      if l.startsWith "~" then
        let i := Lean.mkIdent (l.drop 1).toString.toName
        `(Lean.Parser.Tactic.simpLemma| ↓ $i:term)
      else
        let i := Lean.mkIdent l.toName
        `(Lean.Parser.Tactic.simpLemma| $i:term)
    `(tactic| (try simp (disch := first | assumption | omega | decide | (simp only [List.length_cons, List.length_nil, List.length_append, List.length_map, List.length_range, rangeD_len, size_def]; omega) | (simp only [List.length_cons, List.length_nil, List.length_append, List.length_map, List.length_range, rangeD_len, size_def]; decide)) only [$all,*]; try refine withO_i ?_))
  | _ => Lean.Macro.throwUnsupported
section
end
section
theorem foldX_flat {α : Type} {step : List D → D → Option (List D)} (e : α → D) (g : α → List D) : ∀ (xs : List α) (acc : List D), acc.length + (xs.flatMap g).length ≤ sizeLine → (∀ acc x, x ∈ xs → acc.length + (g x).length ≤ sizeLine → step acc (e x) = some (acc ++ g x)) → foldX step (xs.map e) acc = some (acc ++ xs.flatMap g)
  | [], acc, _, _ => by simp [foldX]
  | x :: xs, acc, hl, h => by
    rw [List.flatMap_cons, List.length_append] at hl
    rw [List.map_cons, foldX, h acc x List.mem_cons_self (by omega)]
    show foldX step (xs.map e) (acc ++ g x) = _
    rw [foldX_flat e g xs (acc ++ g x) (by rw [List.length_append]; omega) fun acc y hy => h acc y (List.mem_cons_of_mem _ hy), List.flatMap_cons, List.append_assoc]
def longer (n : Int) (s : List Int) : List (List Int) := (List.range n.toNat).map fun (x : Nat) => s ++ [(x : Int)]
def stepL (A : List (List Int)) (n : Int) : List (List Int) := A.flatMap (longer n)
def spotsL (rs : List Int) : List (List Int) := rs.foldl stepL [[]]
theorem longer_len (n : Int) (s : List Int) : (longer n s).length = n.toNat := by simp [longer]
theorem stepL_len (A : List (List Int)) (n : Int) : (stepL A n).length = A.length * n.toNat := by
  unfold stepL
  induction A with
  | nil => simp
  | cons a A ih => rw [List.flatMap_cons, List.length_append, ih, longer_len, List.length_cons, Nat.succ_mul]; omega
theorem foldl_len {rs : List Int} (h : ∀ n ∈ rs, 0 ≤ n) : ∀ A : List (List Int), ((rs.foldl stepL A).length : Int) = A.length * prodI rs := by
  induction rs with
  | nil => intro A; simp [prodI]
  | cons n rs ih =>
    intro A
    have hn := h n List.mem_cons_self
    rw [List.foldl_cons, ih (fun x hx => h x (List.mem_cons_of_mem _ hx)), stepL_len]
    show ((A.length * n.toNat : Nat) : Int) * prodI rs = A.length * (n * prodI rs)
    rw [Int.natCast_mul, show ((n.toNat : Nat) : Int) = n by omega, Int.mul_assoc]
theorem spotsL_len {rs : List Int} (h : ∀ n ∈ rs, 0 ≤ n) : ((spotsL rs).length : Int) = prodI rs := by
  unfold spotsL
  rw [foldl_len h]
  simp
theorem c3_ok (f : D → D → Option D) (hf : ∀ v d, f v d = (addX v (.tup [d])).bind fun t => some t) {n : Int} (h0 : 0 ≤ n) (h1 : n.toNat ≤ sizeLine) {s : List Int} (hs : s.length < sizeLine) :
    mapX (f (tupI s)) (rangeD 0 1 n.toNat) = some ((longer n s).map tupI) := by
  rw [range0_eq, mapX_map (fun i : Nat => D.int i) (fun i : Nat => tupI (s ++ [(i : Int)])) (List.range n.toNat) (by rw [List.length_range]; exact h1) fun x hx => ?_]
  · unfold longer
    rw [List.map_map]; rfl
  · rw [hf]
    have : addX (tupI s) (.tup [.int x]) = some (.tup (s.map D.int ++ [.int x])) := addX_tup (by rw [List.length_map, List.length_singleton]; omega)
    rw [this]
    show some (D.tup _) = some (tupI _)
    unfold tupI
    rw [List.map_append]; rfl
theorem step_ok (f2 : D → List D → D → Option (List D)) (hf : ∀ (n : Int) (acc : List D) (s : List Int), 0 ≤ n → n < 2 ^ 40 → n.toNat ≤ sizeLine → s.length < sizeLine → acc.length + n.toNat ≤ sizeLine → f2 (.int n) acc (tupI s) = some (acc ++ (longer n s).map tupI))
    {n : Int} (h0 : 0 ≤ n) (h1 : n < 2 ^ 40) (h2 : n.toNat ≤ sizeLine) {A : List (List Int)} (hA : ∀ s ∈ A, s.length < sizeLine) (hl : A.length * n.toNat ≤ sizeLine) : foldX (f2 (.int n)) (A.map tupI) [] = some ((stepL A n).map tupI) := by
  have e : (A.flatMap fun s => (longer n s).map tupI) = (stepL A n).map tupI := by
    unfold stepL
    rw [List.map_flatMap]
  rw [foldX_flat tupI (fun s => (longer n s).map tupI) A [] (by rw [e, List.length_map, stepL_len]; simpa using hl) fun acc s hs hl => by
    rw [List.length_map, longer_len] at hl
    exact hf n acc s h0 h1 h2 (hA s hs) hl]
  rw [List.nil_append, e]
theorem zip2L_zip : ∀ (l : List D) (rs : List Int), zip2L l (rs.map D.int) = (l.zip rs).map fun p => .tup [p.1, .int p.2]
  | [], _ => by simp [zip2L]
  | a :: l, [] => by simp [zip2L]
  | a :: l, r :: rs => by simp [zip2L, zip2L_zip l rs]
/-- a thing that may be looked at -/
def Lk (d : D) : Prop := (∃ n, D.nice n d = true) ∨ ∃ k l, d = .dct k l
theorem Lk.tup {l : List D} (h : Lk (.tup l)) : ∃ n, ∀ x ∈ l, D.nice n x = true := by
  rcases h with ⟨n, h⟩ | ⟨k, m, e⟩
  · obtain ⟨m, _, h⟩ := nice_tup.mp h
    exact ⟨m, h⟩
  · cases e
end
section
def zeroL (rs : List Int) : List Int := rs.map fun _ => 0
theorem spot_nil : Spot [] [] := ⟨rfl, fun _ h => by simp at h⟩
theorem spot_cons {r a : Int} {rs as : List Int} : Spot (r :: rs) (a :: as) ↔ (0 ≤ a ∧ a < r) ∧ Spot rs as := by
  constructor
  · rintro ⟨h1, h2⟩
    exact ⟨h2 (a, r) (by simp), by simpa using h1, fun p hp => h2 p (by rw [List.zip_cons_cons]; exact List.mem_cons_of_mem _ hp)⟩
  · rintro ⟨⟨h1, h2⟩, h3, h4⟩
    refine ⟨by simp [h3], fun p hp => ?_⟩
    rw [List.zip_cons_cons] at hp
    rcases List.mem_cons.mp hp with rfl | hp
    · exact ⟨h1, h2⟩
    · exact h4 p hp
theorem Spot.len {rs a : List Int} (h : Spot rs a) : a.length = rs.length := h.1
/-- rising, each once -/
abbrev Ris (ls : List (List Int)) : Prop := ls.Pairwise (· < ·)
theorem Ris.nodup {ls : List (List Int)} (h : Ris ls) : ls.Nodup := List.Pairwise.imp (fun {a b} (h : a < b) (e : a = b) => List.lt_irrefl a (by rw [← e] at h; exact h)) h
theorem Ris.filter {ls : List (List Int)} (h : Ris ls) (p : List Int → Bool) : Ris (ls.filter p) := List.Pairwise.filter p h
theorem spotsL_mem_aux : ∀ (rs : List Int) (A : List (List Int)) (s : List Int), s ∈ rs.foldl stepL A ↔ ∃ a ∈ A, ∃ u, s = a ++ u ∧ Spot rs u
  | [], A, s => by
    constructor
    · intro h; exact ⟨s, h, [], by simp, spot_nil⟩
    · rintro ⟨a, ha, u, rfl, hu⟩
      cases u with
      | nil => simpa using ha
      | cons x u => have := hu.1; simp at this
  | r :: rs, A, s => by
    rw [List.foldl_cons, spotsL_mem_aux rs]
    constructor
    · rintro ⟨a, ha, u, rfl, hu⟩
      obtain ⟨b, hb, ha⟩ := List.mem_flatMap.mp ha
      obtain ⟨x, hx, rfl⟩ := List.mem_map.mp ha
      have hx := List.mem_range.mp hx
      exact ⟨b, hb, (x : Int) :: u, by simp, spot_cons.mpr ⟨⟨by omega, by omega⟩, hu⟩⟩
    · rintro ⟨a, ha, u, rfl, hu⟩
      cases u with
      | nil => have := hu.1; simp at this
      | cons x u =>
        obtain ⟨⟨h1, h2⟩, h3⟩ := spot_cons.mp hu
        refine ⟨a ++ [x], List.mem_flatMap.mpr ⟨a, ha, List.mem_map.mpr ⟨x.toNat, List.mem_range.mpr (by omega), ?_⟩⟩, u, by simp, h3⟩
        rw [show ((x.toNat : Nat) : Int) = x by omega]
theorem spotsL_mem {rs s : List Int} : s ∈ spotsL rs ↔ Spot rs s := by
  unfold spotsL
  rw [spotsL_mem_aux]
  constructor
  · rintro ⟨a, ha, u, rfl, hu⟩
    simp at ha; subst ha; exact hu
  · intro h
    exact ⟨[], by simp, s, by simp, h⟩
theorem lt_append_left {a b c d : List Int} (hl : a.length = b.length) (h : a < b) : a ++ c < b ++ d := by
  induction a generalizing b with
  | nil =>
    cases b with
    | nil => exact absurd h (List.lt_irrefl _)
    | cons x b => simp at hl
  | cons x a ih =>
    cases b with
    | nil => simp at hl
    | cons y b =>
      rw [List.cons_append, List.cons_append]
      rcases List.cons_lt_cons_iff.mp h with h' | ⟨rfl, h'⟩
      · exact List.cons_lt_cons_iff.mpr (.inl h')
      · exact List.cons_lt_cons_iff.mpr (.inr ⟨rfl, ih (by simpa using hl) h'⟩)
theorem stepL_ris {A : List (List Int)} {k : Nat} (n : Int) (hk : ∀ s ∈ A, s.length = k) (h : Ris A) : Ris (stepL A n) := by
  unfold stepL
  refine List.pairwise_flatMap.mpr ⟨fun a ha => ?_, ?_⟩
  · unfold longer
    refine List.pairwise_map.mpr (List.pairwise_lt_range.imp fun {x y} hxy => ?_)
    have : ∀ l : List Int, l ++ [(x : Int)] < l ++ [(y : Int)] := by
      intro l
      induction l with
      | nil => exact List.cons_lt_cons_iff.mpr (.inl (by omega))
      | cons z l ih => exact List.cons_lt_cons_iff.mpr (.inr ⟨rfl, ih⟩)
    exact this a
  · refine h.imp_of_mem fun {a b} ha hb hab x hx y hy => ?_
    obtain ⟨i, _, rfl⟩ := List.mem_map.mp hx
    obtain ⟨j, _, rfl⟩ := List.mem_map.mp hy
    exact lt_append_left ((hk a ha).trans (hk b hb).symm) hab
theorem spotsL_ris (rs : List Int) : Ris (spotsL rs) := by
  have : ∀ (rs : List Int) (A : List (List Int)) (k : Nat), (∀ s ∈ A, s.length = k) → Ris A → Ris (rs.foldl stepL A) := by
    intro rs
    induction rs with
    | nil => exact fun A k _ h => h
    | cons r rs ih =>
      intro A k hk h
      refine ih (stepL A r) (k + 1) (fun s hs => ?_) (stepL_ris r hk h)
      obtain ⟨a, ha, hs⟩ := List.mem_flatMap.mp hs
      obtain ⟨x, _, rfl⟩ := List.mem_map.mp hs
      rw [List.length_append, hk a ha]; rfl
  exact this rs [[]] 0 (by simp) (by simp)
theorem Spot.ne {rs s : List Int} (h : Spot rs s) (hr : 1 ≤ rs.length) : s ≠ [] := by
  rintro rfl
  have := h.1
  simp at this
  omega
theorem keys_ints : ∀ a : List Int, D.keys? (a.map D.int) = some (a.map Sum.inl)
  | [] => rfl
  | x :: a => by
    show (match (D.int x).key? with | some k => (D.keys? (a.map D.int)).map (k :: ·) | none => none) = _
    rw [keys_ints a]; rfl
theorem keq_tupI (a b : List Int) : keq (tupI a) (tupI b) = decide (a = b) := by
  show decide (D.keys? (a.map D.int) = D.keys? (b.map D.int)) = _
  rw [keys_ints, keys_ints]
  by_cases h : a = b
  · rw [decide_eq_true h, h, decide_eq_true rfl]
  · rw [decide_eq_false h, decide_eq_false]
    intro e
    refine h ?_
    have e := Option.some.inj e
    exact (List.map_inj_right (fun x y e => Sum.inl.inj e)).mp e
theorem isKey_tupI (a : List Int) : D.isKey .t (tupI a) = true := by
  show (D.keys? (a.map D.int)).isSome = true
  rw [keys_ints]; rfl
/-- the pairs of a dict from spots -/
def dctS {α : Type} (e : α → D) (l : List (List Int × α)) : List (D × D) := l.map fun p => (tupI p.1, e p.2)
def putS {α : Type} (l : List (List Int × α)) (k : List Int) (v : α) : List (List Int × α) := if (l.any fun p => decide (p.1 = k)) = true then l.map (fun p => if p.1 = k then (p.1, v) else p) else l ++ [(k, v)]
def getS {α : Type} (l : List (List Int × α)) (k : List Int) : Option α := (l.find? fun p => decide (p.1 = k)).map (·.2)
section
variable {α : Type} {e : α → D}
theorem put_S (l : List (List Int × α)) (k : List Int) (v : α) : putD (dctS e l) (tupI k) (e v) = dctS e (putS l k v) := by
  unfold putD putS dctS
  rw [List.any_map]
  have h : ((fun p : D × D => keq p.1 (tupI k)) ∘ fun p : List Int × α => (tupI p.1, e p.2)) = fun p => decide (p.1 = k) := by
    funext p
    exact keq_tupI p.1 k
  rw [h]
  split
  · rw [List.map_map, List.map_map]
    congr 1
    funext p
    show (if keq (tupI p.1) (tupI k) = true then _ else _) = (fun p : List Int × α => (tupI p.1, e p.2)) (if p.1 = k then (p.1, v) else p)
    rw [keq_tupI]
    by_cases z : p.1 = k
    · rw [if_pos (decide_eq_true z), if_pos z]
    · rw [if_neg (by simpa using z), if_neg z]
  · rw [List.map_append]; rfl
theorem look_S (l : List (List Int × α)) (k : List Int) : lookD (dctS e l) (tupI k) = (getS l k).map e := by
  unfold lookD getS dctS
  rw [List.find?_map]
  have h : ((fun p : D × D => keq p.1 (tupI k)) ∘ fun p : List Int × α => (tupI p.1, e p.2)) = fun p => decide (p.1 = k) := by
    funext p
    exact keq_tupI p.1 k
  rw [h, Option.map_map, Option.map_map]
  rfl
end
end
section
theorem to_fold {p : Int} (p0 : 0 ≤ p) (pb : p < 2 ^ 60) : ∀ (ds : List D) (s : Int), foldX (m_to_the_f1 (.int p)) ds (.int s) = some (.int (s * p ^ ds.length))
  | [], s => by
    show some (D.int s) = _
    rw [List.length_nil, Int.pow_zero, Int.mul_one]
  | d :: ds, s => by
    rw [foldX]
    have e : m_to_the_f1 (.int p) (.int s) d = some (.int (s * p)) := by
      unfold m_to_the_f1
      rw [imulX_j (by omega) (by omega), Option.bind_some]
    rw [e, Option.bind_some, to_fold p0 pb ds, List.length_cons, Int.pow_succ, Int.mul_assoc, Int.mul_comm p]
theorem to_the_ok {p : Int} {m : Nat} (p0 : 0 ≤ p) (pb : p < 2 ^ 60) (hm : m < 1000000) : m_to_the (.int p) (.int m) = some (.int (p ^ m)) := by
  unfold m_to_the
  rw [rg1X_i (by omega) (by omega), Option.bind_some, to_fold p0 pb, Option.bind_some, rangeD_len, Int.one_mul, Int.toNat_natCast]
def rowsL (p : Int) (m : Nat) : List (List Int) := spotsL (List.replicate m p)
theorem prodI_rep (p : Int) : ∀ m : Nat, prodI (List.replicate m p) = p ^ m
  | 0 => by rw [Int.pow_zero]; rfl
  | m + 1 => by
    rw [List.replicate_succ]
    show p * prodI (List.replicate m p) = _
    rw [prodI_rep p m, Int.pow_succ, Int.mul_comm]
theorem rows_c3 {p : Int} (h0 : 0 ≤ p) (h1 : p.toNat ≤ sizeLine) {s : List Int} (hs : s.length < sizeLine) : mapX (m_rows_of_numbers_c3 (tupI s)) (rangeD 0 1 p.toNat) = some ((longer p s).map tupI) := c3_ok m_rows_of_numbers_c3 (fun _ _ => rfl) h0 h1 hs
theorem rows_f2 (p : Int) (acc : List D) (s : List Int) (h0 : 0 ≤ p) (h1 : p < 2 ^ 40) (h2 : p.toNat ≤ sizeLine) (h3 : s.length < sizeLine) (h4 : acc.length + p.toNat ≤ sizeLine) : m_rows_of_numbers_f2 (.int p) acc (tupI s) = some (acc ++ (longer p s).map tupI) := by
  unfold m_rows_of_numbers_f2
  rw [rg1X_i (by omega) (by omega), Option.bind_some, rows_c3 h0 h2 h3, Option.bind_some, extX_ok (by rw [List.length_map, longer_len]; exact h4), Option.bind_some]
theorem rows_f1 {p : Int} {A : List (List Int)} {d : D} (h0 : 0 ≤ p) (h1 : p < 2 ^ 40) (h2 : p.toNat ≤ sizeLine) (hA : ∀ s ∈ A, s.length < sizeLine) (hl : A.length * p.toNat ≤ sizeLine) : m_rows_of_numbers_f1 (.int p) (.lst (A.map tupI)) d = some (.lst ((stepL A p).map tupI)) := by
  unfold m_rows_of_numbers_f1
  rw [itX_lst, Option.bind_some, step_ok m_rows_of_numbers_f2 rows_f2 h0 h1 h2 hA hl, Option.bind_some]
theorem rows_fold {p : Int} (p2 : 2 ≤ p) (pb : p < 2 ^ 20) : ∀ (ds : List D) {A : List (List Int)} {k : Nat}, 1 ≤ A.length → (∀ s ∈ A, s.length = k) → k + ds.length < 1000 → A.length * p ^ ds.length ≤ 2 ^ 20 →
    foldX (m_rows_of_numbers_f1 (.int p)) ds (.lst (A.map tupI)) = some (.lst (((List.replicate ds.length p).foldl stepL A).map tupI))
  | [], A, k, _, _, _, _ => rfl
  | d :: ds, A, k, hA1, hA, hk, hl => by
    have sz := size_def
    rw [List.length_cons] at hk hl
    have pp : 0 < p ^ ds.length := Int.pow_pos (by omega)
    have e1 : ((A.length * p.toNat : Nat) : Int) * p ^ ds.length ≤ 2 ^ 20 := by
      rw [Int.natCast_mul, show ((p.toNat : Nat) : Int) = p by omega, Int.mul_assoc, Int.mul_comm p, ← Int.pow_succ]; exact hl
    have e3 : ((A.length * p.toNat : Nat) : Int) ≤ 2 ^ 20 := by
      have := Int.mul_le_mul_of_nonneg_left (show 1 ≤ p ^ ds.length by omega) (show 0 ≤ ((A.length * p.toNat : Nat) : Int) by omega)
      omega
    have e4 : p.toNat ≤ A.length * p.toNat := Nat.le_mul_of_pos_left _ hA1
    rw [foldX, rows_f1 (by omega) (by omega) (by omega) (fun s hs => by have := hA s hs; omega) (by omega), Option.bind_some]
    rw [rows_fold p2 pb ds (k := k + 1) (by rw [stepL_len]; omega) (fun s hs => by
      obtain ⟨a, ha, hs⟩ := List.mem_flatMap.mp hs
      obtain ⟨x, _, rfl⟩ := List.mem_map.mp hs
      rw [List.length_append, hA a ha]; rfl) (by omega) (by rw [stepL_len]; exact e1)]
    rw [List.length_cons, List.replicate_succ]
    rfl
theorem rows_ok {p : Int} {m : Nat} (p2 : 2 ≤ p) (pb : p < 2 ^ 20) (hm : m < 1000) (hb : p ^ m ≤ 2 ^ 20) : m_rows_of_numbers (.int p) (.int m) = some (.lst ((rowsL p m).map tupI)) := by
  unfold m_rows_of_numbers
  rw [rg1X_i (by omega) (by omega), Option.bind_some]
  rw [show (D.lst [D.tup []]) = .lst ([[]].map tupI) from rfl, rows_fold p2 pb _ (A := [[]]) (k := 0) (by simp) (fun s hs => by rw [List.mem_singleton.mp hs]; rfl) (by rw [rangeD_len]; omega) (by rw [rangeD_len, Int.toNat_natCast]; simpa using hb), Option.bind_some, rangeD_len, Int.toNat_natCast]
  rfl
theorem zip_rep {p : Int} : ∀ {s : List Int}, (∀ q ∈ s.zip (List.replicate s.length p), 0 ≤ q.1 ∧ q.1 < q.2) ↔ ∀ x ∈ s, 0 ≤ x ∧ x < p
  | [] => ⟨fun _ x hx => (nomatch hx), fun _ x hx => (nomatch hx)⟩
  | x :: s => by
    rw [List.length_cons, List.replicate_succ, List.zip_cons_cons, List.forall_mem_cons, List.forall_mem_cons, zip_rep]
theorem spot_rep {p : Int} {m : Nat} {s : List Int} : Spot (List.replicate m p) s ↔ s.length = m ∧ ∀ x ∈ s, 0 ≤ x ∧ x < p := by
  unfold Spot
  rw [List.length_replicate]
  constructor
  · rintro ⟨rfl, h⟩; exact ⟨rfl, zip_rep.mp h⟩
  · rintro ⟨rfl, h⟩; exact ⟨rfl, zip_rep.mpr h⟩
theorem rowsL_mem {p : Int} {m : Nat} {s : List Int} : s ∈ rowsL p m ↔ s.length = m ∧ ∀ x ∈ s, 0 ≤ x ∧ x < p := by
  unfold rowsL
  rw [spotsL_mem, spot_rep]
def subL (p many : Int) : List Int → List Int → List Int
  | [], r => r
  | _ :: _, [] => []
  | f :: fs, r :: rs => (r - many * f) % p :: subL p many fs rs
theorem subL_len (p many : Int) : ∀ (fs rs : List Int), (subL p many fs rs).length = rs.length
  | [], _ => rfl
  | _ :: _, [] => rfl
  | f :: fs, r :: rs => by rw [subL, List.length_cons, subL_len p many fs rs, List.length_cons]
def Low (p : Int) (l : List Int) : Prop := ∀ x ∈ l, 0 ≤ x ∧ x < p
theorem Low.cons {p x : Int} {l : List Int} : Low p (x :: l) ↔ (0 ≤ x ∧ x < p) ∧ Low p l := List.forall_mem_cons
theorem Low.app {p : Int} {a b : List Int} : Low p (a ++ b) ↔ Low p a ∧ Low p b := List.forall_mem_append
theorem Low.take {p : Int} {a : List Int} (h : Low p a) (n : Nat) : Low p (a.take n) := fun x hx => h x (List.mem_of_mem_take hx)
theorem Low.drop {p : Int} {a : List Int} (h : Low p a) (n : Nat) : Low p (a.drop n) := fun x hx => h x (List.mem_of_mem_drop hx)
theorem subL_low {p many : Int} (p0 : 0 < p) : ∀ {fs rs : List Int}, Low p rs → Low p (subL p many fs rs)
  | [], _, h => h
  | _ :: _, [], h => h
  | f :: fs, r :: rs, h => by
    rw [subL, Low.cons]
    rw [Low.cons] at h
    exact ⟨⟨Int.emod_nonneg _ (by omega), Int.emod_lt_of_pos _ p0⟩, subL_low p0 h.2⟩
def remL (p : Int) (form : List Int) : Nat → List Int → List Int
  | 0, s => s
  | n + 1, s => remL p form n (s.take n ++ subL p (s.getD (n + (form.length - 1)) 0) form (s.drop n))
theorem remL_len (p : Int) (form : List Int) : ∀ (n : Nat) (s : List Int), (remL p form n s).length = s.length
  | 0, _ => rfl
  | n + 1, s => by
    rw [remL, remL_len p form n, List.length_append, subL_len, ← List.length_append, List.take_append_drop]
theorem remL_low {p : Int} {form : List Int} (p0 : 0 < p) : ∀ {n : Nat} {s : List Int}, Low p s → Low p (remL p form n s)
  | 0, _, h => h
  | n + 1, s, h => by
    rw [remL]
    exact remL_low p0 (Low.app.mpr ⟨h.take n, subL_low p0 (h.drop n)⟩)
def restP (p : Int) (row form : List Int) : List Int := (remL p form (row.length - (form.length - 1)) row).take (form.length - 1)
theorem set_app {α : Type} (a : List α) (x y : α) (b : List α) : (a ++ x :: b).set a.length y = a ++ y :: b := by simp
theorem low_abs {p x : Int} (pb : p < 2 ^ 20) (h : 0 ≤ x ∧ x < p) : x.natAbs < 2 ^ 250 := by omega
theorem setX_at (a : List Int) (x y : Int) (b : List Int) (i : Int) (hi : i = a.length) : setX ((a ++ x :: b).map D.int) (.int i) (.int y) = some ((a ++ y :: b).map D.int) := by
  have e : L2.ixN ((a ++ x :: b).map D.int).length i = some a.length := by
    unfold L2.ixN
    rw [List.length_map, List.length_append, List.length_cons, if_pos (by omega), if_pos (by omega)]
    congr 1
    omega
  show (L2.ixN _ i).map _ = _
  rw [e, Option.map_some, ← List.map_set, set_app]
theorem getX_at (a : List Int) (x : Int) (b : List Int) (i : Int) (hi : i = a.length) : getX (.lst ((a ++ x :: b).map D.int)) (.int i) = some (.int x) := by
  rw [hi]
  exact getX_nat (by simp)
theorem sub_fold {p many : Int} (p0 : 0 < p) (pb : p < 2 ^ 20) (hm : 0 ≤ many ∧ many < p) (form : D) (deg place : Int) : ∀ (fs : List Int) (a : Nat) (pre rest : List Int), (pre.length : Int) = place - deg + a → fs.length ≤ rest.length → Low p fs →
    foldX (m_rest_by_f2 (.int p) form (.int deg) (.int place) (.int many)) (enumL a (fs.map D.int)) ((pre ++ rest).map D.int) = some ((pre ++ subL p many fs rest).map D.int)
  | [], _, _, _, _, _, _ => rfl
  | f :: fs, a, pre, [], _, h, _ => by simp at h
  | f :: fs, a, pre, r :: rest, hp, hl, hf => by
    rw [Low.cons] at hf
    have e : m_rest_by_f2 (.int p) form (.int deg) (.int place) (.int many) ((pre ++ r :: rest).map D.int) (.tup [.int a, .int f]) = some (((pre ++ [(r - many * f) % p]) ++ rest).map D.int) := by
      unfold m_rest_by_f2
      rw [tup2X_ok, Option.bind_some, subX_i, Option.bind_some, addX_i, Option.bind_some, getX_at _ _ _ _ hp.symm, Option.bind_some, mulX_i (low_abs pb hm) (low_abs pb hf.1), Option.bind_some, subX_i, Option.bind_some, modX_i p0, Option.bind_some, Option.bind_some, addX_i, Option.bind_some, setX_at _ _ _ _ _ hp.symm, Option.bind_some]
      rw [List.append_assoc]; rfl
    rw [List.map_cons, enumL, foldX, e, Option.bind_some, sub_fold p0 pb hm form deg place fs (a + 1) _ rest (by rw [List.length_append, List.length_singleton]; omega) (by simpa using hl) hf.2, subL, List.append_assoc]
    rfl
theorem range_down (d : Int) (n : Nat) : rangeD (d + n) (-1) (n + 1) = .int (d + n) :: rangeD (d + n - 1) (-1) n := by
  unfold rangeD
  rw [List.range_succ_eq_map, List.map_cons, List.map_map]
  congr 1
  · congr 1; omega
  · apply List.map_congr_left
    intro i _
    show D.int _ = D.int _
    congr 1
    show d + n + ((i + 1 : Nat) : Int) * (-1) = _
    omega
theorem rg3_down {a b : Int} (ha : 0 ≤ a ∧ a < 2 ^ 20) (hb : -1 ≤ b ∧ b ≤ a) : rg3X (.int a) (.int b) (.int (-1)) = some (rangeD a (-1) (a - b).toNat) := by
  have e : Builtin.Range.rangeSize a b (-1) = ((a - b).toNat : Int) := by
    unfold Builtin.Range.rangeSize
    rw [if_neg (by decide)]
    split
    · rw [show -(-1 : Int) = 1 from rfl, Int.ediv_one]; omega
    · omega
  show (if _ then some (rangeD a (-1) _) else none) = _
  rw [e, Int.toNat_natCast, if_pos]
  refine ⟨by decide, by decide, ?_, e⟩
  unfold Builtin.Range.small
  have z : ¬ ((-1 : Int) > 0) := by decide
  simp only [e, Builtin.Range.rangeFitsLong, Bool.and_eq_true, Bool.or_eq_true, decide_eq_true_eq, beq_iff_eq, z, if_false]
  omega
theorem rest_fold {p : Int} (p0 : 0 < p) (pb : p < 2 ^ 20) {form : List Int} {deg : Nat} (hf : Low p form) (hd : form.length = deg + 1) : ∀ (n : Nat) (s : List Int), deg + n ≤ s.length → Low p s →
    foldX (m_rest_by_f1 (.int p) (tupI form) (.int deg)) (rangeD ((deg : Int) + n - 1) (-1) n) (s.map D.int) = some ((remL p form n s).map D.int)
  | 0, s, _, _ => rfl
  | n + 1, s, hl, hs => by
    have hx : ∃ x, s[deg + n]? = some x ∧ x ∈ s := ⟨_, List.getElem?_eq_getElem (by omega), List.getElem_mem (by omega)⟩
    obtain ⟨x, hx, hxm⟩ := hx
    have hg : s.getD (n + (form.length - 1)) 0 = x := by
      rw [List.getD_eq_getElem?_getD, hd, show n + (deg + 1 - 1) = deg + n by omega, hx]; rfl
    have e : m_rest_by_f1 (.int p) (tupI form) (.int deg) (s.map D.int) (.int ((deg : Int) + n)) = some ((s.take n ++ subL p x form (s.drop n)).map D.int) := by
      unfold m_rest_by_f1
      have e1 : getX (.lst (s.map D.int)) (.int ((deg : Int) + n)) = some (.int x) := by
        have := getX_nat (l := s.map D.int) (n := deg + n) (x := .int x) (by rw [List.getElem?_map, hx]; rfl)
        rw [show ((deg + n : Nat) : Int) = (deg : Int) + n by omega] at this
        exact this
      rw [e1, Option.bind_some]
      show ((some (enumL 0 (form.map D.int))).bind fun t9 => _) = _
      rw [Option.bind_some]
      have := sub_fold p0 pb (hs x hxm) (tupI form) deg ((deg : Int) + n) form 0 (s.take n) (s.drop n) (by rw [List.length_take]; omega) (by rw [List.length_drop]; omega) hf
      rw [List.take_append_drop] at this
      rw [this, Option.bind_some]
    have hl2 : (s.take n ++ subL p x form (s.drop n)).length = s.length := by
      rw [List.length_append, subL_len, ← List.length_append, List.take_append_drop]
    rw [show ((deg : Int) + ((n + 1 : Nat) : Int) - 1) = deg + n by omega, range_down, foldX, e, Option.bind_some, rest_fold p0 pb hf hd n _ (by omega) (Low.app.mpr ⟨hs.take n, subL_low p0 (hs.drop n)⟩), remL, hg]
theorem cut_takeF (l : List D) (n : Nat) (hn : n ≤ l.length) : cutD l none (some (n : Int)) = l.take n := by
  unfold cutD
  rw [HT.sIx_none, HT.sIx_nat, Nat.min_eq_left hn]
  rfl
theorem rest_ok {p : Int} (p0 : 0 < p) (pb : p < 2 ^ 20) {row form : List Int} (hf : Low p form) (hr : Low p row) (h1 : 1 ≤ form.length) (h2 : form.length ≤ row.length) (hb : row.length < 1000) : m_rest_by (.int p) (tupI row) (tupI form) = some (tupI (restP p row form)) := by
  obtain ⟨deg, hd⟩ : ∃ deg, form.length = deg + 1 := ⟨form.length - 1, by omega⟩
  unfold m_rest_by
  rw [show tupI row = .tup (row.map D.int) from rfl, listX_tup, Option.bind_some, show lenX (tupI form) = some (.int (form.map D.int).length) from rfl, Option.bind_some, subX_i, Option.bind_some, lenX_tup, Option.bind_some, subX_i, Option.bind_some, subX_i, Option.bind_some, List.length_map, List.length_map, hd, show (((deg + 1 : Nat) : Int) - 1) = deg by omega,
    rg3_down (by omega) (by omega), Option.bind_some]
  have e := rest_fold p0 pb hf hd (row.length - deg) row (by omega) hr
  rw [show (deg : Int) + ((row.length - deg : Nat) : Int) - 1 = (row.length : Int) - 1 by omega] at e
  rw [show ((row.length : Int) - 1 - ((deg : Int) - 1)).toNat = row.length - deg by omega, e, Option.bind_some]
  show ((some (deg : Int)).bind fun t22 => _) = _
  rw [Option.bind_some, slX_lst, cut_takeF _ _ (by rw [List.length_map, remL_len]; omega), Option.bind_some, tupleX_lst, Option.bind_some]
  unfold restP
  rw [hd, ← List.map_take]
  rfl
theorem restP_len {p : Int} {row form : List Int} (h2 : form.length ≤ row.length + 1) : (restP p row form).length = form.length - 1 := by
  unfold restP
  rw [List.length_take, remL_len]
  omega
theorem restP_low {p : Int} (p0 : 0 < p) {row form : List Int} (hr : Low p row) : Low p (restP p row form) := (remL_low p0 hr).take _
theorem anyT_ok (r : List Int) : anyTX (tupI r) = some (r.any fun x => x != 0) := by
  show (D.ints (r.map D.int)).map _ = _
  rw [ints_of]; rfl
def isProd (p : Int) (form : List Int) : Bool := (List.range ((form.length - 1) / 2)).any fun d => (rowsL p (d + 1)).any fun row => !((restP p form (row ++ [1])).any fun x => x != 0)
theorem add_one {row : List Int} (h : row.length < 1000) : addX (tupI row) (.tup [.int 1]) = some (tupI (row ++ [1])) := by
  have sz := size_def
  rw [show tupI row = .tup (row.map D.int) from rfl, addX_tup (by rw [List.length_map]; simp; omega)]
  simp [tupI]
theorem low_one {p : Int} (p2 : 2 ≤ p) {row : List Int} (h : Low p row) : Low p (row ++ [1]) := Low.app.mpr ⟨h, fun x hx => by rw [List.mem_singleton.mp hx]; omega⟩
theorem pow_le_pow {p : Int} (p1 : 1 ≤ p) {a b : Nat} (h : a ≤ b) : p ^ a ≤ p ^ b := by
  obtain ⟨k, rfl⟩ := Nat.exists_eq_add_of_le h
  rw [Int.pow_add]
  have h1 : 0 < p ^ a := Int.pow_pos (by omega)
  have h2 : 0 < p ^ k := Int.pow_pos (by omega)
  have := Int.mul_le_mul_of_nonneg_left (show 1 ≤ p ^ k by omega) (show 0 ≤ p ^ a by omega)
  omega
theorem prod_ok {p : Int} (p2 : 2 ≤ p) (pb : p < 2 ^ 20) {form : List Int} (hf : Low p form) (h1 : 1 ≤ form.length) (hb : form.length < 1000) (hq : p ^ (form.length - 1) ≤ 2 ^ 20) : m_is_product (.int p) (tupI form) = some (.bl (isProd p form)) := by
  obtain ⟨m, hm⟩ : ∃ m, form.length = m + 1 := ⟨form.length - 1, by omega⟩
  unfold m_is_product isProd
  rw [show lenX (tupI form) = some (.int (form.map D.int).length) from rfl, Option.bind_some, List.length_map, hm, subX_i, Option.bind_some, show (((m + 1 : Nat) : Int) - 1) = m by omega, divX_i (by decide) (by decide), Option.bind_some, addX_i, Option.bind_some, show (m : Int) / 2 = ((m / 2 : Nat) : Int) by omega, rg2X_i (by decide) (by decide) (by omega) (by omega), Option.bind_some]
  rw [show (((m / 2 : Nat) : Int) + 1 - 1).toNat = m / 2 by omega, range_eq]
  rw [hm] at hq
  have st : ∀ d : Nat, d ∈ List.range (m / 2) → m_is_product_f1 (.int p) (tupI form) () (.int (1 + (d : Int))) = some (if (!((rowsL p (d + 1)).any fun row => !((restP p form (row ++ [1])).any fun x => x != 0))) then .nx () else .rt (.bl true)) := by
    intro d hd
    rw [List.mem_range] at hd
    have hpd : p ^ (d + 1) ≤ 2 ^ 20 := Int.le_trans (pow_le_pow (by omega) (by omega)) hq
    unfold m_is_product_f1
    rw [show (1 + (d : Int)) = ((d + 1 : Nat) : Int) by omega, rows_ok p2 pb (by omega) hpd, Option.bind_some, itX_lst, Option.bind_some]
    rw [forX_all tupI (fun row => (restP p form (row ++ [1])).any fun x => x != 0) (.bl true) (rowsL p (d + 1)) fun row hr => by
      obtain ⟨hl, hr⟩ := rowsL_mem.mp hr
      unfold m_is_product_f2
      rw [add_one (by omega), Option.bind_some, rest_ok (by omega) pb (low_one p2 hr) hf (by simp) (by rw [List.length_append, List.length_singleton]; omega) hb, Option.bind_some, anyT_ok, Option.bind_some]
      cases (restP p form (row ++ [1])).any fun x => x != 0 <;> rfl]
    rw [Option.bind_some, List.not_any_eq_all_not]
    simp only [Bool.not_not]
    cases (rowsL p (d + 1)).all fun row => (restP p form (row ++ [1])).any fun x => x != 0 <;> rfl
  rw [forX_all (fun d : Nat => D.int (1 + (d : Int))) _ (.bl true) (List.range (m / 2)) st, Option.bind_some, ← List.not_any_eq_all_not, show (m + 1 - 1) / 2 = m / 2 by omega]
  cases (List.range (m / 2)).any fun d => (rowsL p (d + 1)).any fun row => !((restP p form (row ++ [1])).any fun x => x != 0) <;> rfl
def leastP (p : Int) (m : Nat) : Option (List Int) := (rowsL p m).find? fun row => !isProd p (row ++ [1])
def leastD (p : Int) (m : Nat) : D := match leastP p m with
  | some row => tupI (row ++ [1])
  | none => .non
theorem find_map {α ρ : Type} (q : α → Bool) (g : α → ρ) (l : List α) : l.findSome? (fun x => if q x then some (g x) else none) = (l.find? q).map g := by
  induction l with
  | nil => rfl
  | cons x l ih =>
    rw [List.findSome?_cons, List.find?_cons]
    cases q x with
    | true => rfl
    | false => exact ih
theorem least_ok {p : Int} {m : Nat} (p2 : 2 ≤ p) (pb : p < 2 ^ 20) (hm : m < 900) (hq : p ^ m ≤ 2 ^ 20) : m_least_whole (.int p) (.int m) = some (leastD p m) := by
  unfold m_least_whole
  rw [rows_ok p2 pb (by omega) hq, Option.bind_some, itX_lst, Option.bind_some]
  rw [forX_find tupI (fun row => if (!isProd p (row ++ [1])) then some (tupI (row ++ [1])) else none) (rowsL p m) fun row hr => by
    obtain ⟨hl, hr⟩ := rowsL_mem.mp hr
    unfold m_least_whole_f1
    rw [add_one (by omega), Option.bind_some, prod_ok p2 pb (low_one p2 hr) (by simp) (by rw [List.length_append, List.length_singleton]; omega) (by rw [List.length_append, List.length_singleton, hl]; exact hq), Option.bind_some, truX_bl, Option.bind_some]
    cases isProd p (row ++ [1]) <;> rfl]
  rw [Option.bind_some, find_map]
  unfold leastD leastP
  cases (rowsL p m).find? fun row => !isProd p (row ++ [1]) <;> rfl
theorem within_ok (p m : Int) : ∃ b : Bool, m_is_power_within (.int p) (.int m) (.int 2200) = some (.bl b) ∧ (b = true ↔ PrN p.toNat ∧ 1 ≤ m ∧ m ≤ 11 ∧ p ^ m.toNat ≤ 2200) := by
  unfold m_is_power_within
  rw [leX_i, Option.bind_some]
  by_cases h1 : 2 ≤ p
  · rw [decide_eq_true h1, if_pos rfl, leX_i, Option.bind_some, Option.bind_some]
    by_cases h2 : p ≤ 2200
    · rw [decide_eq_true h2, if_neg (by decide), leX_i, Option.bind_some]
      by_cases h3 : 1 ≤ m
      · rw [decide_eq_true h3, if_pos rfl, leX_i, Option.bind_some, Option.bind_some, Option.bind_some]
        by_cases h4 : m ≤ 11
        · have hm : m = (m.toNat : Int) := by omega
          rw [decide_eq_true h4, if_neg (by decide), hm, to_the_ok (by omega) (by omega) (by omega), Option.bind_some, leX_i, Option.bind_some, Int.toNat_natCast]
          by_cases h5 : p ^ m.toNat ≤ 2200
          · obtain ⟨b, e, hb⟩ := is_prime_ok (N := p.toNat) (by omega)
            rw [show ((p.toNat : Nat) : Int) = p by omega] at e
            rw [decide_eq_true h5, if_pos rfl, e, Option.bind_some, Option.bind_some]
            exact ⟨b, rfl, by rw [hb]; exact ⟨fun h => ⟨h, by omega, by omega, h5⟩, fun h => h.1⟩⟩
          · rw [decide_eq_false h5, if_neg (by decide), Option.bind_some]
            exact ⟨false, rfl, by simp; intros; omega⟩
        · rw [decide_eq_false h4, if_pos (by decide)]
          exact ⟨false, rfl, by simp; intros; omega⟩
      · rw [decide_eq_false h3, if_neg (by decide), Option.bind_some, Option.bind_some, if_pos (by decide)]
        exact ⟨false, rfl, by simp; intros; omega⟩
    · rw [decide_eq_false h2, if_pos (by decide), Option.bind_some, if_pos rfl]
      refine ⟨false, rfl, ?_⟩
      constructor
      · intro h; cases h
      · rintro ⟨_, h3, _, h5⟩
        have := pow_le_pow (p := p) (by omega) (show 1 ≤ m.toNat by omega)
        have h6 : p ^ 1 = p := by rw [Int.pow_succ, Int.pow_zero, Int.one_mul]
        rw [h6] at this
        omega
  · rw [decide_eq_false h1, if_neg (by decide), Option.bind_some, if_pos (by decide), Option.bind_some, if_pos rfl]
    exact ⟨false, rfl, by
      constructor
      · intro h; cases h
      · intro h; have := h.1.1; omega⟩
end
end TL
namespace TL
open PySem PySem.Spec PyProof.Rows L2
abbrev Po := Nat → Int
def sh (f : Po) : Po := fun k => f (k + 1)
def mulS : Nat → Po → Po → Int
  | 0, f, g => f 0 * g 0
  | k + 1, f, g => f 0 * g (k + 1) + mulS k (sh f) g
def mulP (f g : Po) : Po := fun k => mulS k f g
theorem mulS_add_left (f h g : Po) : ∀ k, mulS k (fun i => f i + h i) g = mulS k f g + mulS k h g := by
  intro k
  induction k generalizing f h with
  | zero => exact Int.add_mul _ _ _
  | succ k ih =>
    show (f 0 + h 0) * g (k + 1) + mulS k (fun i => sh f i + sh h i) g = _
    rw [ih, Int.add_mul]
    show _ = f 0 * g (k + 1) + mulS k (sh f) g + (h 0 * g (k + 1) + mulS k (sh h) g)
    omega
theorem mulS_smul_left (c : Int) (f g : Po) : ∀ k, mulS k (fun i => c * f i) g = c * mulS k f g := by
  intro k
  induction k generalizing f with
  | zero => exact Int.mul_assoc _ _ _
  | succ k ih =>
    show c * f 0 * g (k + 1) + mulS k (fun i => c * sh f i) g = c * (f 0 * g (k + 1) + mulS k (sh f) g)
    rw [ih, Int.mul_add, Int.mul_assoc]
theorem mulS_comm_step (f g : Po) : ∀ k, mulS (k + 1) f g = g 0 * f (k + 1) + mulS k f (sh g) := by
  intro k
  induction k generalizing f with
  | zero =>
    show f 0 * g 1 + f 1 * g 0 = g 0 * f 1 + f 0 * g 1
    rw [Int.mul_comm (f 1)]; omega
  | succ k ih =>
    show f 0 * g (k + 1 + 1) + mulS (k + 1) (sh f) g = g 0 * f (k + 1 + 1) + (f 0 * sh g (k + 1) + mulS k (sh f) (sh g))
    rw [ih]
    show f 0 * g (k + 1 + 1) + (g 0 * f (k + 1 + 1) + _) = g 0 * f (k + 1 + 1) + (f 0 * g (k + 1 + 1) + _)
    omega
theorem mulS_comm (f g : Po) : ∀ k, mulS k f g = mulS k g f := by
  intro k
  induction k generalizing f g with
  | zero => exact Int.mul_comm _ _
  | succ k ih =>
    rw [mulS_comm_step g f k]
    show f 0 * g (k + 1) + mulS k (sh f) g = _
    rw [ih (sh f) g]
theorem mulS_assoc (f g h : Po) : ∀ k, mulS k (mulP f g) h = mulS k f (mulP g h) := by
  intro k
  induction k generalizing f with
  | zero => exact Int.mul_assoc _ _ _
  | succ k ih =>
    have e : sh (mulP f g) = fun i => f 0 * sh g i + mulP (sh f) g i := rfl
    show mulP f g 0 * h (k + 1) + mulS k (sh (mulP f g)) h = f 0 * mulP g h (k + 1) + mulS k (sh f) (mulP g h)
    rw [e, mulS_add_left, ← ih, mulS_smul_left]
    show f 0 * g 0 * h (k + 1) + (f 0 * mulS k (sh g) h + mulS k (mulP (sh f) g) h) = f 0 * (g 0 * h (k + 1) + mulS k (sh g) h) + mulS k (mulP (sh f) g) h
    rw [Int.mul_add, Int.mul_assoc]
    omega
def Eq' (p : Int) (f g : Po) : Prop := ∀ k, p ∣ f k - g k
theorem Eq'.rfl' {p : Int} {f : Po} : Eq' p f f := fun k => by rw [Int.sub_self]; exact Int.dvd_zero p
theorem Eq'.sy {p : Int} {f g : Po} (h : Eq' p f g) : Eq' p g f := fun k => by
  have := Int.dvd_neg.mpr (h k)
  rwa [Int.neg_sub] at this
theorem Eq'.tr {p : Int} {f g h : Po} (a : Eq' p f g) (b : Eq' p g h) : Eq' p f h := fun k => by
  have := Int.dvd_add (a k) (b k)
  rwa [show f k - g k + (g k - h k) = f k - h k by omega] at this
theorem Eq'.add {p : Int} {f g f2 g2 : Po} (a : Eq' p f g) (b : Eq' p f2 g2) : Eq' p (fun i => f i + f2 i) (fun i => g i + g2 i) := fun k => by
  have := Int.dvd_add (a k) (b k)
  rwa [show f k - g k + (f2 k - g2 k) = f k + f2 k - (g k + g2 k) by omega] at this
theorem Eq'.smul {p : Int} {f g : Po} (c : Int) (a : Eq' p f g) : Eq' p (fun i => c * f i) (fun i => c * g i) := fun k => by
  have := Int.dvd_mul_of_dvd_right (b := c) (a k)
  rw [Int.mul_sub] at this
  exact this
theorem Eq'.mul_left {p : Int} {f g : Po} (h : Po) (a : Eq' p f g) : Eq' p (mulP f h) (mulP g h) := fun k => by
  show p ∣ mulS k f h - mulS k g h
  induction k generalizing f g with
  | zero =>
    show p ∣ f 0 * h 0 - g 0 * h 0
    rw [← Int.sub_mul]
    exact Int.dvd_mul_of_dvd_left (a 0)
  | succ k ih =>
    have h1 : p ∣ (f 0 - g 0) * h (k + 1) := Int.dvd_mul_of_dvd_left (a 0)
    have h2 := Int.dvd_add h1 (ih (f := sh f) (g := sh g) fun i => a (i + 1))
    rw [Int.sub_mul] at h2
    show p ∣ f 0 * h (k + 1) + mulS k (sh f) h - (g 0 * h (k + 1) + mulS k (sh g) h)
    rwa [show f 0 * h (k + 1) - g 0 * h (k + 1) + (mulS k (sh f) h - mulS k (sh g) h) = f 0 * h (k + 1) + mulS k (sh f) h - (g 0 * h (k + 1) + mulS k (sh g) h) by omega] at h2
theorem mulP_comm (f g : Po) : mulP f g = mulP g f := funext fun k => mulS_comm f g k
theorem mulP_assoc (f g h : Po) : mulP (mulP f g) h = mulP f (mulP g h) := funext fun k => mulS_assoc f g h k
theorem Eq'.mul_right {p : Int} {f g : Po} (h : Po) (a : Eq' p f g) : Eq' p (mulP h f) (mulP h g) := by
  rw [mulP_comm h f, mulP_comm h g]; exact a.mul_left h
theorem Eq'.mul {p : Int} {f g f2 g2 : Po} (a : Eq' p f g) (b : Eq' p f2 g2) : Eq' p (mulP f f2) (mulP g g2) := (a.mul_left f2).tr (b.mul_right g)
/-- nothing from place n on -/
def Bd (p : Int) (n : Nat) (f : Po) : Prop := ∀ k, n ≤ k → p ∣ f k
theorem Bd.mono {p : Int} {n m : Nat} {f : Po} (h : Bd p n f) (l : n ≤ m) : Bd p m f := fun k hk => h k (by omega)
theorem Bd.congr {p : Int} {n : Nat} {f g : Po} (h : Bd p n f) (e : Eq' p f g) : Bd p n g := fun k hk => by
  have := Int.dvd_sub (h k hk) (e k)
  rwa [show f k - (f k - g k) = g k by omega] at this
theorem mul_none {p : Int} {f g : Po} (h : Bd p 0 f) : Bd p 0 (mulP f g) := fun k _ => by
  have e : Eq' p f (fun _ => 0) := fun i => by
    show p ∣ f i - 0
    rw [Int.sub_zero]; exact h i (Nat.zero_le _)
  have := e.mul_left g k
  have z : mulP (fun _ => 0) g k = 0 := by
    show mulS k (fun _ => 0) g = 0
    clear this
    induction k with
    | zero => exact Int.zero_mul _
    | succ k ih =>
      show 0 * g (k + 1) + mulS k (fun _ => 0) g = 0
      rw [ih (Nat.zero_le _), Int.zero_mul]; rfl
  rwa [z, Int.sub_zero] at this
theorem Bd.mul {p : Int} {f g : Po} : ∀ {n m : Nat}, Bd p n f → Bd p m g → Bd p (n + m - 1) (mulP f g) := by
  intro n m hf hg k hk
  by_cases z : n = 0
  · subst z; exact mul_none hf k (Nat.zero_le _)
  revert hk; revert z
  show ¬ n = 0 → n + m - 1 ≤ k → p ∣ mulS k f g
  induction k generalizing n f with
  | zero =>
    intro _ hk
    by_cases z : n = 0
    · exact Int.dvd_mul_of_dvd_left (hf 0 (by omega))
    · exact Int.dvd_mul_of_dvd_right (hg 0 (by omega))
  | succ k ih =>
    intro z hk
    refine Int.dvd_add ?_ ?_
    · exact Int.dvd_mul_of_dvd_right (hg (k + 1) (by omega))
    · by_cases z1 : n = 1
      · exact mul_none (f := sh f) (fun i hi => hf (i + 1) (by omega)) k (Nat.zero_le _)
      · exact ih (n := n - 1) (fun i hi => hf (i + 1) (by omega)) (by omega) (by omega)
/-- the last number of a product -/
theorem mul_top {p : Int} {f g : Po} : ∀ {n m : Nat}, Bd p (n + 1) f → Bd p (m + 1) g → p ∣ mulP f g (n + m) - f n * g m := by
  intro n m hf hg
  show p ∣ mulS (n + m) f g - f n * g m
  induction n generalizing f with
  | zero =>
    cases m with
    | zero => show p ∣ f 0 * g 0 - f 0 * g 0; rw [Int.sub_self]; exact Int.dvd_zero p
    | succ m =>
      rw [Nat.zero_add]
      show p ∣ f 0 * g (m + 1) + mulS m (sh f) g - f 0 * g (m + 1)
      rw [Int.add_comm, Int.add_sub_cancel]
      have b : Bd p 0 (sh f) := fun i _ => hf (i + 1) (by omega)
      clear hg hf
      induction m generalizing f with
      | zero => exact Int.dvd_mul_of_dvd_left (b 0 (by omega))
      | succ m ih => exact Int.dvd_add (Int.dvd_mul_of_dvd_left (b 0 (by omega))) (ih (f := sh f) fun i _ => b (i + 1) (by omega))
  | succ n ih =>
    rw [show n + 1 + m = n + m + 1 by omega]
    show p ∣ f 0 * g (n + m + 1) + mulS (n + m) (sh f) g - f (n + 1) * g m
    have h1 : p ∣ f 0 * g (n + m + 1) := Int.dvd_mul_of_dvd_right (hg _ (by omega))
    have h2 := Int.dvd_add h1 (ih (f := sh f) fun i hi => hf (i + 1) (by omega))
    rwa [show f 0 * g (n + m + 1) + (mulS (n + m) (sh f) g - sh f n * g m) = f 0 * g (n + m + 1) + mulS (n + m) (sh f) g - f (n + 1) * g m by unfold sh; omega] at h2
/-- what is a whole many of a monic form and lesser than it is nothing -/
theorem none_left {p : Int} {F q r : Po} {m : Nat} (hF : Bd p (m + 1) F) (h1 : p ∣ F m - 1) (hr : Bd p m r) (e : Eq' p (mulP q F) r) : ∀ n, Bd p n q → Bd p 0 q := by
  intro n
  induction n with
  | zero => exact fun h => h
  | succ n ih =>
    intro hq
    refine ih fun k hk => ?_
    by_cases z : k = n
    · subst z
      have t := mul_top hq hF
      have t2 := e (k + m)
      have t3 := hr (k + m) (by omega)
      have t4 : p ∣ q k * (F m - 1) := Int.dvd_mul_of_dvd_right h1
      have s := Int.dvd_sub (Int.dvd_add t2 t3) (Int.dvd_add t t4)
      rw [Int.mul_sub, Int.mul_one] at s
      rwa [show mulP q F (k + m) - r (k + m) + r (k + m) - (mulP q F (k + m) - q k * F m + (q k * F m - q k)) = q k by omega] at s
    · exact hq k (by omega)
def co (l : List Int) : Po := fun k => l.getD k 0
theorem co_bd (p : Int) (l : List Int) : Bd p l.length (co l) := fun k hk => by
  have : co l k = 0 := by
    unfold co
    rw [List.getD_eq_getElem?_getD, List.getElem?_eq_none hk]; rfl
  rw [this]; exact Int.dvd_zero p
theorem low_eq {p x y : Int} (hx : 0 ≤ x ∧ x < p) (hy : 0 ≤ y ∧ y < p) (h : p ∣ x - y) : x = y := by
  obtain ⟨c, hc⟩ := h
  have c0 : c = 0 := by
    rcases Int.lt_trichotomy c 0 with z | z | z
    · have := Int.mul_le_mul_of_nonneg_left (show c ≤ -1 by omega) (show 0 ≤ p by omega)
      omega
    · exact z
    · have := Int.mul_le_mul_of_nonneg_left (show 1 ≤ c by omega) (show 0 ≤ p by omega)
      omega
  rw [c0, Int.mul_zero] at hc
  omega
theorem co_eq {p : Int} : ∀ {a b : List Int}, a.length = b.length → (∀ x ∈ a, 0 ≤ x ∧ x < p) → (∀ x ∈ b, 0 ≤ x ∧ x < p) → Eq' p (co a) (co b) → a = b
  | [], [], _, _, _, _ => rfl
  | [], _ :: _, h, _, _, _ => by cases h
  | _ :: _, [], h, _, _, _ => by cases h
  | x :: a, y :: b, hl, ha, hb, e => by
    rw [low_eq (ha x List.mem_cons_self) (hb y List.mem_cons_self) (e 0), co_eq (a := a) (b := b) (by simpa using hl) (fun z hz => ha z (List.mem_cons_of_mem _ hz)) (fun z hz => hb z (List.mem_cons_of_mem _ hz)) fun k => e (k + 1)]
end TL
namespace TL
open PySem PySem.Spec PyProof.Rows L2
def mono (n : Nat) : Po := fun k => if k = n then 1 else 0
theorem mulS_zero (f : Po) : ∀ k, mulS k (fun _ => 0) f = 0
  | 0 => Int.zero_mul _
  | k + 1 => by
    show 0 * f (k + 1) + mulS k (fun _ => 0) f = 0
    rw [mulS_zero f k, Int.zero_mul]; rfl
theorem mul_mono (f : Po) : ∀ n k, mulP (mono n) f k = if n ≤ k then f (k - n) else 0
  | 0, 0 => by show 1 * f 0 = _; rw [Int.one_mul]; rfl
  | 0, k + 1 => by
    have e : sh (mono 0) = fun _ => 0 := funext fun i => by
      show (if i + 1 = 0 then (1 : Int) else 0) = 0
      exact if_neg (by omega)
    show 1 * f (k + 1) + mulS k (sh (mono 0)) f = _
    rw [e, mulS_zero, Int.one_mul, Int.add_zero]; rfl
  | n + 1, 0 => by show 0 * f 0 = _; rw [Int.zero_mul]; rfl
  | n + 1, k + 1 => by
    have e : sh (mono (n + 1)) = mono n := funext fun i => by
      show (if i + 1 = n + 1 then (1 : Int) else 0) = if i = n then 1 else 0
      by_cases z : i = n
      · rw [if_pos z, if_pos (by omega)]
      · rw [if_neg z, if_neg (by omega)]
    show 0 * f (k + 1) + mulS k (sh (mono (n + 1))) f = _
    rw [e, show mulS k (mono n) f = mulP (mono n) f k from rfl, mul_mono f n k, Int.zero_mul, Int.zero_add]
    by_cases z : n ≤ k
    · rw [if_pos z, if_pos (by omega), show k + 1 - (n + 1) = k - n by omega]
    · rw [if_neg z, if_neg (by omega)]
theorem co_app (a b : List Int) (k : Nat) : co (a ++ b) k = if k < a.length then co a k else co b (k - a.length) := by
  unfold co
  rw [List.getD_eq_getElem?_getD, List.getD_eq_getElem?_getD, List.getD_eq_getElem?_getD]
  by_cases z : k < a.length
  · rw [if_pos z, List.getElem?_append_left z]
  · rw [if_neg z, List.getElem?_append_right (by omega)]
theorem co_take (a : List Int) (n k : Nat) : co (a.take n) k = if k < n then co a k else 0 := by
  unfold co
  rw [List.getD_eq_getElem?_getD, List.getD_eq_getElem?_getD, List.getElem?_take]
  by_cases z : k < n
  · rw [if_pos z, if_pos z]
  · rw [if_neg z, if_neg z]; rfl
theorem co_drop (a : List Int) (n k : Nat) : co (a.drop n) k = co a (n + k) := by
  unfold co
  rw [List.getD_eq_getElem?_getD, List.getD_eq_getElem?_getD, List.getElem?_drop]
theorem co_out {a : List Int} {k : Nat} (h : a.length ≤ k) : co a k = 0 := by
  unfold co
  rw [List.getD_eq_getElem?_getD, List.getElem?_eq_none h]; rfl
theorem emod_dvd (p x : Int) : p ∣ x % p - x := ⟨-(x / p), by have := Int.emod_add_mul_ediv x p; rw [Int.mul_neg]; omega⟩
theorem co_subL {p many : Int} : ∀ {fs rs : List Int}, fs.length ≤ rs.length → ∀ k, p ∣ co (subL p many fs rs) k - (co rs k - many * co fs k)
  | [], rs, _, k => by
    show p ∣ co rs k - (co rs k - many * 0)
    rw [Int.mul_zero, Int.sub_zero, Int.sub_self]; exact Int.dvd_zero p
  | _ :: _, [], h, _ => by simp at h
  | f :: fs, r :: rs, h, 0 => emod_dvd p (r - many * f)
  | f :: fs, r :: rs, h, k + 1 => co_subL (fs := fs) (rs := rs) (by simpa using h) k
theorem co_subL_hi {p many : Int} : ∀ {fs rs : List Int} {k : Nat}, fs.length ≤ k → co (subL p many fs rs) k = co rs k
  | [], _, _, _ => rfl
  | _ :: _, [], _, _ => rfl
  | f :: fs, r :: rs, 0, h => by simp at h
  | f :: fs, r :: rs, k + 1, h => co_subL_hi (fs := fs) (rs := rs) (k := k) (by simpa using h)
theorem co_subL_top {p : Int} : ∀ {fs rs : List Int} {n : Nat}, fs.length = n + 1 → n < rs.length → co fs n = 1 → co (subL p (co rs n) fs rs) n = 0
  | f :: fs, r :: rs, n, h1, h2, h3 => by
    have : ∀ (many : Int) {fs rs : List Int} {n : Nat}, fs.length = n + 1 → n < rs.length → co fs n = 1 → co (subL p many fs rs) n = (co rs n - many) % p := by
      intro many fs
      induction fs with
      | nil => intro rs n h; simp at h
      | cons f fs ih =>
        intro rs n h1 h2 h3
        match rs, n with
        | r :: rs, 0 =>
          have : f = 1 := h3
          subst this
          show (r - many * 1) % p = (r - many) % p
          rw [Int.mul_one]
        | r :: rs, n + 1 => exact ih (by simpa using h1) (by simpa using h2) h3
    rw [this _ h1 h2 h3, Int.sub_self, Int.zero_emod]
theorem rem_spec {p : Int} {form : List Int} {deg : Nat} (hd : form.length = deg + 1) (h1 : co form deg = 1) : ∀ (n : Nat) (s : List Int), deg + n ≤ s.length →
    (∃ q, Bd p n q ∧ Eq' p (co s) fun i => mulP q (co form) i + co (remL p form n s) i) ∧ (∀ k, deg + n ≤ k → co (remL p form n s) k = co s k) ∧ ∀ k, deg ≤ k → k < deg + n → co (remL p form n s) k = 0
  | 0, s, _ => ⟨⟨fun _ => 0, fun k _ => Int.dvd_zero p, fun k => by
      show p ∣ co s k - (mulS k (fun _ => 0) (co form) + co s k)
      rw [mulS_zero, Int.zero_add, Int.sub_self]; exact Int.dvd_zero p⟩, fun k _ => rfl, fun k a b => by omega⟩
  | n + 1, s, hs => by
    have hg : s.getD (n + (form.length - 1)) 0 = co s (n + deg) := by rw [hd]; rfl
    rw [remL, hg]
    obtain ⟨s', es⟩ : ∃ s', s.take n ++ subL p (co s (n + deg)) form (s.drop n) = s' := ⟨_, rfl⟩
    have hl : s'.length = s.length := by rw [← es, List.length_append, subL_len, ← List.length_append, List.take_append_drop]
    have tl : (s.take n).length = n := by rw [List.length_take]; omega
    have hk : ∀ k, p ∣ co s k - (co s (n + deg) * mulP (mono n) (co form) k + co s' k) := fun k => by
      rw [mul_mono, ← es, co_app, tl]
      by_cases z : k < n
      · rw [if_pos z, if_neg (by omega), co_take, if_pos z, Int.mul_zero, Int.zero_add, Int.sub_self]; exact Int.dvd_zero p
      · rw [if_neg z, if_pos (by omega)]
        have t := co_subL (p := p) (many := co s (n + deg)) (fs := form) (rs := s.drop n) (by rw [List.length_drop]; omega) (k - n)
        rw [co_drop, show n + (k - n) = k by omega] at t
        have := Int.dvd_neg.mpr t
        rwa [show -(co (subL p (co s (n + deg)) form (s.drop n)) (k - n) - (co s k - co s (n + deg) * co form (k - n))) = co s k - (co s (n + deg) * co form (k - n) + co (subL p (co s (n + deg)) form (s.drop n)) (k - n)) by omega] at this
    have hi : ∀ k, deg + n + 1 ≤ k → co s' k = co s k := fun k hk => by
      rw [← es, co_app, tl, if_neg (by omega), co_subL_hi (by omega), co_drop, show n + (k - n) = k by omega]
    have top : co s' (deg + n) = 0 := by
      rw [← es, co_app, tl, if_neg (by omega), show deg + n - n = deg by omega]
      have := co_subL_top (p := p) (fs := form) (rs := s.drop n) (n := deg) hd (by rw [List.length_drop]; omega) h1
      rwa [co_drop] at this
    rw [es]
    obtain ⟨⟨q, hq, he⟩, h2, h3⟩ := rem_spec hd h1 n s' (by omega)
    refine ⟨⟨fun i => q i + co s (n + deg) * mono n i, fun k hk => ?_, fun k => ?_⟩, fun k hk => ?_, fun k a b => ?_⟩
    · have : mono n k = 0 := if_neg (by omega)
      show p ∣ q k + co s (n + deg) * mono n k
      rw [this, Int.mul_zero, Int.add_zero]
      exact hq k (by omega)
    · have e1 : mulP (fun i => q i + co s (n + deg) * mono n i) (co form) k = mulP q (co form) k + co s (n + deg) * mulP (mono n) (co form) k := by
        show mulS k _ _ = mulS k _ _ + _ * mulS k _ _
        rw [mulS_add_left, mulS_smul_left]
      show p ∣ co s k - (mulP (fun i => q i + co s (n + deg) * mono n i) (co form) k + co (remL p form n s') k)
      rw [e1]
      have := Int.dvd_add (hk k) (he k)
      rwa [show co s k - (co s (n + deg) * mulP (mono n) (co form) k + co s' k) + (co s' k - (mulP q (co form) k + co (remL p form n s') k)) = co s k - (mulP q (co form) k + co s (n + deg) * mulP (mono n) (co form) k + co (remL p form n s') k) by omega] at this
    · rw [h2 k (by omega), hi k (by omega)]
    · by_cases z : k = deg + n
      · subst z; rw [h2 _ (by omega), top]
      · exact h3 k a (by omega)
theorem rest_spec {p : Int} {form row : List Int} {deg : Nat} (hd : form.length = deg + 1) (h1 : co form deg = 1) (hl : deg ≤ row.length) : ∃ q, Bd p (row.length - deg) q ∧ Eq' p (co row) fun i => mulP q (co form) i + co (restP p row form) i := by
  obtain ⟨⟨q, hq, he⟩, h2, h3⟩ := rem_spec (p := p) hd h1 (row.length - deg) row (by omega)
  refine ⟨q, hq, ?_⟩
  have e : co (restP p row form) = co (remL p form (row.length - deg) row) := funext fun k => by
    unfold restP
    rw [hd, co_take, show deg + 1 - 1 = deg from rfl]
    by_cases z : k < deg
    · rw [if_pos z]
    · rw [if_neg z]
      by_cases y : k < deg + (row.length - deg)
      · exact (h3 k (by omega) y).symm
      · rw [h2 k (by omega), co_out (by omega)]
  rw [e]
  exact he
/-- only one row of that length is left -/
theorem rest_only {p : Int} {form row r : List Int} {deg : Nat} (p0 : 0 < p) (hd : form.length = deg + 1) (h1 : co form deg = 1) (hl : deg ≤ row.length) (hr : Low p row) (r1 : r.length = deg) (r2 : Low p r) {n : Nat} {q : Po} (hq : Bd p n q) (e : Eq' p (co row) fun i => mulP q (co form) i + co r i) : restP p row form = r := by
  obtain ⟨q2, hq2, e2⟩ := rest_spec (p := p) hd h1 hl
  have l2 : (restP p row form).length = deg := by rw [restP_len (by omega), hd]; rfl
  refine co_eq (by rw [l2, r1]) (restP_low p0 hr) r2 ?_
  have bF : Bd p (deg + 1) (co form) := by have := co_bd p form; rwa [hd] at this
  have bq : Bd p (n + row.length) (fun i => q i + (-1) * q2 i) := fun k hk => Int.dvd_add (hq k (by omega)) (Int.dvd_mul_of_dvd_right (hq2 k (by omega)))
  have br : Bd p deg (fun i => co (restP p row form) i + (-1) * co r i) := fun k hk => by
    show p ∣ co (restP p row form) k + (-1) * co r k
    rw [co_out (by omega), co_out (by omega)]; exact Int.dvd_zero p
  have em : ∀ k, mulP (fun i => q i + (-1) * q2 i) (co form) k = mulP q (co form) k + (-1) * mulP q2 (co form) k := fun k => by
    show mulS k _ _ = mulS k _ _ + _ * mulS k _ _
    rw [mulS_add_left, mulS_smul_left]
  have ee : Eq' p (mulP (fun i => q i + (-1) * q2 i) (co form)) (fun i => co (restP p row form) i + (-1) * co r i) := fun k => by
    show p ∣ mulP (fun i => q i + (-1) * q2 i) (co form) k - (co (restP p row form) k + (-1) * co r k)
    rw [em]
    have := Int.dvd_sub (e2 k) (e k)
    rwa [show co row k - (mulP q2 (co form) k + co (restP p row form) k) - (co row k - (mulP q (co form) k + co r k)) = mulP q (co form) k + (-1) * mulP q2 (co form) k - (co (restP p row form) k + (-1) * co r k) by omega] at this
  have z := none_left bF (by rw [h1, Int.sub_self]; exact Int.dvd_zero p) br ee _ bq
  intro k
  have t := mul_none (g := co form) z k (Nat.zero_le _)
  have := Int.dvd_sub t (ee k)
  rwa [show mulP (fun i => q i + (-1) * q2 i) (co form) k - (mulP (fun i => q i + (-1) * q2 i) (co form) k - (co (restP p row form) k + (-1) * co r k)) = co (restP p row form) k - co r k by omega] at this
end TL
namespace TL
open PySem PySem.Spec PyProof.Rows L2
local macro_rules | `(tactic| walk_at $s:str) => do
  let names := (s.getString.splitOn " ").filter (· ≠ "")
  match names with
  | "xs" :: ls => do
    let base := "Option.bind_some Option.bind_none addX_i subX_i mulX_i divX_i modX_i powX_i iaddX_i eqX_i neX_i eqX_b neX_b ltX_i ltAX_i leX_i gtX_i geX_i truX_bl truX_i truX_non truX_tup truX_lst itX_tup itX_lst itX_scr lenX_tup lenX_lst lenX_scr lenX_dct tupleX_lst tupleX_tup listX_lst listX_tup seqX_lst seqX_tup intX_bl intX_int absX_i max2X_i min2X_i slX_tup slX_lst slX_scr addX_tup addX_lst addLX_lst appX_ok extX_ok rg1X_i rg2X_i allX_ok anyX_ok sumX_ok tup2X_ok tup3X_ok asI_int asB_bl asL_lst SO.cs_nx SO.cs_rt WH.cs_go WH.cs_dn WH.cs_rt if_true if_false reduceIte decide_eq_true_eq not_true_eq_false not_false_eq_true decide_true decide_false Bool.not_true Bool.not_false Bool.not_not Bool.not_eq_true' decide_eq_false_iff_not Bool.false_eq_true Bool.true_eq_false D.isNon List.length_map List.isEmpty_nil List.isEmpty_cons isi_int_int isi_int_bool isi_int_tuple isi_int_list isi_int_str isi_int_dict isi_bl_int isi_bl_bool isi_bl_tuple isi_bl_list isi_bl_str isi_bl_dict isi_non_int isi_non_bool isi_non_tuple isi_non_list isi_non_str isi_non_dict isi_str_int isi_str_bool isi_str_tuple isi_str_list isi_str_str isi_str_dict isi_tup_int isi_tup_bool isi_tup_tuple isi_tup_list isi_tup_str isi_tup_dict isi_lst_int isi_lst_bool isi_lst_tuple isi_lst_list isi_lst_str isi_lst_dict isi_dct_int isi_dct_bool isi_dct_tuple isi_dct_list isi_dct_str isi_dct_dict".splitOn " "
    let all ← (base ++ ls).toArray.mapM fun (l : String) => do
      let i := Lean.mkIdent l.toName
      `(Lean.Parser.Tactic.simpLemma| $i:term)
    `(tactic| simp (disch := first | assumption | omega | decide | (simp only [List.length_cons, List.length_nil, List.length_append, List.length_map, List.length_range, rangeD_len, size_def]; omega) | (simp only [List.length_cons, List.length_nil, List.length_append, List.length_map, List.length_range, rangeD_len, size_def]; decide)) only [$all,*])
  | "ow" :: ls => do
    let base := "Option.bind_some Option.bind_none addX_i subX_i mulX_i divX_i modX_i powX_i iaddX_i eqX_i neX_i eqX_b neX_b ltX_i ltAX_i leX_i gtX_i geX_i truX_bl truX_i truX_non truX_tup truX_lst itX_tup itX_lst itX_scr lenX_tup lenX_lst lenX_scr lenX_dct tupleX_lst tupleX_tup listX_lst listX_tup seqX_lst seqX_tup intX_bl intX_int absX_i max2X_i min2X_i slX_tup slX_lst slX_scr addX_tup addX_lst addLX_lst appX_ok extX_ok rg1X_i rg2X_i allX_ok anyX_ok sumX_ok tup2X_ok tup3X_ok asI_int asB_bl asL_lst if_true if_false reduceIte decide_eq_true_eq not_true_eq_false not_false_eq_true decide_true decide_false Bool.not_true Bool.not_false Bool.not_not Bool.not_eq_true' decide_eq_false_iff_not Bool.false_eq_true Bool.true_eq_false D.isNon List.length_map List.isEmpty_nil List.isEmpty_cons isi_int_int isi_int_bool isi_int_tuple isi_int_list isi_int_str isi_int_dict isi_bl_int isi_bl_bool isi_bl_tuple isi_bl_list isi_bl_str isi_bl_dict isi_non_int isi_non_bool isi_non_tuple isi_non_list isi_non_str isi_non_dict isi_str_int isi_str_bool isi_str_tuple isi_str_list isi_str_str isi_str_dict isi_tup_int isi_tup_bool isi_tup_tuple isi_tup_list isi_tup_str isi_tup_dict isi_lst_int isi_lst_bool isi_lst_tuple isi_lst_list isi_lst_str isi_lst_dict isi_dct_int isi_dct_bool isi_dct_tuple isi_dct_list isi_dct_str isi_dct_dict ~oP_bindT ~withO_bind ~oP_condK ~oP_nx ~oP_rt ~SO.cs_nx ~SO.cs_rt ~WH.cs_go ~WH.cs_dn ~WH.cs_rt oP_some withO_some withO_condK condK_t condK_f iteB_some iteD_some ite_int ite_and ite_or get3_0 get3_1 get3_2 set3_0 set3_1 set3_2 gett2_0 gett2_1 isX_b isNotX_b mulLX_i Bool.and_eq_true Bool.or_eq_true true_implies and_true true_and implies_true Int.not_lt Int.not_le Bool.not_eq_true forall_const false_or true_or or_true or_false and_false false_and eq_self natz Bool.true_and Bool.and_true Bool.false_or Bool.or_false Bool.true_or Bool.or_true Bool.false_and Bool.and_false".splitOn " "
    let all ← (base ++ ls).toArray.mapM fun (l : String) => do
      if l.startsWith "~" then
        let i := Lean.mkIdent (l.drop 1).toString.toName
        `(Lean.Parser.Tactic.simpLemma| ↓ $i:term)
      else
        let i := Lean.mkIdent l.toName
        `(Lean.Parser.Tactic.simpLemma| $i:term)
    `(tactic| (try simp (disch := first | assumption | omega | decide | (simp only [List.length_cons, List.length_nil, List.length_append, List.length_map, List.length_range, rangeD_len, size_def]; omega) | (simp only [List.length_cons, List.length_nil, List.length_append, List.length_map, List.length_range, rangeD_len, size_def]; decide)) only [$all,*]; try refine withO_i ?_))
  | _ => Lean.Macro.throwUnsupported
section
theorem take_ok {n : Nat} {p : List D} {m : Int} (h : PotOk n p) (hn : n < 2 ^ 60) (h0 : 0 < m) (h1 : m < 2 ^ 62) :
    oP (m_law_take p (.int m)) fun r => ∃ i : Int, r.1 = .int i ∧ 0 ≤ i ∧ i < m ∧ PotOk (n + 1) r.2 := by
  obtain ⟨a, b, c, rfl, ha, hb, hb2, hc, hc2⟩ := h
  have sq := sq_bound (n := n + 1) (c := c + 1) (by omega) (by omega) (by omega)
  have a1 : 65537 * (c + 1) * (c + 1) = 65537 * ((c + 1) * (c + 1)) := Int.mul_assoc _ _ _
  unfold m_law_take
  walk_at "ow a1"
  refine condK_i (fun h => ?_) fun h => ?_
  · walk_at "ow"
    exact ⟨_, rfl, Int.emod_nonneg _ (by omega), Int.emod_lt_of_pos _ h0, _, _, _, rfl, Int.ediv_nonneg ha (by omega), hb, hb2, hc, by omega⟩
  · walk_at "ow a1"
    exact ⟨_, rfl, Int.emod_nonneg _ (by omega), Int.emod_lt_of_pos _ h0, _, _, _, rfl, ha, hb, hb2, by omega, by omega⟩
theorem hand_ok {ns : List Int} {k : Int} (h0 : 0 ≤ k) (h1 : k < 2 ^ 60) : oP (m_law_hand (.scr (ns.map D.int)) (.int k)) (PotOk 0) := by
  have e1 : oP (m_law_hand_j1 (.scr (ns.map D.int)) (.int k) (.int 0)) fun d => ∃ i : Int, d = .int i := by
    unfold m_law_hand_j1
    walk_at "ow"
    refine condK_i (fun h => ?_) fun _ => ⟨0, rfl⟩
    walk_at "ow"
    refine oP_gets h0 (by simpa using h) fun x hx _ => ?_
    obtain ⟨i, _, rfl⟩ := List.mem_map.mp hx
    exact ⟨i, rfl⟩
  unfold m_law_hand
  rw [oP_bind]
  refine oP_mono e1 ?_
  rintro _ ⟨i, rfl⟩
  have p60 : powX (.int 10) (.int 60) = some (.int (10 ^ 60)) := by rw [powX_i (by decide) (by decide) (by decide)]; rfl
  have p30 : powX (.int 10) (.int 30) = some (.int (10 ^ 30)) := by rw [powX_i (by decide) (by decide) (by decide)]; rfl
  have p18 : powX (.int 10) (.int 18) = some (.int (10 ^ 18)) := by rw [powX_i (by decide) (by decide) (by decide)]; rfl
  have m90 : (0 : Int) < 10 ^ 60 * 10 ^ 30 := by decide
  rw [p60, Option.bind_some, p30, Option.bind_some, mulX_i (by decide) (by decide), Option.bind_some, modX_i m90, Option.bind_some, p18, Option.bind_some, geX_i, Option.bind_some]
  have a0 := Int.emod_nonneg i (show (10 : Int) ^ 60 * 10 ^ 30 ≠ 0 by decide)
  have a1 := Int.emod_lt_of_pos i m90
  have a2 : (10 : Int) ^ 60 * 10 ^ 30 < 2 ^ 1000 := by decide
  generalize i % (10 ^ 60 * 10 ^ 30) = q at a0 a1 ⊢
  have b0 := Int.emod_nonneg i (show (2305843009213693951 : Int) ≠ 0 by decide)
  have b1 := Int.emod_lt_of_pos i (show (0 : Int) < 2305843009213693951 by decide)
  have em : ∃ g : Int, mulIX (.int q) (.int (if decide (i ≥ 10 ^ 18) = true then 1 else 0)) = some (.int g) ∧ 0 ≤ g := by
    have hq : q.natAbs < 2 ^ 1000 := by
      have : ((q.natAbs : Nat) : Int) < ((2 ^ 1000 : Nat) : Int) := by
        rw [Int.natAbs_of_nonneg a0]
        exact Int.lt_trans a1 a2
      exact Int.ofNat_lt.mp this
    cases decide (i ≥ 10 ^ 18)
    · exact ⟨q * 0, if_pos ⟨hq, by decide⟩, by rw [Int.mul_zero]; decide⟩
    · exact ⟨q * 1, if_pos ⟨hq, by decide⟩, by rw [Int.mul_one]; exact a0⟩
  obtain ⟨g, eg, g0⟩ := em
  rw [intX_bl, Option.bind_some, eg, Option.bind_some, modX_i (by decide), Option.bind_some, mulX_i (by decide) (by omega), Option.bind_some, addX_i, Option.bind_some, addX_i, Option.bind_some, modX_i (by decide), Option.bind_some]
  exact ⟨_, _, _, rfl, g0, Int.emod_nonneg _ (by decide), Int.lt_trans (Int.emod_lt_of_pos _ (by decide)) (by decide), by decide, by decide⟩
end
section
def mulL (p : Int) (b : List Int) : Nat → List Int → List Int → List Int
  | _, [], t => t
  | i, x :: as, t => mulL p b (i + 1) as (t.take i ++ subL p (-x) b (t.drop i))
def mulT (p : Int) (a b : List Int) : List Int := mulL p b 0 a (List.replicate (a.length + b.length - 1) 0)
theorem mulL_len (p : Int) (b : List Int) : ∀ (as : List Int) (i : Nat) (t : List Int), (mulL p b i as t).length = t.length
  | [], _, _ => rfl
  | x :: as, i, t => by rw [mulL, mulL_len p b as, List.length_append, subL_len, ← List.length_append, List.take_append_drop]
theorem mulL_low {p : Int} (p0 : 0 < p) {b : List Int} : ∀ {as : List Int} {i : Nat} {t : List Int}, Low p t → Low p (mulL p b i as t)
  | [], _, _, h => h
  | x :: as, i, t, h => by
    rw [mulL]
    exact mulL_low p0 (Low.app.mpr ⟨h.take i, subL_low p0 (h.drop i)⟩)
theorem mulL_co {p : Int} {b : List Int} : ∀ (as : List Int) (i : Nat) (t : List Int), i + as.length + b.length ≤ t.length + 1 → ∀ k, p ∣ co (mulL p b i as t) k - (co t k + mulP (mono i) (mulP (co as) (co b)) k)
  | [], i, t, _, k => by
    have e : mulP (co []) (co b) = fun _ => 0 := funext fun j => mulS_zero _ j
    rw [e, mul_mono]
    show p ∣ co t k - (co t k + if i ≤ k then 0 else 0)
    rw [ite_self, Int.add_zero, Int.sub_self]; exact Int.dvd_zero p
  | x :: as, i, t, h, k => by
    rw [List.length_cons] at h
    rw [mulL]
    obtain ⟨t', et⟩ : ∃ t', t.take i ++ subL p (-x) b (t.drop i) = t' := ⟨_, rfl⟩
    have hl : t'.length = t.length := by rw [← et, List.length_append, subL_len, ← List.length_append, List.take_append_drop]
    have ih := mulL_co (p := p) (b := b) as (i + 1) t' (by omega) k
    rw [et]
    have tl : (t.take i).length = i := by rw [List.length_take]; omega
    have h1 : p ∣ co t' k - (co t k + if i ≤ k then x * co b (k - i) else 0) := by
      rw [← et, co_app, tl]
      by_cases z : k < i
      · rw [if_pos z, if_neg (by omega), co_take, if_pos z, Int.add_zero, Int.sub_self]; exact Int.dvd_zero p
      · rw [if_neg z, if_pos (by omega)]
        have := co_subL (p := p) (many := -x) (fs := b) (rs := t.drop i) (by rw [List.length_drop]; omega) (k - i)
        rw [co_drop, show i + (k - i) = k by omega, Int.neg_mul, Int.sub_neg] at this
        exact this
    have h2 : mulP (mono i) (mulP (co (x :: as)) (co b)) k = (if i ≤ k then x * co b (k - i) else 0) + mulP (mono (i + 1)) (mulP (co as) (co b)) k := by
      rw [mul_mono, mul_mono]
      by_cases z : k < i
      · rw [if_neg (by omega), if_neg (by omega), if_neg (by omega)]; rfl
      · rw [if_pos (by omega), if_pos (by omega)]
        by_cases y : k = i
        · subst y
          rw [if_neg (by omega), Nat.sub_self, Int.add_zero]; rfl
        · rw [if_pos (by omega)]
          obtain ⟨j, hj⟩ : ∃ j, k - i = j + 1 := ⟨k - i - 1, by omega⟩
          rw [hj, show k - (i + 1) = j by omega]; rfl
    rw [h2]
    have := Int.dvd_add ih h1
    rwa [show co (mulL p b (i + 1) as t') k - (co t' k + mulP (mono (i + 1)) (mulP (co as) (co b)) k) + (co t' k - (co t k + if i ≤ k then x * co b (k - i) else 0)) = co (mulL p b (i + 1) as t') k - (co t k + ((if i ≤ k then x * co b (k - i) else 0) + mulP (mono (i + 1)) (mulP (co as) (co b)) k)) by omega] at this
theorem mulT_len {p : Int} {a b : List Int} : (mulT p a b).length = a.length + b.length - 1 := by
  unfold mulT
  rw [mulL_len, List.length_replicate]
theorem low_rep0 {p : Int} (p0 : 0 < p) (n : Nat) : Low p (List.replicate n 0) := fun x hx => by
  rw [(List.mem_replicate.mp hx).2]; omega
theorem mulT_low {p : Int} (p0 : 0 < p) {a b : List Int} : Low p (mulT p a b) := mulL_low p0 (low_rep0 p0 _)
theorem co_rep (n k : Nat) : co (List.replicate n 0) k = 0 := by
  unfold co
  rw [List.getD_eq_getElem?_getD, List.getElem?_replicate]
  split <;> rfl
theorem mulT_co {p : Int} {a b : List Int} : Eq' p (co (mulT p a b)) (mulP (co a) (co b)) := fun k => by
  by_cases z : a.length + b.length = 0
  · have ha : a = [] := List.length_eq_zero_iff.mp (by omega)
    have hb : b = [] := List.length_eq_zero_iff.mp (by omega)
    subst ha hb
    show p ∣ co [] k - mulS k (fun _ => 0) (co [])
    rw [mulS_zero]
    exact Int.dvd_zero p
  · have := mulL_co (p := p) (b := b) a 0 (List.replicate (a.length + b.length - 1) 0) (by rw [List.length_replicate]; omega) k
    rw [co_rep, Int.zero_add, mul_mono, if_pos (by omega), Nat.sub_zero] at this
    exact this
def Cg (p : Int) (F f g : Po) : Prop := ∃ n q, Bd p n q ∧ Eq' p f fun i => mulP q F i + g i
def Fi (p : Int) (f : Po) : Prop := ∃ n, Bd p n f
theorem fi_co (p : Int) (l : List Int) : Fi p (co l) := ⟨_, co_bd p l⟩
theorem Fi.mul {p : Int} {f g : Po} (a : Fi p f) (b : Fi p g) : Fi p (mulP f g) := by
  obtain ⟨n, hn⟩ := a; obtain ⟨m, hm⟩ := b
  exact ⟨_, hn.mul hm⟩
theorem Cg.of {p : Int} {F f g : Po} (h : Eq' p f g) : Cg p F f g := ⟨0, fun _ => 0, fun k _ => Int.dvd_zero p, fun k => by
  show p ∣ f k - (mulS k (fun _ => 0) F + g k)
  rw [mulS_zero, Int.zero_add]; exact h k⟩
theorem Cg.rf {p : Int} {F f : Po} : Cg p F f f := .of Eq'.rfl'
theorem mul_neg1 (q F : Po) (k : Nat) : mulP (fun i => (-1) * q i) F k = - mulP q F k := by
  show mulS k _ _ = - mulS k _ _
  rw [mulS_smul_left]; omega
theorem Cg.sy {p : Int} {F f g : Po} (h : Cg p F f g) : Cg p F g f := by
  obtain ⟨n, q, hq, e⟩ := h
  refine ⟨n, fun i => (-1) * q i, fun k hk => Int.dvd_mul_of_dvd_right (hq k hk), fun k => ?_⟩
  show p ∣ g k - (mulP (fun i => (-1) * q i) F k + f k)
  rw [mul_neg1]
  have := Int.dvd_neg.mpr (e k)
  rwa [show -(f k - (mulP q F k + g k)) = g k - (- mulP q F k + f k) by omega] at this
theorem mul_sum (q q2 F : Po) (k : Nat) : mulP (fun i => q i + q2 i) F k = mulP q F k + mulP q2 F k := mulS_add_left _ _ _ _
theorem Cg.tr {p : Int} {F f g h : Po} (a : Cg p F f g) (b : Cg p F g h) : Cg p F f h := by
  obtain ⟨n, q, hq, e⟩ := a; obtain ⟨n2, q2, hq2, e2⟩ := b
  refine ⟨n + n2, fun i => q i + q2 i, fun k hk => Int.dvd_add (hq k (by omega)) (hq2 k (by omega)), fun k => ?_⟩
  show p ∣ f k - (mulP (fun i => q i + q2 i) F k + h k)
  rw [mul_sum]
  have := Int.dvd_add (e k) (e2 k)
  rwa [show f k - (mulP q F k + g k) + (g k - (mulP q2 F k + h k)) = f k - (mulP q F k + mulP q2 F k + h k) by omega] at this
theorem Cg.add {p : Int} {F f g f2 g2 : Po} (a : Cg p F f g) (b : Cg p F f2 g2) : Cg p F (fun i => f i + f2 i) (fun i => g i + g2 i) := by
  obtain ⟨n, q, hq, e⟩ := a; obtain ⟨n2, q2, hq2, e2⟩ := b
  refine ⟨n + n2, fun i => q i + q2 i, fun k hk => Int.dvd_add (hq k (by omega)) (hq2 k (by omega)), fun k => ?_⟩
  show p ∣ f k + f2 k - (mulP (fun i => q i + q2 i) F k + (g k + g2 k))
  rw [mul_sum]
  have := Int.dvd_add (e k) (e2 k)
  rwa [show f k - (mulP q F k + g k) + (f2 k - (mulP q2 F k + g2 k)) = f k + f2 k - (mulP q F k + mulP q2 F k + (g k + g2 k)) by omega] at this
theorem Cg.smul {p : Int} {F f g : Po} (c : Int) (a : Cg p F f g) : Cg p F (fun i => c * f i) (fun i => c * g i) := by
  obtain ⟨n, q, hq, e⟩ := a
  refine ⟨n, fun i => c * q i, fun k hk => Int.dvd_mul_of_dvd_right (hq k hk), fun k => ?_⟩
  show p ∣ c * f k - (mulP (fun i => c * q i) F k + c * g k)
  have em : mulP (fun i => c * q i) F k = c * mulP q F k := mulS_smul_left c q F k
  rw [em, ← Int.mul_add, ← Int.mul_sub]
  exact Int.dvd_mul_of_dvd_right (e k)
theorem Cg.mul_left {p : Int} {F f g h : Po} (fh : Fi p h) (a : Cg p F f g) : Cg p F (mulP f h) (mulP g h) := by
  obtain ⟨n, q, hq, e⟩ := a
  obtain ⟨m, hm⟩ := fh
  refine ⟨_, mulP q h, hq.mul hm, ?_⟩
  refine (e.mul_left h).tr ?_
  intro k
  have e1 : mulP (fun i => mulP q F i + g i) h k = mulP (mulP q F) h k + mulP g h k := mulS_add_left _ _ _ _
  rw [e1, mulP_assoc, mulP_comm F h, ← mulP_assoc, Int.sub_self]; exact Int.dvd_zero p
theorem Cg.mul {p : Int} {F f g f2 g2 : Po} (fa : Fi p g) (fb : Fi p f2) (a : Cg p F f g) (b : Cg p F f2 g2) : Cg p F (mulP f f2) (mulP g g2) := by
  refine (a.mul_left fb).tr ?_
  rw [mulP_comm g f2, mulP_comm g g2]
  exact b.mul_left fa
def Mem (p : Int) (m : Nat) (a : List Int) : Prop := a.length = m ∧ Low p a
/-- a monic form -/
structure Fo (p : Int) (m : Nat) (F : List Int) : Prop where
  p2 : 2 ≤ p
  pb : p < 2 ^ 20
  m1 : 1 ≤ m
  m2 : m ≤ 11
  len : F.length = m + 1
  top : co F m = 1
  low : Low p F
variable {p : Int} {m : Nat} {F : List Int}
theorem Fo.uniq (h : Fo p m F) {a b : List Int} (ha : Mem p m a) (hb : Mem p m b) (e : Cg p (co F) (co a) (co b)) : a = b := by
  have p2 := h.p2
  obtain ⟨n, q, hq, e⟩ := e
  have e1 := rest_only (p := p) (by omega) h.len h.top (by rw [ha.1]; omega) ha.2 hb.1 hb.2 hq e
  have e2 := rest_only (p := p) (row := a) (r := a) (n := 0) (q := fun _ => 0) (by omega) h.len h.top (by rw [ha.1]; omega) ha.2 ha.1 ha.2 (fun k _ => Int.dvd_zero p) (fun k => by
    show p ∣ co a k - (mulS k (fun _ => 0) (co F) + co a k)
    rw [mulS_zero, Int.zero_add, Int.sub_self]; exact Int.dvd_zero p)
  rw [← e1, e2]
theorem Fo.rest (h : Fo p m F) {row : List Int} (hl : m ≤ row.length) (hr : Low p row) : Mem p m (restP p row F) ∧ Cg p (co F) (co row) (co (restP p row F)) := by
  have p2 := h.p2
  have hlen := h.len
  refine ⟨⟨by rw [restP_len (by omega), h.len]; rfl, restP_low (by omega) hr⟩, ?_⟩
  obtain ⟨q, hq, e⟩ := rest_spec (p := p) h.len h.top hl
  exact ⟨_, q, hq, e⟩
def byP (p : Int) (F a b : List Int) : List Int := restP p (mulT p a b) F
theorem Fo.by_mem (h : Fo p m F) {a b : List Int} (ha : Mem p m a) (hb : Mem p m b) : Mem p m (byP p F a b) := by
  have p2 := h.p2
  have m1 := h.m1
  exact (h.rest (by rw [mulT_len, ha.1, hb.1]; omega) (mulT_low (by omega))).1
theorem Fo.by_cg (h : Fo p m F) {a b : List Int} (ha : Mem p m a) (hb : Mem p m b) : Cg p (co F) (co (byP p F a b)) (mulP (co a) (co b)) := by
  have p2 := h.p2
  have m1 := h.m1
  exact (h.rest (by rw [mulT_len, ha.1, hb.1]; omega) (mulT_low (by omega))).2.sy.tr (.of mulT_co)
structure FldD (S : D) (p : Int) (m : Nat) (F : List Int) : Prop where
  fo : Fo p m F
  fp : fldX "Field" S "p" = some (.int p)
  fm : fldX "Field" S "m" = some (.int m)
  shape : fldX "Field" S "shape" = some (tupI F)
  one : fldX "Field" S "one" = some (tupI (1 :: List.replicate (m - 1) 0))
  nought : fldX "Field" S "nought" = some (tupI (List.replicate m 0))
  obj : objX "Field" S = some S
theorem by_f2 {S : D} {p x : Int} (hS : fldX "Field" S "p" = some (.int p)) (p0 : 0 < p) (pb : p < 2 ^ 20) (hx : 0 ≤ x ∧ x < p) (B : D) (i : Nat) : ∀ (fs : List Int) (a : Nat) (pre rest : List Int), pre.length = i + a → fs.length ≤ rest.length → Low p fs →
    foldX (m_Field_by_f2 S B (.int i) (.int x)) (enumL a (fs.map D.int)) ((pre ++ rest).map D.int) = some ((pre ++ subL p (-x) fs rest).map D.int)
  | [], _, _, _, _, _, _ => rfl
  | f :: fs, a, pre, [], _, h, _ => by simp at h
  | f :: fs, a, pre, r :: rest, hp, hl, hf => by
    rw [Low.cons] at hf
    have e : m_Field_by_f2 S B (.int i) (.int x) ((pre ++ r :: rest).map D.int) (.tup [.int a, .int f]) = some (((pre ++ [(r - -x * f) % p]) ++ rest).map D.int) := by
      unfold m_Field_by_f2
      rw [tup2X_ok, Option.bind_some, addX_i, Option.bind_some, getX_at _ _ _ _ (by omega), Option.bind_some, mulX_i (low_abs pb hx) (low_abs pb hf.1), Option.bind_some, addX_i, Option.bind_some, hS, Option.bind_some, modX_i p0, Option.bind_some, Option.bind_some, setX_at _ _ _ _ _ (by omega), Option.bind_some]
      rw [List.append_assoc, Int.neg_mul, Int.sub_neg]; rfl
    rw [List.map_cons, enumL, foldX, e, Option.bind_some, by_f2 hS p0 pb hx B i fs (a + 1) _ rest (by rw [List.length_append, List.length_singleton]; omega) (by simpa using hl) hf.2, subL, List.append_assoc]
    rfl
theorem by_f1 {S : D} {p : Int} (hS : fldX "Field" S "p" = some (.int p)) (p0 : 0 < p) (pb : p < 2 ^ 20) {b : List Int} (hb : Low p b) : ∀ (as : List Int) (i : Nat) (t : List Int), Low p as → i + as.length + b.length ≤ t.length + 1 →
    foldX (m_Field_by_f1 S (tupI b)) (enumL i (as.map D.int)) (t.map D.int) = some ((mulL p b i as t).map D.int)
  | [], _, _, _, _ => rfl
  | x :: as, i, t, ha, hl => by
    rw [Low.cons] at ha
    rw [List.length_cons] at hl
    have e : m_Field_by_f1 S (tupI b) (t.map D.int) (.tup [.int i, .int x]) = some ((t.take i ++ subL p (-x) b (t.drop i)).map D.int) := by
      unfold m_Field_by_f1
      rw [tup2X_ok, Option.bind_some]
      show ((some (enumL 0 (b.map D.int))).bind fun t8 => _) = _
      rw [Option.bind_some]
      have := by_f2 hS p0 pb ha.1 (tupI b) i b 0 (t.take i) (t.drop i) (by rw [List.length_take]; omega) (by rw [List.length_drop]; omega) hb
      rw [List.take_append_drop] at this
      show ((foldX (m_Field_by_f2 S (tupI b) (.int i) (.int x)) (enumL 0 (b.map D.int)) (t.map D.int)).bind _) = _
      rw [this, Option.bind_some]
    have hl2 : (t.take i ++ subL p (-x) b (t.drop i)).length = t.length := by
      rw [List.length_append, subL_len, ← List.length_append, List.take_append_drop]
    rw [List.map_cons, enumL, foldX, e, Option.bind_some, by_f1 hS p0 pb hb as (i + 1) _ ha.2 (by omega), mulL]
theorem rest_ok' {p : Int} (p0 : 0 < p) (pb : p < 2 ^ 20) {row form : List Int} (hf : Low p form) (hr : Low p row) (h1 : 1 ≤ form.length) (h2 : form.length ≤ row.length + 1) (h3 : 1 ≤ row.length) (hb : row.length < 1000) : m_rest_by (.int p) (.lst (row.map D.int)) (tupI form) = some (tupI (restP p row form)) := by
  obtain ⟨deg, hd⟩ : ∃ deg, form.length = deg + 1 := ⟨form.length - 1, by omega⟩
  unfold m_rest_by
  rw [listX_lst, Option.bind_some, show lenX (tupI form) = some (.int (form.map D.int).length) from rfl, Option.bind_some, subX_i, Option.bind_some, lenX_lst, Option.bind_some, subX_i, Option.bind_some, subX_i, Option.bind_some, List.length_map, List.length_map, hd, show (((deg + 1 : Nat) : Int) - 1) = deg by omega,
    rg3_down (by omega) (by omega), Option.bind_some]
  have e := rest_fold p0 pb hf hd (row.length - deg) row (by omega) hr
  rw [show (deg : Int) + ((row.length - deg : Nat) : Int) - 1 = (row.length : Int) - 1 by omega] at e
  rw [show ((row.length : Int) - 1 - ((deg : Int) - 1)).toNat = row.length - deg by omega, e, Option.bind_some]
  show ((some (deg : Int)).bind fun t22 => _) = _
  rw [Option.bind_some, slX_lst, cut_takeF _ _ (by rw [List.length_map, remL_len]; omega), Option.bind_some, tupleX_lst, Option.bind_some]
  unfold restP
  rw [hd, ← List.map_take]
  rfl
theorem FldD.by_ok {S : D} (h : FldD S p m F) {a b : List Int} (ha : Mem p m a) (hb : Mem p m b) : m_Field_by S (tupI a) (tupI b) = some (tupI (byP p F a b)) := by
  have sz := size_def
  have p2 := h.fo.p2
  have m1 := h.fo.m1
  have m2 := h.fo.m2
  have pb := h.fo.pb
  have hlen := h.fo.len
  unfold m_Field_by
  rw [h.fm, Option.bind_some, mulX_i (by decide) (by omega), Option.bind_some, subX_i, Option.bind_some]
  have e0 : mulLX (.lst [.int 0]) (.int (2 * (m : Int) - 1)) = some ((List.replicate (a.length + b.length - 1) (0 : Int)).map D.int) := by
    show (if _ then some (List.replicate (2 * (m : Int) - 1).toNat [D.int 0]).flatten else none) = _
    have hn : (2 * (m : Int) - 1).toNat = a.length + b.length - 1 := by rw [ha.1, hb.1]; omega
    rw [if_pos (by refine ⟨⟨by omega, by omega⟩, ?_⟩; rw [hn, ha.1, hb.1]; show 1 * _ ≤ _; omega), hn, List.map_replicate]
    congr 1
    generalize a.length + b.length - 1 = n
    induction n with
    | zero => rfl
    | succ n ih => rw [List.replicate_succ, List.flatten_cons, ih]; rfl
  rw [e0, Option.bind_some]
  show ((some (enumL 0 (a.map D.int))).bind fun t5 => _) = _
  rw [Option.bind_some, by_f1 h.fp (by omega) pb hb.2 a 0 _ ha.2 (by rw [List.length_replicate]; omega), Option.bind_some, h.fp, Option.bind_some, h.shape, Option.bind_some]
  show ((m_rest_by (.int p) (.lst ((mulT p a b).map D.int)) (tupI F)).bind _) = _
  have ml : (mulT p a b).length = 2 * m - 1 := by rw [mulT_len, ha.1, hb.1]; omega
  rw [rest_ok' (by omega) pb h.fo.low (mulT_low (by omega)) (by omega) (by omega) (by omega) (by omega), Option.bind_some]; rfl
end
section
def powP (f : Po) : Nat → Po
  | 0 => mono 0
  | k + 1 => mulP (powP f k) f
theorem mul_one_l (f : Po) : mulP (mono 0) f = f := funext fun k => by rw [mul_mono, if_pos (Nat.zero_le k), Nat.sub_zero]
theorem mul_one_r (f : Po) : mulP f (mono 0) = f := by rw [mulP_comm, mul_one_l]
theorem powP_add (f : Po) (j : Nat) : ∀ k, powP f (j + k) = mulP (powP f j) (powP f k)
  | 0 => by rw [Nat.add_zero]; exact (mul_one_r _).symm
  | k + 1 => by
    show mulP (powP f (j + k)) f = mulP (powP f j) (mulP (powP f k) f)
    rw [powP_add f j k, mulP_assoc]
theorem powP_one (f : Po) : powP f 1 = f := mul_one_l f
theorem powP_mul (f : Po) (j : Nat) : ∀ k, powP f (j * k) = powP (powP f j) k
  | 0 => rfl
  | k + 1 => by
    rw [Nat.mul_succ, powP_add, powP_mul f j k]; rfl
theorem powP_sq (f : Po) (k : Nat) : powP (mulP f f) k = powP f (2 * k) := by
  rw [powP_mul]
  congr 1
  show mulP f f = mulP (powP f 1) f
  rw [powP_one]
theorem fi_mono (p : Int) (n : Nat) : Fi p (mono n) := ⟨n + 1, fun k hk => by rw [show mono n k = 0 from if_neg (by omega)]; exact Int.dvd_zero p⟩
theorem Fi.pow {p : Int} {f : Po} (h : Fi p f) : ∀ k, Fi p (powP f k)
  | 0 => fi_mono p 0
  | k + 1 => (Fi.pow h k).mul h
theorem Cg.pow {p : Int} {F f g : Po} (hf : Fi p f) (hg : Fi p g) (e : Cg p F f g) : ∀ k, Cg p F (powP f k) (powP g k)
  | 0 => .rf
  | k + 1 => (Cg.pow hf hg e k).mul (hg.pow k) hf e
def oneL (m : Nat) : List Int := 1 :: List.replicate (m - 1) 0
theorem co_one (m : Nat) : co (oneL m) = mono 0 := funext fun k => by
  cases k with
  | zero => rfl
  | succ k => exact co_rep (m - 1) k
variable {p : Int} {m : Nat} {F : List Int} {S : D}
theorem Fo.one_mem (h : Fo p m F) : Mem p m (oneL m) := by
  have p2 := h.p2
  have m1 := h.m1
  refine ⟨by show (List.replicate (m - 1) (0 : Int)).length + 1 = m; rw [List.length_replicate]; omega, fun x hx => ?_⟩
  rcases List.mem_cons.mp hx with rfl | hx
  · omega
  · rw [(List.mem_replicate.mp hx).2]; omega
def pw (p : Int) (F a : List Int) : Nat → List Int
  | 0 => oneL (F.length - 1)
  | k + 1 => byP p F (pw p F a k) a
theorem Fo.pw_mem (h : Fo p m F) {a : List Int} (ha : Mem p m a) : ∀ k, Mem p m (pw p F a k)
  | 0 => by rw [pw, h.len]; exact h.one_mem
  | k + 1 => h.by_mem (h.pw_mem ha k) ha
theorem Fo.pw_cg (h : Fo p m F) {a : List Int} (ha : Mem p m a) : ∀ k, Cg p (co F) (co (pw p F a k)) (powP (co a) k)
  | 0 => by rw [pw, h.len, show m + 1 - 1 = m from rfl, co_one]; exact .rf
  | k + 1 => (h.by_cg (h.pw_mem ha k) ha).tr ((h.pw_cg ha k).mul ((fi_co p a).pow k) (fi_co p a) .rf)
theorem pow_loop (h : FldD S p m F) : ∀ (k : Nat) (found sq : List Int), Mem p m found → Mem p m sq → ∃ r sq', whX (m_Field_power_w1 S) (.int (k : Int), tupI found, tupI sq) = some (.nx (.int 0, tupI r, tupI sq')) ∧ Mem p m r ∧ Cg p (co F) (co r) (mulP (co found) (powP (co sq) k)) := by
  intro k
  induction k using Nat.strongRecOn with
  | ind k ih =>
    intro found sq hf hs
    rw [whX_eq]
    by_cases z : k = 0
    · subst z
      have e : m_Field_power_w1 S (.int ((0 : Nat) : Int), tupI found, tupI sq) = some (.dn (.int 0, tupI found, tupI sq)) := by
        unfold m_Field_power_w1
        dsimp only
        rw [gtX_i, Option.bind_some, decide_eq_false (by omega), if_neg (by decide)]; rfl
      rw [e, Option.bind_some, WH.cs_dn]
      refine ⟨found, sq, rfl, hf, ?_⟩
      show Cg p (co F) (co found) (mulP (co found) (mono 0))
      rw [mul_one_r]; exact .rf
    · have hss := h.fo.by_mem hs hs
      have css := h.fo.by_cg hs hs
      obtain ⟨f2, ef, hf2, cf2⟩ : ∃ f2, m_Field_power_j2 S (.int ((k / 2 : Nat) : Int)) (tupI found) (tupI sq) (.int ((k % 2 : Nat) : Int)) = some (tupI f2) ∧ Mem p m f2 ∧ Cg p (co F) (co f2) (mulP (co found) (powP (co sq) (k % 2))) := by
        unfold m_Field_power_j2
        rw [eqX_i, Option.bind_some]
        by_cases y : k % 2 = 1
        · rw [decide_eq_true (by omega), if_pos rfl, h.obj, Option.bind_some, h.by_ok hf hs, Option.bind_some]
          refine ⟨_, rfl, h.fo.by_mem hf hs, ?_⟩
          rw [y, powP_one]
          exact h.fo.by_cg hf hs
        · rw [decide_eq_false (by omega), if_neg (by decide)]
          refine ⟨found, rfl, hf, ?_⟩
          rw [show k % 2 = 0 by omega]
          show Cg p (co F) (co found) (mulP (co found) (mono 0))
          rw [mul_one_r]; exact .rf
      have e : m_Field_power_w1 S (.int (k : Int), tupI found, tupI sq) = some (.go (.int ((k / 2 : Nat) : Int), tupI f2, tupI (byP p F sq sq))) := by
        unfold m_Field_power_w1
        dsimp only
        rw [gtX_i, Option.bind_some, decide_eq_true (by omega), if_pos rfl]
        have ed : divmodX (.int (k : Int)) (.int 2) = some (.tup [.int ((k / 2 : Nat) : Int), .int ((k % 2 : Nat) : Int)]) := by
          show (if (0 : Int) < 2 ∧ (2 : Int) < 1073741824 then some (D.tup [.int ((k : Int) / 2), .int ((k : Int) % 2)]) else none) = _
          rw [if_pos (by decide)]; rfl
        rw [ed, Option.bind_some, tup2X_ok, Option.bind_some, ef, Option.bind_some, h.obj, Option.bind_some, h.by_ok hs hs, Option.bind_some]
      obtain ⟨r, sq', er, hr, cr⟩ := ih (k / 2) (by omega) f2 (byP p F sq sq) hf2 hss
      refine ⟨r, sq', by rw [e, Option.bind_some, WH.cs_go, er], hr, ?_⟩
      refine cr.tr ?_
      have c1 := (Cg.pow (fi_co p _) ((fi_co p sq).mul (fi_co p sq)) css (k / 2))
      rw [powP_sq] at c1
      have c2 := cf2.mul ((fi_co p found).mul ((fi_co p sq).pow _)) ((fi_co p _).pow _) c1
      rw [mulP_assoc, ← powP_add, show k % 2 + 2 * (k / 2) = k by omega] at c2
      exact c2
theorem FldD.power_ok (h : FldD S p m F) {a : List Int} (ha : Mem p m a) (k : Nat) : m_Field_power S (tupI a) (.int (k : Int)) = some (tupI (pw p F a k)) := by
  unfold m_Field_power
  rw [h.one, Option.bind_some]
  obtain ⟨r, sq', e, hr, c⟩ := pow_loop h k (oneL m) a h.fo.one_mem ha
  show ((whX (m_Field_power_w1 S) (.int (k : Int), tupI (oneL m), tupI a)).bind _) = _
  rw [e, Option.bind_some, SO.cs_nx]
  rw [co_one, mul_one_l] at c
  have := h.fo.uniq hr (h.fo.pw_mem ha k) (c.tr (h.fo.pw_cg ha k).sy)
  rw [this]
theorem zipI (sp rs : List Int) : zip2X (tupI sp) (tupI rs) = some ((sp.zip rs).map fun p => .tup [.int p.1, .int p.2]) := by
  show some (zip2L _ _) = _
  rw [zip2L_zip, List.zip_map_left, List.map_map]
  rfl
theorem flat_rep {α : Type} (n : Nat) (x : α) : (List.replicate n [x]).flatten = List.replicate n x := by
  induction n with
  | zero => rfl
  | succ n ih => rw [List.replicate_succ, List.flatten_cons, ih]; rfl
theorem rep0 {m : Nat} (hm : m ≤ 11) : mulAX (.tup [.int 0]) (.int m) = some (tupI (List.replicate m 0)) := by
  show (if _ then some (D.tup (List.replicate ((m : Nat) : Int).toNat [D.int 0]).flatten) else none) = _
  rw [if_pos (by refine ⟨by omega, by omega, by decide⟩), Int.toNat_natCast, flat_rep]
  unfold tupI
  rw [List.map_replicate]
def addZ (p one : Int) (t v : List Int) : List Int := (t.zip v).map fun q => (q.1 + one * q.2) % p
def movZ (p top : Int) (F u : List Int) : List Int := ((0 :: u).zip F.dropLast).map fun q => (q.1 - top * q.2) % p
theorem co_zip {f : Int × Int → Int} (f0 : f (0, 0) = 0) : ∀ {a b : List Int} (k : Nat), a.length = b.length → co ((a.zip b).map f) k = f (co a k, co b k)
  | [], [], k, _ => f0.symm
  | [], _ :: _, _, h => by cases h
  | _ :: _, [], _, h => by cases h
  | _ :: _, _ :: _, 0, _ => rfl
  | x :: a, y :: b, k + 1, h => co_zip (a := a) (b := b) f0 k (by simpa using h)
theorem cut_last (l : List Int) (h : 1 ≤ l.length) : cutD (l.map D.int) none (some (-1)) = l.dropLast.map D.int := by
  unfold cutD
  rw [HT.sIx_none]
  have : HT.sIx (l.map D.int).length (l.map D.int).length (some (-1)) = l.length - 1 := by
    show (if (-1 : Int) < 0 then ((-1 : Int) + ((l.map D.int).length : Int)).toNat else min (-1 : Int).toNat (l.map D.int).length) = _
    rw [if_pos (by decide), List.length_map]; omega
  rw [this, List.drop_zero, Nat.sub_zero, ← List.map_take, ← List.dropLast_eq_take]
theorem last_ok (u : List Int) (t : Int) : getX (tupI (u ++ [t])) (.int (-1)) = some (.int t) := by
  have := get_last (u.map D.int) (.int t)
  show L2.atI ((u ++ [t]).map D.int) (-1) = _
  rw [List.map_append]
  exact this
theorem lby_f1 (h : Fo p m F) {total u : List Int} {t one : Int} (ht : Mem p m total) (hv : Mem p m (u ++ [t])) (ho : 0 ≤ one ∧ one < p) : m_law_by_f1 (.int p) (tupI F) (tupI total, tupI (u ++ [t])) (.int one) = some (tupI (addZ p one total (u ++ [t])), tupI (movZ p t F u)) := by
  have sz := size_def
  have p2 := h.p2
  have pb := h.pb
  have m1 := h.m1
  have m2 := h.m2
  have hlen := h.len
  have htb : 0 ≤ t ∧ t < p := hv.2 t (by simp)
  have ul : u.length = m - 1 := by have := hv.1; rw [List.length_append, List.length_singleton] at this; omega
  unfold m_law_by_f1
  rw [zipI, Option.bind_some, mapX_map (fun q : Int × Int => D.tup [.int q.1, .int q.2]) (fun q => .int ((q.1 + one * q.2) % p)) _ (by rw [List.length_zip, ht.1, hv.1]; omega) fun q hq => by
    have h2 := hv.2 q.2 (List.of_mem_zip hq).2
    unfold m_law_by_c2
    rw [tup2X_ok, Option.bind_some, mulX_i (by omega) (by omega), Option.bind_some, addX_i, Option.bind_some, modX_i (by omega), Option.bind_some]]
  rw [Option.bind_some, tupleX_lst, Option.bind_some, last_ok, Option.bind_some, show tupI (u ++ [t]) = .tup ((u ++ [t]).map D.int) from rfl, slX_tup, cut_last _ (by simp), List.dropLast_concat, Option.bind_some, addX_tup (by rw [List.length_map]; show 1 + _ ≤ _; omega), Option.bind_some, show tupI F = .tup (F.map D.int) from rfl, slX_tup, cut_last _ (by omega), Option.bind_some]
  rw [show (D.tup ([D.int 0] ++ u.map D.int)) = tupI (0 :: u) from rfl, show D.tup (F.dropLast.map D.int) = tupI F.dropLast from rfl, zipI, Option.bind_some, mapX_map (fun q : Int × Int => D.tup [.int q.1, .int q.2]) (fun q => .int ((q.1 - t * q.2) % p)) _ (by rw [List.length_zip, List.length_cons, ul]; omega) fun q hq => by
    have h2 := h.low q.2 (List.dropLast_subset _ (List.of_mem_zip hq).2)
    unfold m_law_by_c3
    rw [tup2X_ok, Option.bind_some, mulX_i (by omega) (by omega), Option.bind_some, subX_i, Option.bind_some, modX_i (by omega), Option.bind_some]]
  rw [Option.bind_some, tupleX_lst, Option.bind_some]
  unfold addZ movZ tupI
  rw [List.map_map, List.map_map]
  rfl
theorem addZ_mem (h : Fo p m F) {one : Int} {t v : List Int} (ht : Mem p m t) (hv : Mem p m v) : Mem p m (addZ p one t v) := by
  have p2 := h.p2
  refine ⟨by unfold addZ; rw [List.length_map, List.length_zip, ht.1, hv.1, Nat.min_self], fun x hx => ?_⟩
  obtain ⟨q, _, rfl⟩ := List.mem_map.mp hx
  exact ⟨Int.emod_nonneg _ (by omega), Int.emod_lt_of_pos _ (by omega)⟩
theorem addZ_co {one : Int} {t v : List Int} (ht : Mem p m t) (hv : Mem p m v) : Eq' p (co (addZ p one t v)) (fun k => co t k + one * co v k) := fun k => by
  unfold addZ
  rw [co_zip (by show (0 + one * 0) % p = 0; rw [Int.mul_zero]; exact Int.zero_emod p) k (by rw [ht.1, hv.1])]
  exact emod_dvd p (co t k + one * co v k)
theorem movZ_mem (h : Fo p m F) {t : Int} {u : List Int} (hv : Mem p m (u ++ [t])) : Mem p m (movZ p t F u) := by
  have p2 := h.p2
  have m1 := h.m1
  have ul : u.length = m - 1 := by have := hv.1; rw [List.length_append, List.length_singleton] at this; omega
  refine ⟨by unfold movZ; rw [List.length_map, List.length_zip, List.length_cons, List.length_dropLast, h.len, ul]; omega, fun x hx => ?_⟩
  obtain ⟨q, _, rfl⟩ := List.mem_map.mp hx
  exact ⟨Int.emod_nonneg _ (by omega), Int.emod_lt_of_pos _ (by omega)⟩
theorem co_dropLast {F : List Int} {k : Nat} : co F.dropLast k = if k < F.length - 1 then co F k else 0 := by
  rw [List.dropLast_eq_take, co_take]
theorem movZ_cg (h : Fo p m F) {t : Int} {u : List Int} (hv : Mem p m (u ++ [t])) : Cg p (co F) (co (movZ p t F u)) (mulP (mono 1) (co (u ++ [t]))) := by
  have m1 := h.m1
  have ul : u.length = m - 1 := by have := hv.1; rw [List.length_append, List.length_singleton] at this; omega
  refine Cg.sy ⟨1, fun i => t * mono 0 i, fun k hk => by
    show p ∣ t * mono 0 k
    rw [show mono 0 k = 0 from if_neg (by omega), Int.mul_zero]; exact Int.dvd_zero p, fun k => ?_⟩
  have em : mulP (fun i => t * mono 0 i) (co F) k = t * co F k := by
    show mulS k _ _ = _
    rw [mulS_smul_left]
    show t * mulP (mono 0) (co F) k = _
    rw [mul_one_l]
  show p ∣ mulP (mono 1) (co (u ++ [t])) k - (mulP (fun i => t * mono 0 i) (co F) k + co (movZ p t F u) k)
  have c0 : co (0 :: u) k = if k < m then mulP (mono 1) (co (u ++ [t])) k else 0 := by
    cases k with
    | zero => rw [if_pos (by omega), mul_mono]; rfl
    | succ k =>
      show co u k = _
      rw [mul_mono, if_pos (show 1 ≤ k + 1 by omega), Nat.add_sub_cancel, co_app, ul]
      by_cases z : k + 1 < m
      · rw [if_pos z, if_pos (by omega)]
      · rw [if_neg z, co_out (by omega)]
  unfold movZ
  rw [em, co_zip (by show (0 - t * 0) % p = 0; rw [Int.mul_zero]; exact Int.zero_emod p) k (by rw [List.length_cons, List.length_dropLast, h.len, ul]; omega), co_dropLast, h.len, show m + 1 - 1 = m from rfl, c0]
  by_cases z : k < m
  · rw [if_pos z, if_pos z]
    have := Int.dvd_neg.mpr (emod_dvd p (mulP (mono 1) (co (u ++ [t])) k - t * co F k))
    rwa [show -((mulP (mono 1) (co (u ++ [t])) k - t * co F k) % p - (mulP (mono 1) (co (u ++ [t])) k - t * co F k)) = mulP (mono 1) (co (u ++ [t])) k - (t * co F k + (mulP (mono 1) (co (u ++ [t])) k - t * co F k) % p) by omega] at this
  · rw [if_neg z, if_neg z, mul_mono, if_pos (by omega)]
    show p ∣ co (u ++ [t]) (k - 1) - (t * co F k + (0 - t * 0) % p)
    rw [Int.mul_zero, Int.sub_zero, Int.zero_emod, Int.add_zero]
    by_cases y : k = m
    · subst y
      rw [h.top, co_app, ul, if_neg (by omega), Nat.sub_self, Int.mul_one]
      show p ∣ t - t
      rw [Int.sub_self]; exact Int.dvd_zero p
    · rw [co_out (by rw [hv.1]; omega), co_out (a := F) (by rw [h.len]; omega), Int.mul_zero, Int.sub_self]; exact Int.dvd_zero p
theorem mem_split (h : Fo p m F) {v : List Int} (hv : Mem p m v) : ∃ u t, v = u ++ [t] := by
  have m1 := h.m1
  rcases List.eq_nil_or_concat v with rfl | ⟨u, t, e⟩
  · have := hv.1; simp at this; omega
  · exact ⟨u, t, by rw [e, List.concat_eq_append]⟩
theorem lby_fold (h : Fo p m F) {b : List Int} (hb : Mem p m b) : ∀ (as : List Int) (total v : List Int) (i : Nat), Low p as → Mem p m total → Mem p m v → Cg p (co F) (co v) (mulP (mono i) (co b)) →
    ∃ total' v', foldX (m_law_by_f1 (.int p) (tupI F)) (as.map D.int) (tupI total, tupI v) = some (tupI total', tupI v') ∧ Mem p m total' ∧ Cg p (co F) (co total') (fun k => co total k + mulP (mono i) (mulP (co as) (co b)) k)
  | [], total, v, i, _, ht, hv, _ => ⟨total, v, rfl, ht, .of fun k => by
      have e : mulP (co []) (co b) = fun _ => 0 := funext fun j => mulS_zero _ j
      rw [e]
      show p ∣ co total k - (co total k + mulP (mono i) (fun _ => 0) k)
      rw [mul_mono, ite_self, Int.add_zero, Int.sub_self]; exact Int.dvd_zero p⟩
  | x :: as, total, v, i, ha, ht, hv, hc => by
    rw [Low.cons] at ha
    obtain ⟨u, t, rfl⟩ := mem_split h hv
    have e := lby_f1 h ht hv ha.1
    have cm := movZ_cg h hv
    have c1 : Cg p (co F) (co (movZ p t F u)) (mulP (mono (i + 1)) (co b)) := by
      refine cm.tr ?_
      refine (Cg.mul (f := mono 1) (g := mono 1) (fi_mono p 1) (fi_co p _) .rf hc).tr ?_
      rw [← mulP_assoc]
      have : mulP (mono 1) (mono i) = mono (i + 1) := funext fun k => by
        rw [mul_mono]
        show (if 1 ≤ k then (if k - 1 = i then (1 : Int) else 0) else 0) = if k = i + 1 then 1 else 0
        by_cases z : k = i + 1
        · rw [if_pos z, if_pos (by omega), if_pos (by omega)]
        · rw [if_neg z]
          by_cases y : 1 ≤ k
          · rw [if_pos y, if_neg (by omega)]
          · rw [if_neg y]
      rw [this]; exact .rf
    obtain ⟨total', v', e2, h2, c2⟩ := lby_fold h hb as (addZ p x total (u ++ [t])) (movZ p t F u) (i + 1) ha.2 (addZ_mem h ht hv) (movZ_mem h hv) c1
    refine ⟨total', v', ?_, h2, ?_⟩
    · rw [List.map_cons, foldX, e, Option.bind_some, e2]
    · refine c2.tr ?_
      refine (Cg.add (f2 := fun k => mulP (mono (i + 1)) (mulP (co as) (co b)) k) (.of (addZ_co ht hv)) .rf).tr ?_
      refine (Cg.add (Cg.add (f := co total) .rf (hc.smul x)) .rf).tr (.of fun k => ?_)
      have e3 : mulP (mono i) (mulP (co (x :: as)) (co b)) k = x * mulP (mono i) (co b) k + mulP (mono (i + 1)) (mulP (co as) (co b)) k := by
        rw [mul_mono, mul_mono, mul_mono]
        by_cases z : i ≤ k
        · rw [if_pos z, if_pos z]
          by_cases y : k = i
          · subst y
            rw [if_neg (by omega), Nat.sub_self, Int.add_zero]; rfl
          · rw [if_pos (by omega)]
            obtain ⟨j, hj⟩ : ∃ j, k - i = j + 1 := ⟨k - i - 1, by omega⟩
            rw [hj, show k - (i + 1) = j by omega]; rfl
        · rw [if_neg z, if_neg z, if_neg (by omega), Int.mul_zero]; rfl
      show p ∣ co total k + x * mulP (mono i) (co b) k + mulP (mono (i + 1)) (mulP (co as) (co b)) k - (co total k + mulP (mono i) (mulP (co (x :: as)) (co b)) k)
      rw [e3, show co total k + x * mulP (mono i) (co b) k + mulP (mono (i + 1)) (mulP (co as) (co b)) k - (co total k + (x * mulP (mono i) (co b) k + mulP (mono (i + 1)) (mulP (co as) (co b)) k)) = 0 by omega]
      exact Int.dvd_zero p
theorem Fo.rep_mem (h : Fo p m F) : Mem p m (List.replicate m 0) := ⟨List.length_replicate, low_rep0 (by have := h.p2; omega) m⟩
theorem Fo.lby_ok (h : Fo p m F) {a b : List Int} (ha : Mem p m a) (hb : Mem p m b) : m_law_by (.int p) (tupI F) (tupI a) (tupI b) = some (tupI (byP p F a b)) := by
  have m2 := h.m2
  unfold m_law_by
  rw [show lenX (tupI F) = some (.int (F.map D.int).length) from rfl, Option.bind_some, List.length_map, h.len, subX_i, Option.bind_some, show (((m + 1 : Nat) : Int) - 1) = (m : Int) by omega, rep0 m2, Option.bind_some, show itX (tupI a) = some (a.map D.int) from rfl, Option.bind_some]
  obtain ⟨t', v', e, ht, c⟩ := lby_fold h hb a (List.replicate m 0) b 0 ha.2 h.rep_mem hb (by rw [mul_one_l]; exact .rf)
  rw [e, Option.bind_some]
  have : t' = byP p F a b := by
    refine h.uniq ht (h.by_mem ha hb) (c.tr (Cg.tr (.of fun k => ?_) (h.by_cg ha hb).sy))
    show p ∣ co (List.replicate m 0) k + mulP (mono 0) (mulP (co a) (co b)) k - mulP (co a) (co b) k
    rw [co_rep, mul_one_l, Int.zero_add, Int.sub_self]; exact Int.dvd_zero p
  rw [this]
theorem one_ok (hm : m ≤ 11) (m1 : 1 ≤ m) : addX (.tup [.int 1]) (tupI (List.replicate (m - 1) 0)) = some (tupI (oneL m)) := by
  have sz := size_def
  rw [show tupI (List.replicate (m - 1) 0) = .tup ((List.replicate (m - 1) 0).map D.int) from rfl, addX_tup (by rw [List.length_map, List.length_replicate]; show 1 + _ ≤ _; omega)]
  rfl
end
section
def pwB (p : Int) (F : List Int) : Nat → Nat → List Int → List Int → List Int
  | 0, _, f, _ => f
  | n + 1, k, f, s => if k = 0 then f else pwB p F n (k / 2) (if k % 2 = 1 then byP p F f s else f) (byP p F s s)
def chkG (p : Nat) (m : Nat) (F g : List Int) : Bool := decide (pwB p F 12 (p ^ m - 1) (oneL m) g = oneL m) && (List.range (p ^ m)).all fun r => decide (r < 2) || decide ((p ^ m - 1) % r ≠ 0) || !decide (pwB p F 12 ((p ^ m - 1) / r) (oneL m) g = oneL m)
variable {p : Int} {m : Nat} {F : List Int} {S : D}
theorem pwB_ok (h : Fo p m F) : ∀ (n k : Nat) (f s : List Int), k < 2 ^ n → Mem p m f → Mem p m s → Mem p m (pwB p F n k f s) ∧ Cg p (co F) (co (pwB p F n k f s)) (mulP (co f) (powP (co s) k))
  | 0, k, f, s, hk, hf, hs => by
    have : k = 0 := by omega
    subst this
    refine ⟨hf, ?_⟩
    show Cg p (co F) (co f) (mulP (co f) (mono 0))
    rw [mul_one_r]; exact .rf
  | n + 1, k, f, s, hk, hf, hs => by
    rw [pwB]
    by_cases z : k = 0
    · subst z
      rw [if_pos rfl]
      refine ⟨hf, ?_⟩
      show Cg p (co F) (co f) (mulP (co f) (mono 0))
      rw [mul_one_r]; exact .rf
    · rw [if_neg z]
      have hss := h.by_mem hs hs
      have css := h.by_cg hs hs
      obtain ⟨f2, ef, hf2, cf2⟩ : ∃ f2, (if k % 2 = 1 then byP p F f s else f) = f2 ∧ Mem p m f2 ∧ Cg p (co F) (co f2) (mulP (co f) (powP (co s) (k % 2))) := by
        by_cases y : k % 2 = 1
        · rw [if_pos y]
          refine ⟨_, rfl, h.by_mem hf hs, ?_⟩
          rw [y, powP_one]
          exact h.by_cg hf hs
        · rw [if_neg y]
          refine ⟨f, rfl, hf, ?_⟩
          rw [show k % 2 = 0 by omega]
          show Cg p (co F) (co f) (mulP (co f) (mono 0))
          rw [mul_one_r]; exact .rf
      rw [ef]
      obtain ⟨h1, c⟩ := pwB_ok h n (k / 2) f2 (byP p F s s) (by rw [Nat.pow_succ] at hk; omega) hf2 hss
      refine ⟨h1, c.tr ?_⟩
      have c1 := (Cg.pow (fi_co p _) ((fi_co p s).mul (fi_co p s)) css (k / 2))
      rw [powP_sq] at c1
      have c2 := cf2.mul ((fi_co p f).mul ((fi_co p s).pow _)) ((fi_co p _).pow _) c1
      rw [mulP_assoc, ← powP_add, show k % 2 + 2 * (k / 2) = k by omega] at c2
      exact c2
theorem pwB_pw (h : Fo p m F) {g : List Int} (hg : Mem p m g) {n k : Nat} (hk : k < 2 ^ n) : pwB p F n k (oneL m) g = pw p F g k := by
  obtain ⟨h1, c⟩ := pwB_ok h n k (oneL m) g hk h.one_mem hg
  rw [co_one, mul_one_l] at c
  exact h.uniq h1 (h.pw_mem hg k) (c.tr (h.pw_cg hg k).sy)
/-- whether a power is the one -/
def Un (p : Int) (F f : Po) : Prop := Cg p F f (mono 0)
theorem Fo.pw_un (h : Fo p m F) {g : List Int} (hg : Mem p m g) {k : Nat} : pw p F g k = oneL m ↔ Un p (co F) (powP (co g) k) := by
  constructor
  · intro e
    have := (h.pw_cg hg k).sy
    rw [e, co_one] at this
    exact this
  · intro e
    refine h.uniq (h.pw_mem hg k) h.one_mem ?_
    rw [co_one]
    exact (h.pw_cg hg k).tr e
theorem un_mul {F f : Po} {a : Nat} (hf : Fi p f) (h : Un p F (powP f a)) : ∀ k, Un p F (powP f (a * k))
  | 0 => .rf
  | k + 1 => by
    rw [Nat.mul_succ, powP_add]
    have := (un_mul hf h k).mul (fi_mono p 0) (hf.pow a) h
    rwa [mul_one_l] at this
theorem un_left {F f : Po} {a b : Nat} (hf : Fi p f) (h : Un p F (powP f a)) (h2 : Un p F (powP f (a + b))) : Un p F (powP f b) := by
  rw [powP_add] at h2
  have := h.sy.mul_left (hf.pow b)
  rw [mul_one_l] at this
  exact this.tr h2
theorem un_gcd {F f : Po} (hf : Fi p f) (a b : Nat) : Un p F (powP f a) → Un p F (powP f b) → Un p F (powP f (Nat.gcd a b)) := by
  refine Nat.gcd.induction (P := fun a b => Un p F (powP f a) → Un p F (powP f b) → Un p F (powP f (Nat.gcd a b))) a b ?_ ?_
  · intro b _ hb
    rw [Nat.gcd_zero_left]; exact hb
  · intro a b ha ih h1 h2
    rw [Nat.gcd_rec]
    refine ih ?_ h1
    refine un_left hf (un_mul hf h1 (b / a)) ?_
    rw [Nat.div_add_mod]; exact h2
structure Gen (p : Int) (m : Nat) (F g : List Int) (N : Nat) : Prop where
  mem : Mem p m g
  n1 : 1 ≤ N
  q : p ^ m = N + 1
  un : Un p (co F) (powP (co g) N)
  ord : ∀ e, 0 < e → e < N → ¬ Un p (co F) (powP (co g) e)
theorem gen_of {p : Nat} {g : List Int} (h : Fo (p : Int) m F) (hg : Mem (p : Int) m g) (hq : p ^ m < 2 ^ 12) (hc : chkG p m F g = true) : Gen (p : Int) m F g (p ^ m - 1) := by
  have p2 := h.p2
  have m1 := h.m1
  have q2 : 2 ≤ p ^ m := by
    have : p ^ 1 ≤ p ^ m := Nat.pow_le_pow_right (by omega) m1
    rw [Nat.pow_one] at this
    omega
  unfold chkG at hc
  rw [Bool.and_eq_true, decide_eq_true_eq, pwB_pw h hg (by omega), h.pw_un hg] at hc
  obtain ⟨h1, h2⟩ := hc
  refine ⟨hg, by omega, by rw [← Int.natCast_pow]; omega, h1, fun e e0 e1 he => ?_⟩
  have hd := un_gcd (fi_co (p : Int) g) e (p ^ m - 1) he h1
  obtain ⟨d, hd'⟩ : ∃ d, Nat.gcd e (p ^ m - 1) = d := ⟨_, rfl⟩
  rw [hd'] at hd
  have d0 : 0 < d := by rw [← hd']; exact Nat.gcd_pos_of_pos_left _ e0
  have dl : d ≤ e := by rw [← hd']; exact Nat.gcd_le_left _ e0
  obtain ⟨r, hr⟩ : d ∣ p ^ m - 1 := by rw [← hd']; exact Nat.gcd_dvd_right _ _
  have r2 : 2 ≤ r := by
    rcases Nat.lt_or_ge r 2 with z | z
    · have : r = 0 ∨ r = 1 := by omega
      rcases this with rfl | rfl
      · omega
      · omega
    · exact z
  have rq : r < p ^ m := by
    have := Nat.le_mul_of_pos_left r d0
    omega
  have := List.all_eq_true.mp h2 r (List.mem_range.mpr rq)
  have hm : (p ^ m - 1) % r = 0 := by rw [hr]; exact Nat.mul_mod_left _ _
  have hdv : (p ^ m - 1) / r = d := by rw [hr]; exact Nat.mul_div_cancel _ (by omega)
  rw [hm, hdv, pwB_pw h hg (by omega)] at this
  have e2 := (h.pw_un hg).mpr hd
  rw [e2] at this
  simp at this
  omega
variable {g : List Int} {N : Nat}
theorem one_ne (h : Fo p m F) : oneL m ≠ List.replicate m 0 := by
  intro e
  have : co (oneL m) 0 = co (List.replicate m 0) 0 := by rw [e]
  rw [co_rep] at this
  exact absurd (show (1 : Int) = 0 from this) (by decide)
theorem co_zero' : co (List.replicate m 0) = fun _ => 0 := funext fun k => co_rep m k
theorem mul_zero_r (f : Po) : mulP f (fun _ => 0) = fun _ => 0 := by rw [mulP_comm]; exact funext fun k => mulS_zero f k
/-- no power is nought -/
theorem Gen.pw_ne (h : Fo p m F) (hG : Gen p m F g N) {i : Nat} (hi : i ≤ N) : pw p F g i ≠ List.replicate m 0 := by
  intro e
  have c := h.pw_cg hG.mem i
  rw [e, co_zero'] at c
  have c2 := c.mul_left (h := powP (co g) (N - i)) ((fi_co p g).pow _)
  rw [← powP_add, show i + (N - i) = N by omega, mulP_comm, mul_zero_r] at c2
  have c3 := c2.tr hG.un
  refine one_ne h (h.uniq h.one_mem h.rep_mem ?_)
  rw [co_one, co_zero']
  exact c3.sy
theorem Gen.pw_inj (h : Fo p m F) (hG : Gen p m F g N) {i j : Nat} (hij : i < j) (hj : j < N) : pw p F g i ≠ pw p F g j := by
  intro e
  have c1 := (h.pw_cg hG.mem i).sy
  rw [e] at c1
  have c := c1.tr (h.pw_cg hG.mem j)
  have c2 := c.mul_left (h := powP (co g) (N - i)) ((fi_co p g).pow _)
  rw [← powP_add, ← powP_add, show i + (N - i) = N by omega, show j + (N - i) = N + (j - i) by omega] at c2
  exact hG.ord (j - i) (by omega) (by omega) (un_left (fi_co p g) hG.un (c2.sy.tr hG.un))
theorem nodup_fit {α : Type} [DecidableEq α] : ∀ {l m : List α}, l.Nodup → (∀ x ∈ l, x ∈ m) → l.length ≤ m.length
  | [], m, _, _ => Nat.zero_le _
  | x :: l, m, h, hm => by
    obtain ⟨h1, h2⟩ := List.nodup_cons.mp h
    have := nodup_fit (l := l) (m := m.erase x) h2 fun y hy => (List.mem_erase_of_ne (fun e : y = x => h1 (by rw [← e]; exact hy))).mpr (hm y (List.mem_cons_of_mem _ hy))
    rw [List.length_erase_of_mem (hm x List.mem_cons_self)] at this
    have := List.length_pos_of_mem (hm x List.mem_cons_self)
    rw [List.length_cons]; omega
theorem rowsL_len {p : Int} (p0 : 0 ≤ p) (m : Nat) : ((rowsL p m).length : Int) = p ^ m := by
  unfold rowsL
  rw [spotsL_len fun n hn => by rw [(List.mem_replicate.mp hn).2]; exact p0, prodI_rep]
/-- each member but nought is a power -/
theorem Gen.all (h : Fo p m F) (hG : Gen p m F g N) {a : List Int} (ha : Mem p m a) (hz : a ≠ List.replicate m 0) : ∃ i, i < N ∧ pw p F g i = a := by
  have p2 := h.p2
  apply Classical.byContradiction
  intro no
  have nd : (a :: (List.range N).map (pw p F g)).Nodup := by
    refine List.nodup_cons.mpr ⟨fun hm => ?_, ?_⟩
    · obtain ⟨i, hi, e⟩ := List.mem_map.mp hm
      exact no ⟨i, List.mem_range.mp hi, e⟩
    · refine List.pairwise_map.mpr ?_
      refine (List.pairwise_lt_range).imp_of_mem fun {i j} _ hj hij => ?_
      exact hG.pw_inj h hij (List.mem_range.mp hj)
  have fit := nodup_fit nd (m := (rowsL p m).erase (List.replicate m 0)) fun x hx => by
    have key : Mem p m x ∧ x ≠ List.replicate m 0 := by
      rcases List.mem_cons.mp hx with rfl | hx
      · exact ⟨ha, hz⟩
      · obtain ⟨i, hi, rfl⟩ := List.mem_map.mp hx
        rw [List.mem_range] at hi
        exact ⟨h.pw_mem hG.mem i, hG.pw_ne h (by omega)⟩
    exact (List.mem_erase_of_ne key.2).mpr (rowsL_mem.mpr key.1)
  rw [List.length_erase_of_mem (rowsL_mem.mpr h.rep_mem), List.length_cons, List.length_map, List.length_range] at fit
  have := rowsL_len (p := p) (by omega) m
  have := hG.q
  omega
/-- to as many as there are but nought -/
theorem Gen.fermat (h : Fo p m F) (hG : Gen p m F g N) {a : List Int} (ha : Mem p m a) (hz : a ≠ List.replicate m 0) : Un p (co F) (powP (co a) N) := by
  obtain ⟨i, _, rfl⟩ := hG.all h ha hz
  have c := Cg.pow (fi_co p _) ((fi_co p g).pow i) (h.pw_cg hG.mem i) N
  rw [← powP_mul, Nat.mul_comm] at c
  exact c.tr (un_mul (fi_co p g) hG.un i)
end
section
structure FT4 where
  p : Nat
  m : Nat
  w : List Int
  g : List Int
def FT4.ok (q : FT4) : Bool := decide (leastP q.p q.m = some q.w) && chkG q.p q.m (q.w ++ [1]) q.g
theorem ft_0 : FT4.ok ⟨2, 1, [0], [1]⟩ = true := by decide +kernel
theorem ft_1 : FT4.ok ⟨3, 1, [0], [2]⟩ = true := by decide +kernel
theorem ft_2 : FT4.ok ⟨5, 1, [0], [2]⟩ = true := by decide +kernel
theorem ft_3 : FT4.ok ⟨7, 1, [0], [3]⟩ = true := by decide +kernel
theorem ft_4 : FT4.ok ⟨11, 1, [0], [2]⟩ = true := by decide +kernel
theorem ft_5 : FT4.ok ⟨2, 2, [1, 1], [0, 1]⟩ = true := by decide +kernel
theorem ft_6 : FT4.ok ⟨3, 2, [1, 0], [1, 1]⟩ = true := by decide +kernel
theorem ft_7 : FT4.ok ⟨2, 3, [1, 0, 1], [0, 0, 1]⟩ = true := by decide +kernel
theorem ft_8 : FT4.ok ⟨5, 2, [1, 1], [1, 3]⟩ = true := by decide +kernel
theorem ft_9 : FT4.ok ⟨3, 3, [1, 0, 2], [0, 0, 2]⟩ = true := by decide +kernel
theorem ft_10 : FT4.ok ⟨2, 4, [1, 0, 0, 1], [0, 0, 1, 0]⟩ = true := by decide +kernel
theorem ft_11 : FT4.ok ⟨7, 2, [1, 0], [1, 2]⟩ = true := by decide +kernel
theorem ft_12 : FT4.ok ⟨2, 5, [1, 0, 0, 1, 0], [0, 0, 1, 0, 0]⟩ = true := by decide +kernel
theorem ft_13 : FT4.ok ⟨3, 4, [1, 0, 1, 1], [0, 1, 1, 0]⟩ = true := by decide +kernel
theorem ft_14 : FT4.ok ⟨2, 6, [1, 0, 0, 0, 0, 1], [0, 0, 1, 0, 0, 0]⟩ = true := by decide +kernel
theorem ft_15 : FT4.ok ⟨11, 2, [1, 0], [1, 4]⟩ = true := by decide +kernel
theorem ft_16 : FT4.ok ⟨5, 3, [1, 0, 1], [0, 0, 2]⟩ = true := by decide +kernel
theorem ft_17 : FT4.ok ⟨2, 7, [1, 0, 0, 0, 0, 0, 1], [0, 0, 1, 0, 0, 0, 0]⟩ = true := by decide +kernel
theorem ft_18 : FT4.ok ⟨23, 1, [0], [5]⟩ = true := by decide +kernel
theorem ft_19 : FT4.ok ⟨101, 1, [0], [2]⟩ = true := by decide +kernel
theorem ft_20 : FT4.ok ⟨13, 2, [1, 3], [1, 6]⟩ = true := by decide +kernel
theorem ft_21 : FT4.ok ⟨3, 5, [1, 0, 0, 0, 2], [0, 0, 2, 0, 0]⟩ = true := by decide +kernel
theorem ft_22 : FT4.ok ⟨2, 8, [1, 0, 0, 0, 1, 1, 0, 1], [0, 1, 1, 0, 0, 0, 0, 0]⟩ = true := by decide +kernel
theorem ft_23 : FT4.ok ⟨17, 2, [1, 1], [1, 3]⟩ = true := by decide +kernel
theorem ft_24 : FT4.ok ⟨7, 3, [1, 0, 1], [0, 1, 5]⟩ = true := by decide +kernel
theorem ft_25 : FT4.ok ⟨2, 9, [1, 0, 0, 0, 0, 0, 0, 0, 1], [1, 1, 1, 0, 0, 0, 0, 0, 0]⟩ = true := by decide +kernel
theorem ft_26 : FT4.ok ⟨5, 4, [1, 0, 1, 1], [0, 1, 1, 0]⟩ = true := by decide +kernel
theorem ft_27 : FT4.ok ⟨3, 6, [1, 0, 0, 0, 1, 1], [0, 1, 1, 0, 0, 0]⟩ = true := by decide +kernel
theorem ft_28 : FT4.ok ⟨31, 2, [1, 0], [1, 4]⟩ = true := by decide +kernel
theorem ft_29 : FT4.ok ⟨2, 10, [1, 0, 0, 0, 0, 0, 0, 1, 0, 0], [0, 0, 1, 0, 0, 0, 0, 0, 0, 0]⟩ = true := by decide +kernel
theorem ft_30 : FT4.ok ⟨11, 3, [1, 0, 4], [0, 0, 2]⟩ = true := by decide +kernel
theorem ft_31 : FT4.ok ⟨43, 2, [1, 0], [1, 2]⟩ = true := by decide +kernel
theorem ft_32 : FT4.ok ⟨2, 11, [1, 0, 0, 0, 0, 0, 0, 0, 0, 1, 0], [0, 0, 1, 0, 0, 0, 0, 0, 0, 0, 0]⟩ = true := by decide +kernel
theorem ft_33 : FT4.ok ⟨3, 7, [1, 0, 0, 0, 0, 1, 2], [0, 0, 2, 0, 0, 0, 0]⟩ = true := by decide +kernel
theorem ft_34 : FT4.ok ⟨13, 3, [1, 0, 4], [0, 1, 2]⟩ = true := by decide +kernel
theorem ft_35 : FT4.ok ⟨2179, 1, [0], [7]⟩ = true := by decide +kernel
theorem ft_36 : FT4.ok ⟨1999, 1, [0], [3]⟩ = true := by decide +kernel
theorem ft_37 : FT4.ok ⟨211, 1, [0], [2]⟩ = true := by decide +kernel
end
section
def ftL : List FT4 := [⟨2, 1, [0], [1]⟩, ⟨3, 1, [0], [2]⟩, ⟨5, 1, [0], [2]⟩, ⟨7, 1, [0], [3]⟩, ⟨11, 1, [0], [2]⟩, ⟨2, 2, [1, 1], [0, 1]⟩, ⟨3, 2, [1, 0], [1, 1]⟩, ⟨2, 3, [1, 0, 1], [0, 0, 1]⟩, ⟨5, 2, [1, 1], [1, 3]⟩, ⟨3, 3, [1, 0, 2], [0, 0, 2]⟩, ⟨2, 4, [1, 0, 0, 1], [0, 0, 1, 0]⟩, ⟨7, 2, [1, 0], [1, 2]⟩, ⟨2, 5, [1, 0, 0, 1, 0], [0, 0, 1, 0, 0]⟩, ⟨3, 4, [1, 0, 1, 1], [0, 1, 1, 0]⟩, ⟨2, 6, [1, 0, 0, 0, 0, 1], [0, 0, 1, 0, 0, 0]⟩, ⟨11, 2, [1, 0], [1, 4]⟩, ⟨5, 3, [1, 0, 1], [0, 0, 2]⟩, ⟨2, 7, [1, 0, 0, 0, 0, 0, 1], [0, 0, 1, 0, 0, 0, 0]⟩, ⟨23, 1, [0], [5]⟩, ⟨101, 1, [0], [2]⟩, ⟨13, 2, [1, 3], [1, 6]⟩, ⟨3, 5, [1, 0, 0, 0, 2], [0, 0, 2, 0, 0]⟩, ⟨2, 8, [1, 0, 0, 0, 1, 1, 0, 1], [0, 1, 1, 0, 0, 0, 0, 0]⟩, ⟨17, 2, [1, 1], [1, 3]⟩, ⟨7, 3, [1, 0, 1], [0, 1, 5]⟩, ⟨2, 9, [1, 0, 0, 0, 0, 0, 0, 0, 1], [1, 1, 1, 0, 0, 0, 0, 0, 0]⟩, ⟨5, 4, [1, 0, 1, 1], [0, 1, 1, 0]⟩, ⟨3, 6, [1, 0, 0, 0, 1, 1], [0, 1, 1, 0, 0, 0]⟩, ⟨31, 2, [1, 0], [1, 4]⟩, ⟨2, 10, [1, 0, 0, 0, 0, 0, 0, 1, 0, 0], [0, 0, 1, 0, 0, 0, 0, 0, 0, 0]⟩, ⟨11, 3, [1, 0, 4], [0, 0, 2]⟩, ⟨43, 2, [1, 0], [1, 2]⟩, ⟨2, 11, [1, 0, 0, 0, 0, 0, 0, 0, 0, 1, 0], [0, 0, 1, 0, 0, 0, 0, 0, 0, 0, 0]⟩, ⟨3, 7, [1, 0, 0, 0, 0, 1, 2], [0, 0, 2, 0, 0, 0, 0]⟩, ⟨13, 3, [1, 0, 4], [0, 1, 2]⟩, ⟨2179, 1, [0], [7]⟩, ⟨1999, 1, [0], [3]⟩, ⟨211, 1, [0], [2]⟩]
theorem ftL_ok : ftL.all FT4.ok = true := by
  show List.all [⟨2, 1, [0], [1]⟩, ⟨3, 1, [0], [2]⟩, ⟨5, 1, [0], [2]⟩, ⟨7, 1, [0], [3]⟩, ⟨11, 1, [0], [2]⟩, ⟨2, 2, [1, 1], [0, 1]⟩, ⟨3, 2, [1, 0], [1, 1]⟩, ⟨2, 3, [1, 0, 1], [0, 0, 1]⟩, ⟨5, 2, [1, 1], [1, 3]⟩, ⟨3, 3, [1, 0, 2], [0, 0, 2]⟩, ⟨2, 4, [1, 0, 0, 1], [0, 0, 1, 0]⟩, ⟨7, 2, [1, 0], [1, 2]⟩, ⟨2, 5, [1, 0, 0, 1, 0], [0, 0, 1, 0, 0]⟩, ⟨3, 4, [1, 0, 1, 1], [0, 1, 1, 0]⟩, ⟨2, 6, [1, 0, 0, 0, 0, 1], [0, 0, 1, 0, 0, 0]⟩, ⟨11, 2, [1, 0], [1, 4]⟩, ⟨5, 3, [1, 0, 1], [0, 0, 2]⟩, ⟨2, 7, [1, 0, 0, 0, 0, 0, 1], [0, 0, 1, 0, 0, 0, 0]⟩, ⟨23, 1, [0], [5]⟩, ⟨101, 1, [0], [2]⟩, ⟨13, 2, [1, 3], [1, 6]⟩, ⟨3, 5, [1, 0, 0, 0, 2], [0, 0, 2, 0, 0]⟩, ⟨2, 8, [1, 0, 0, 0, 1, 1, 0, 1], [0, 1, 1, 0, 0, 0, 0, 0]⟩, ⟨17, 2, [1, 1], [1, 3]⟩, ⟨7, 3, [1, 0, 1], [0, 1, 5]⟩, ⟨2, 9, [1, 0, 0, 0, 0, 0, 0, 0, 1], [1, 1, 1, 0, 0, 0, 0, 0, 0]⟩, ⟨5, 4, [1, 0, 1, 1], [0, 1, 1, 0]⟩, ⟨3, 6, [1, 0, 0, 0, 1, 1], [0, 1, 1, 0, 0, 0]⟩, ⟨31, 2, [1, 0], [1, 4]⟩, ⟨2, 10, [1, 0, 0, 0, 0, 0, 0, 1, 0, 0], [0, 0, 1, 0, 0, 0, 0, 0, 0, 0]⟩, ⟨11, 3, [1, 0, 4], [0, 0, 2]⟩, ⟨43, 2, [1, 0], [1, 2]⟩, ⟨2, 11, [1, 0, 0, 0, 0, 0, 0, 0, 0, 1, 0], [0, 0, 1, 0, 0, 0, 0, 0, 0, 0, 0]⟩, ⟨3, 7, [1, 0, 0, 0, 0, 1, 2], [0, 0, 2, 0, 0, 0, 0]⟩, ⟨13, 3, [1, 0, 4], [0, 1, 2]⟩, ⟨2179, 1, [0], [7]⟩, ⟨1999, 1, [0], [3]⟩, ⟨211, 1, [0], [2]⟩] FT4.ok = true
  simp only [List.all_cons, List.all_nil, Bool.and_true, ft_0, ft_1, ft_2, ft_3, ft_4, ft_5, ft_6, ft_7, ft_8, ft_9, ft_10, ft_11, ft_12, ft_13, ft_14, ft_15, ft_16, ft_17, ft_18, ft_19, ft_20, ft_21, ft_22, ft_23, ft_24, ft_25, ft_26, ft_27, ft_28, ft_29, ft_30, ft_31, ft_32, ft_33, ft_34, ft_35, ft_36, ft_37]
def goodQ (q : FT4) : Bool := decide (2 ≤ q.p) && ((List.range q.p).all fun d => decide (d < 2) || decide (q.p % d ≠ 0)) && decide (q.g.length = q.m) && (q.g.all fun x => decide (0 ≤ x) && decide (x < q.p)) && decide (q.p ^ q.m ≤ 2200) && decide (1 ≤ q.m) && decide (q.m ≤ 11)
theorem ftL_good : ftL.all goodQ = true := by decide +kernel
structure FP (p m : Nat) (row g : List Int) : Prop where
  pr : PrN p
  m1 : 1 ≤ m
  m2 : m ≤ 11
  q : (p : Int) ^ m ≤ 2200
  shp : leastP p m = some row
  fo : Fo p m (row ++ [1])
  gen : Gen p m (row ++ [1]) g (p ^ m - 1)
theorem le_pow {p : Int} {m : Nat} (p1 : 1 ≤ p) (h : 1 ≤ m) : p ≤ p ^ m := by
  have := pow_le_pow p1 h
  rwa [Int.pow_succ, Int.pow_zero, Int.one_mul] at this
theorem co_last' (l : List Int) (x : Int) : co (l ++ [x]) l.length = x := by
  rw [co_app, if_neg (by omega), Nat.sub_self]; rfl
theorem ft_fp {q : FT4} (hq : q ∈ ftL) : FP q.p q.m q.w q.g := by
  have hg := List.all_eq_true.mp ftL_good q hq
  have hk := List.all_eq_true.mp ftL_ok q hq
  unfold goodQ at hg
  unfold FT4.ok at hk
  simp only [Bool.and_eq_true, decide_eq_true_eq] at hg hk
  obtain ⟨⟨⟨⟨⟨⟨h1, h2⟩, h3⟩, h4⟩, h6⟩, h7⟩, h8⟩ := hg
  obtain ⟨k1, k2⟩ := hk
  have hpr : PrN q.p := prime_by (b := q.p) h1 (by have := Nat.mul_le_mul_right q.p h1; omega) h2
  have hqp : (q.p : Int) ^ q.m ≤ 2200 := by rw [← Int.natCast_pow]; omega
  have hpb : (q.p : Int) ≤ 2200 := Int.le_trans (le_pow (by omega) h7) hqp
  obtain ⟨wl, wlow⟩ := rowsL_mem.mp (List.mem_of_find?_eq_some k1)
  have fo : Fo (q.p : Int) q.m (q.w ++ [1]) := ⟨by omega, by omega, h7, h8, by rw [List.length_append, wl]; rfl, by rw [← wl]; exact co_last' q.w 1, low_one (by omega) wlow⟩
  have gm : Mem (q.p : Int) q.m q.g := ⟨h3, fun x hx => by
    have := List.all_eq_true.mp h4 x hx
    simp only [Bool.and_eq_true, decide_eq_true_eq] at this
    exact this⟩
  exact ⟨hpr, h7, h8, hqp, k1, fo, gen_of fo gm (by omega) k2⟩
variable {p m : Nat} {row g : List Int}
theorem FP.p2 (h : FP p m row g) : 2 ≤ (p : Int) := h.fo.p2
theorem FP.pb (h : FP p m row g) : (p : Int) ≤ 2200 := Int.le_trans (le_pow (by have := h.p2; omega) h.m1) h.q
def fieldV (p : Int) (m : Nat) (v : List (Str × FV)) : List (Str × FV) :=
  putFV "kept_logs" (.d .t []) (putFV "kept_first" (.v .non) (putFV "one" (.v (tupI (oneL m))) (putFV "nought" (.v (tupI (List.replicate m 0))) (putFV "shape" (.v (leastD p m)) (putFV "m" (.v (.int m)) (putFV "p" (.v (.int p)) v))))))
theorem init_ok (h : FP p m row g) (v : List (Str × FV)) : m_Field_init v (.int p) (.int m) = some (.non, fieldV p m v) := by
  have p2 := h.p2
  have pb := h.pb
  have hq := h.q
  have hm := h.m2
  have m1 := h.m1
  unfold m_Field_init
  obtain ⟨b, e, hb⟩ := within_ok p m
  have hb : b = true := hb.mpr ⟨by rw [Int.toNat_natCast]; exact h.pr, by omega, by omega, by rw [Int.toNat_natCast]; exact hq⟩
  subst hb
  rw [e, Option.bind_some, truX_bl, Option.bind_some, if_neg (by decide), least_ok p2 (by omega) (by omega) (by omega), Option.bind_some, rep0 hm, Option.bind_some, subX_i, Option.bind_some, show ((m : Int) - 1) = ((m - 1 : Nat) : Int) by omega, rep0 (by omega), Option.bind_some, one_ok hm m1, Option.bind_some]
  rfl
def fieldS (p m : Nat) : D := frzI "Field" (fieldV p m [])
theorem FP.fld (h : FP p m row g) : FldD (fieldS p m) p m (row ++ [1]) := by
  have : leastD p m = tupI (row ++ [1]) := by unfold leastD; rw [h.shp]
  exact ⟨h.fo, rfl, rfl, by rw [← this]; rfl, rfl, rfl, rfl⟩
theorem take_eq {n : Nat} {p : List D} {m : Int} (h : PotOk n p) (hn : n < 2 ^ 60) (h0 : 0 < m) (h1 : m < 2 ^ 62) : ∃ (i : Int) (q : List D), m_law_take p (.int m) = some (.int i, q) ∧ 0 ≤ i ∧ i < m ∧ PotOk (n + 1) q := by
  obtain ⟨⟨d, q⟩, e, i, rfl, h2, h3, h4⟩ := oP_ex (take_ok h hn h0 h1)
  exact ⟨i, q, e, h2, h3, h4⟩
def pairD (q : FT4) : D := .tup [.int q.p, .int q.m]
theorem rep_mem_ok {a : List Int} (h : FP p m row g) (ha : Mem (p : Int) m a) : ∃ X, reprX (tupI a) = some (.str X) := by
  have hm := h.m2
  have hp := h.pb
  have e : tupI a = tupM a id := by unfold tupI tupM; rfl
  rw [e]
  refine ⟨_, tupM_repr (by rw [ha.1]; omega) fun t ht => ?_⟩
  show t.natAbs < _
  have := ha.2 t ht; omega
theorem lsize_fold {p : Int} (p0 : 2 ≤ p) (pb : p ≤ 2200) : ∀ (ds : List D) (s : Int), 1 ≤ s → s * p ^ ds.length ≤ 2 ^ 200 → foldX (m_law_size_f1 (.int p)) ds (.int s) = some (.int (s * p ^ ds.length))
  | [], s, _, _ => by
    show some (D.int s) = _
    rw [List.length_nil, Int.pow_zero, Int.mul_one]
  | d :: ds, s, h1, hb => by
    have e2 : s * p * p ^ ds.length = s * p ^ (d :: ds).length := by rw [List.length_cons, Int.pow_succ, Int.mul_assoc, Int.mul_comm p]
    have pp : 1 ≤ p ^ ds.length := Int.pow_pos (by omega)
    have sp : s ≤ s * p := by
      have := Int.mul_le_mul_of_nonneg_left (show 1 ≤ p by omega) (show 0 ≤ s by omega)
      omega
    have spp : s * p ≤ s * p * p ^ ds.length := by
      have := Int.mul_le_mul_of_nonneg_left pp (show 0 ≤ s * p by omega)
      omega
    rw [← e2] at hb
    have e : m_law_size_f1 (.int p) (.int s) d = some (.int (s * p)) := by
      unfold m_law_size_f1
      rw [mulX_i (by omega) (by omega), Option.bind_some]
    rw [foldX, e, Option.bind_some, lsize_fold p0 pb ds (s * p) (by omega) hb, e2]
theorem pow_mono {p q : Int} (p0 : 0 ≤ p) (h : p ≤ q) : ∀ k : Nat, p ^ k ≤ q ^ k
  | 0 => by rw [Int.pow_zero, Int.pow_zero]; exact Int.le_refl 1
  | k + 1 => by
    rw [Int.pow_succ, Int.pow_succ]
    exact Int.mul_le_mul (pow_mono p0 h k) h p0 (Int.pow_nonneg (by omega))
theorem lsize_ok {p m : Int} (p0 : 2 ≤ p) (pb : p ≤ 2200) (m0 : 0 ≤ m) (mb : m ≤ 11) : m_law_size (.int p) (.int m) = some (.int (p ^ m.toNat)) := by
  unfold m_law_size
  have hb : p ^ m.toNat ≤ 2 ^ 200 := by
    have h1 : p ^ m.toNat ≤ p ^ 11 := pow_le_pow (by omega) (by omega)
    have h2 : p ^ 11 ≤ 2200 ^ 11 := pow_mono (by omega) pb 11
    have h3 : (2200 : Int) ^ 11 ≤ 2 ^ 200 := by decide
    omega
  rw [rg1X_i (by omega) (by omega), Option.bind_some, lsize_fold p0 pb _ 1 (by decide) (by rw [rangeD_len, Int.one_mul]; exact hb), Option.bind_some, rangeD_len, Int.one_mul]
theorem neX_tupI (a b : List Int) : neX (tupI a) (tupI b) = some (!decide (a = b)) := Enc.neX (encT encI) (by decide) a b
theorem eqX_tupI (a b : List Int) : eqX (tupI a) (tupI b) = some (decide (a = b)) := Enc.eqX (encT encI) (by decide) a b
theorem draw_ok {f : List D → D → Option (D × List D)} {p : Int} {m n : Nat} {hd : List D} (hf : ∀ s d, f s d = (m_law_take s (.int p)).bind fun t => some (t.1, t.2)) (p0 : 0 < p) (pb : p < 2 ^ 60) (hm : m ≤ 1000) (h : PotOk n hd) (hn : n < 10000) : ∃ (a : List Int) (q : List D), mapSX f (rangeD 0 1 m) hd = some (a.map D.int, q) ∧ Mem p m a ∧ PotOk (n + m) q := by
  have sz := size_def
  obtain ⟨l, q, e, hl, hp, hq⟩ := mapSX_inv (f := f) (fun i s => PotOk (n + i) s) (fun _ y => ∃ x : Int, y = D.int x ∧ 0 ≤ x ∧ x < p) (ds := rangeD 0 1 m) (s := hd) (by rw [rangeD_len]; omega) h (fun i d s hi hs => by
    have hi' := (List.getElem?_eq_some_iff.mp hi).1
    rw [rangeD_len] at hi'
    obtain ⟨x, q, e, x0, x1, h2⟩ := take_eq (m := p) hs (by omega) p0 (by omega)
    exact ⟨D.int x, q, by rw [hf, e, Option.bind_some], ⟨x, rfl, x0, x1⟩, h2⟩)
  rw [rangeD_len] at hl hq
  have : ∀ (l : List D), (∀ (i : Nat) (y : D), l[i]? = some y → ∃ x : Int, y = D.int x ∧ 0 ≤ x ∧ x < p) → ∃ a : List Int, l = a.map D.int ∧ Low p a := by
    intro l
    induction l with
    | nil => exact fun _ => ⟨[], rfl, fun x hx => nomatch hx⟩
    | cons y l ih =>
      intro h
      obtain ⟨x, rfl, x0, x1⟩ := h 0 y rfl
      obtain ⟨a, rfl, ha⟩ := ih fun i y hy => h (i + 1) y hy
      exact ⟨x :: a, rfl, Low.cons.mpr ⟨⟨x0, x1⟩, ha⟩⟩
  obtain ⟨a, rfl, ha⟩ := this l hp
  rw [List.length_map] at hl
  exact ⟨a, q, e, ⟨hl, ha⟩, hq⟩
variable {p : Int} {m : Nat} {F g : List Int} {N : Nat}
theorem by_one_l (h : Fo p m F) {a : List Int} (ha : Mem p m a) : byP p F (oneL m) a = a := by
  refine h.uniq (h.by_mem h.one_mem ha) ha ((h.by_cg h.one_mem ha).tr ?_)
  rw [co_one, mul_one_l]; exact .rf
theorem pw_0 (h : Fo p m F) (a : List Int) : pw p F a 0 = oneL m := by rw [pw, h.len]; rfl
theorem pw_1 (h : Fo p m F) {a : List Int} (ha : Mem p m a) : pw p F a 1 = a := by
  show byP p F (pw p F a 0) a = a
  rw [pw_0 h, by_one_l h ha]
theorem lrows_c3 {p : Int} (h0 : 0 ≤ p) (h1 : p.toNat ≤ sizeLine) {s : List Int} (hs : s.length < sizeLine) : mapX (m_law_rows_c3 (tupI s)) (rangeD 0 1 p.toNat) = some ((longer p s).map tupI) := c3_ok m_law_rows_c3 (fun _ _ => rfl) h0 h1 hs
theorem lrows_f2 (p : Int) (acc : List D) (s : List Int) (h0 : 0 ≤ p) (h1 : p < 2 ^ 40) (h2 : p.toNat ≤ sizeLine) (h3 : s.length < sizeLine) (h4 : acc.length + p.toNat ≤ sizeLine) : m_law_rows_f2 (.int p) acc (tupI s) = some (acc ++ (longer p s).map tupI) := by
  unfold m_law_rows_f2
  rw [rg1X_i (by omega) (by omega), Option.bind_some, lrows_c3 h0 h2 h3, Option.bind_some, extX_ok (by rw [List.length_map, longer_len]; exact h4), Option.bind_some]
theorem lrows_f1 {p : Int} {A : List (List Int)} {d : D} (h0 : 0 ≤ p) (h1 : p < 2 ^ 40) (h2 : p.toNat ≤ sizeLine) (hA : ∀ s ∈ A, s.length < sizeLine) (hl : A.length * p.toNat ≤ sizeLine) : m_law_rows_f1 (.int p) (.lst (A.map tupI)) d = some (.lst ((stepL A p).map tupI)) := by
  unfold m_law_rows_f1
  rw [itX_lst, Option.bind_some, step_ok m_law_rows_f2 lrows_f2 h0 h1 h2 hA hl, Option.bind_some]
theorem lrows_fold {p : Int} (p2 : 2 ≤ p) (pb : p < 2 ^ 20) : ∀ (ds : List D) {A : List (List Int)} {k : Nat}, 1 ≤ A.length → (∀ s ∈ A, s.length = k) → k + ds.length < 1000 → A.length * p ^ ds.length ≤ 2 ^ 20 →
    foldX (m_law_rows_f1 (.int p)) ds (.lst (A.map tupI)) = some (.lst (((List.replicate ds.length p).foldl stepL A).map tupI))
  | [], A, k, _, _, _, _ => rfl
  | d :: ds, A, k, hA1, hA, hk, hl => by
    have sz := size_def
    rw [List.length_cons] at hk hl
    have pp : 0 < p ^ ds.length := Int.pow_pos (by omega)
    have e1 : ((A.length * p.toNat : Nat) : Int) * p ^ ds.length ≤ 2 ^ 20 := by
      rw [Int.natCast_mul, show ((p.toNat : Nat) : Int) = p by omega, Int.mul_assoc, Int.mul_comm p, ← Int.pow_succ]; exact hl
    have e3 : ((A.length * p.toNat : Nat) : Int) ≤ 2 ^ 20 := by
      have := Int.mul_le_mul_of_nonneg_left (show 1 ≤ p ^ ds.length by omega) (show 0 ≤ ((A.length * p.toNat : Nat) : Int) by omega)
      omega
    have e4 : p.toNat ≤ A.length * p.toNat := Nat.le_mul_of_pos_left _ hA1
    rw [foldX, lrows_f1 (by omega) (by omega) (by omega) (fun s hs => by have := hA s hs; omega) (by omega), Option.bind_some]
    rw [lrows_fold p2 pb ds (k := k + 1) (by rw [stepL_len]; omega) (fun s hs => by
      obtain ⟨a, ha, hs⟩ := List.mem_flatMap.mp hs
      obtain ⟨x, _, rfl⟩ := List.mem_map.mp hs
      rw [List.length_append, hA a ha]; rfl) (by omega) (by rw [stepL_len]; exact e1)]
    rw [List.length_cons, List.replicate_succ]
    rfl
theorem lrows_ok {p : Int} {m : Nat} (p2 : 2 ≤ p) (pb : p < 2 ^ 20) (hm : m < 1000) (hb : p ^ m ≤ 2 ^ 20) : m_law_rows (.int p) (.int m) = some (.lst ((rowsL p m).map tupI)) := by
  unfold m_law_rows
  rw [rg1X_i (by omega) (by omega), Option.bind_some]
  rw [show (D.lst [D.tup []]) = .lst ([[]].map tupI) from rfl, lrows_fold p2 pb _ (A := [[]]) (k := 0) (by simp) (fun s hs => by rw [List.mem_singleton.mp hs]; rfl) (by rw [rangeD_len]; omega) (by rw [rangeD_len, Int.toNat_natCast]; simpa using hb), Option.bind_some, rangeD_len, Int.toNat_natCast]
  rfl
theorem fp_of {q : FT4} (hg : goodQ q = true) (hk : FT4.ok q = true) : FP q.p q.m q.w q.g := by
  unfold goodQ at hg
  unfold FT4.ok at hk
  simp only [Bool.and_eq_true, decide_eq_true_eq] at hg hk
  obtain ⟨⟨⟨⟨⟨⟨h1, h2⟩, h3⟩, h4⟩, h6⟩, h7⟩, h8⟩ := hg
  obtain ⟨k1, k2⟩ := hk
  have hpr : PrN q.p := prime_by (b := q.p) h1 (by have := Nat.mul_le_mul_right q.p h1; omega) h2
  have hqp : (q.p : Int) ^ q.m ≤ 2200 := by rw [← Int.natCast_pow]; omega
  have hpb : (q.p : Int) ≤ 2200 := Int.le_trans (le_pow (by omega) h7) hqp
  obtain ⟨wl, wlow⟩ := rowsL_mem.mp (List.mem_of_find?_eq_some k1)
  have fo : Fo (q.p : Int) q.m (q.w ++ [1]) := ⟨by omega, by omega, h7, h8, by rw [List.length_append, wl]; rfl, by rw [← wl]; exact co_last' q.w 1, low_one (by omega) wlow⟩
  have gm : Mem (q.p : Int) q.m q.g := ⟨h3, fun x hx => by
    have := List.all_eq_true.mp h4 x hx
    simp only [Bool.and_eq_true, decide_eq_true_eq] at this
    exact this⟩
  exact ⟨hpr, h7, h8, hqp, k1, fo, gen_of fo gm (by omega) k2⟩
end
section
theorem prN_dvd_mul {q a b : Nat} (hq : PrN q) (h : q ∣ a * b) : q ∣ a ∨ q ∣ b := by
  by_cases z : q ∣ a
  · exact .inl z
  · refine .inr ?_
    have hc : Nat.Coprime q a := by
      have hd := Nat.gcd_dvd_left q a
      have h2 := hq.2 (Nat.gcd q a)
      show Nat.gcd q a = 1
      rcases Nat.lt_or_ge 1 (Nat.gcd q a) with w | w
      · have hle : Nat.gcd q a ≤ q := Nat.le_of_dvd (by have := hq.1; omega) hd
        have : Nat.gcd q a = q := h2 (by omega) hd
        exact absurd (by rw [← this]; exact Nat.gcd_dvd_right q a) z
      · have : 0 < Nat.gcd q a := Nat.gcd_pos_of_pos_left _ (by have := hq.1; omega)
        omega
    exact hc.dvd_of_dvd_mul_left h
theorem prN_dvd_pow {q a : Nat} (hq : PrN q) : ∀ {k : Nat}, q ∣ a ^ k → q ∣ a
  | 0, h => by
    have := Nat.le_of_dvd (by decide) (show q ∣ 1 from h)
    have := hq.1
    omega
  | k + 1, h => by
    rw [Nat.pow_succ] at h
    rcases prN_dvd_mul hq h with h | h
    · exact prN_dvd_pow hq h
    · exact h
theorem prime_among {q : Nat} (hq : PrN q) : ∀ {l : List (Nat × Nat)}, (∀ x ∈ l, PrN x.1 ∧ 1 ≤ x.2) → q ∣ prodP l → ∃ x ∈ l, x.1 = q
  | [], _, h => by
    have := Nat.le_of_dvd (by decide) (show q ∣ 1 from h)
    have := hq.1
    omega
  | x :: l, hl, h => by
    rcases prN_dvd_mul hq (show q ∣ x.1 ^ x.2 * prodP l from h) with h | h
    · have hd := prN_dvd_pow hq h
      have hx := (hl x List.mem_cons_self).1
      refine ⟨x, List.mem_cons_self, ?_⟩
      exact (hx.2 q hq.1 hd).symm
    · obtain ⟨y, hy, e⟩ := prime_among hq (fun z hz => hl z (List.mem_cons_of_mem _ hz)) h
      exact ⟨y, List.mem_cons_of_mem _ hy, e⟩
/-- each number from 2 on has a prime -/
theorem has_prime : ∀ n : Nat, 2 ≤ n → ∃ q, PrN q ∧ q ∣ n := by
  intro n
  induction n using Nat.strongRecOn with
  | ind n ih =>
    intro h
    by_cases z : ∃ d, 2 ≤ d ∧ d < n ∧ d ∣ n
    · obtain ⟨d, h1, h2, h3⟩ := z
      obtain ⟨q, hq, hd⟩ := ih d h2 h1
      exact ⟨q, hq, Nat.dvd_trans hd h3⟩
    · refine ⟨n, ⟨h, fun d h1 h2 => ?_⟩, Nat.dvd_refl n⟩
      have := Nat.le_of_dvd (by omega) h2
      rcases Nat.lt_or_ge d n with w | w
      · exact absurd ⟨d, h1, w, h2⟩ z
      · omega
section
variable {p : Nat} {m : Nat} {F g : List Int} {N : Nat}
def Full (p : Int) (m : Nat) (F : List Int) (N : Nat) (a : List Int) : Prop := a ≠ List.replicate m 0 ∧ ∀ e, 0 < e → e < N → pw p F a e ≠ oneL m
/-- by the primes of the number of powers -/
theorem full_by (h : Fo (p : Int) m F) (hG : Gen (p : Int) m F g N) {a : List Int} (ha : Mem (p : Int) m a) (hz : a ≠ List.replicate m 0) {l : List (Nat × Nat)} (hl : Pri l) (hp : prodP l = N) :
    (∀ x ∈ l, pw p F a (N / x.1) ≠ oneL m) ↔ Full p m F N a := by
  have n1 := hG.n1
  constructor
  · intro hx
    refine ⟨hz, fun e e0 e1 he => ?_⟩
    have u1 := (h.pw_un ha).mp he
    have u2 := hG.fermat h ha hz
    have ug := un_gcd (fi_co _ a) e N u1 u2
    obtain ⟨d, hd⟩ : ∃ d, Nat.gcd e N = d := ⟨_, rfl⟩
    rw [hd] at ug
    have d1 : d ∣ N := by rw [← hd]; exact Nat.gcd_dvd_right e N
    have d2 : d ≤ e := by rw [← hd]; exact Nat.gcd_le_left N e0
    have d0 : 0 < d := by rw [← hd]; exact Nat.gcd_pos_of_pos_left _ e0
    obtain ⟨k, hk⟩ := d1
    have k2 : 2 ≤ k := by
      rcases Nat.lt_or_ge k 2 with w | w
      · have : k = 0 ∨ k = 1 := by omega
        rcases this with rfl | rfl
        · omega
        · omega
      · exact w
    obtain ⟨q, hq, c, hc⟩ := has_prime k k2
    have q2 := hq.1
    have hqN : q ∣ prodP l := ⟨d * c, by rw [hp, hk, hc]; rw [← Nat.mul_assoc, Nat.mul_comm d q, Nat.mul_assoc]⟩
    obtain ⟨x, hxm, ex⟩ := prime_among hq hl.pr hqN
    refine hx x hxm ?_
    rw [ex, h.pw_un ha]
    have : N / q = d * c := by
      rw [hk, hc, ← Nat.mul_assoc, Nat.mul_comm d q, Nat.mul_assoc, Nat.mul_div_cancel_left _ (by omega)]
    rw [this]
    exact un_mul (fi_co _ a) ug c
  · rintro ⟨_, hf⟩ x hx
    have hx2 := (hl.pr x hx).1.1
    have hd : x.1 ∣ N := by
      have h1 := pow_dvd hx
      rw [hp] at h1
      exact Nat.dvd_trans (Nat.dvd_trans ⟨x.1 ^ (x.2 - 1), by rw [← Nat.pow_succ', show (x.2 - 1).succ = x.2 by have := (hl.pr x hx).2; omega]⟩ (Nat.dvd_refl _)) h1
    obtain ⟨k, hk⟩ := hd
    have e1 : N / x.1 = k := by rw [hk, Nat.mul_div_cancel_left _ (by omega)]
    rw [e1]
    have k0 : 0 < k := by
      rcases Nat.eq_zero_or_pos k with w | w
      · rw [w] at hk; omega
      · exact w
    refine hf k k0 ?_
    rw [hk]
    have := Nat.mul_le_mul_right k hx2
    omega
theorem Gen.full (h : Fo (p : Int) m F) (hG : Gen (p : Int) m F g N) : Full p m F N g := by
  refine ⟨?_, fun e e0 e1 he => hG.ord e e0 e1 ((h.pw_un hG.mem).mp he)⟩
  have := hG.pw_ne h (i := 1) hG.n1
  rwa [pw_1 h hG.mem] at this
open Classical in
theorem is_first_ok {S : D} (h : FldD S p m F) (hG : Gen (p : Int) m F g (p ^ m - 1)) (hb : (p : Int) ^ m ≤ 2200) {a : List Int} (ha : Mem (p : Int) m a) {l : List (Nat × Nat)} (hl : Pri l) (hp : prodP l = p ^ m - 1) :
    m_Field_is_first S (tupI a) (.tup (l.map pD)) = some (.bl (decide (Full p m F (p ^ m - 1) a))) := by
  have p2 := h.fo.p2
  have pb := h.fo.pb
  have m2 := h.fo.m2
  have m1 := h.fo.m1
  have n1 := hG.n1
  have ez : (p : Int) ^ m = ((p ^ m : Nat) : Int) := (Int.natCast_pow p m).symm
  unfold m_Field_is_first
  rw [h.nought, Option.bind_some, eqX_tupI, Option.bind_some]
  by_cases z : a = List.replicate m 0
  · rw [decide_eq_true z, if_pos rfl, decide_eq_false fun f => f.1 z]
  · rw [decide_eq_false z, if_neg (by decide), h.fp, Option.bind_some, h.fm, Option.bind_some, to_the_ok (by omega) (by omega) (by omega), Option.bind_some, subX_i, Option.bind_some, show itX (.tup (l.map pD)) = some (l.map pD) from rfl, Option.bind_some,
      show (p : Int) ^ m - 1 = ((p ^ m - 1 : Nat) : Int) by omega]
    have hlen : l.length ≤ 20 := by
      have h1 := prodP_two hl.pr
      rw [hp] at h1
      rcases Nat.lt_or_ge 20 l.length with w | w
      · have := Nat.pow_le_pow_right (n := 2) (by decide) (show 20 ≤ l.length by omega)
        omega
      · exact w
    rw [mapX_map pD (fun x => .bl (!decide (pw p F a ((p ^ m - 1) / x.1) = oneL m))) _ (by rw [size_def]; omega) fun x hx => by
      unfold m_Field_is_first_c1
      have hx2 := (hl.pr x hx).1.1
      have hx3 : x.1 ≤ p ^ m - 1 := by
        have h1 := pow_dvd hx
        rw [hp] at h1
        have h2 := Nat.le_of_dvd (by omega) h1
        have h3 := Nat.pow_le_pow_right (n := x.1) (by omega) (hl.pr x hx).2
        rw [Nat.pow_one] at h3
        omega
      rw [show tup2X (pD x) = some (.int x.1, .int x.2) from rfl, Option.bind_some, h.obj, Option.bind_some, divX_i (by omega) (by omega), Option.bind_some, ← Int.natCast_ediv, h.power_ok ha, Option.bind_some, h.one, Option.bind_some,
        show tupI (1 :: List.replicate (m - 1) 0) = tupI (oneL m) from rfl, neX_tupI, Option.bind_some]]
    have ea : allX (.lst (l.map fun x => D.bl (!decide (pw p F a ((p ^ m - 1) / x.1) = oneL m)))) = some (decide (Full p m F (p ^ m - 1) a)) := by
      rw [show (l.map fun x => D.bl (!decide (pw p F a ((p ^ m - 1) / x.1) = oneL m))) = (l.map fun x => !decide (pw p F a ((p ^ m - 1) / x.1) = oneL m)).map D.bl by rw [List.map_map]; rfl, allX_ok]
      congr 1
      rw [show (l.map fun x => !decide (pw p F a ((p ^ m - 1) / x.1) = oneL m)).all id = l.all fun x => !decide (pw p F a ((p ^ m - 1) / x.1) = oneL m) by rw [List.all_map]; rfl]
      have := full_by h.fo hG ha z hl hp
      rw [Bool.eq_iff_iff, List.all_eq_true, decide_eq_true_eq, ← this]
      constructor
      · intro q x hx e
        have := q x hx
        simp [e] at this
      · intro q x hx
        simp [q x hx]
    rw [Option.bind_some, ea, Option.bind_some]
open Classical in
/-- the least of them -/
noncomputable def firstP (p : Int) (m : Nat) (F : List Int) (N : Nat) : Option (List Int) := (rowsL p m).find? fun a => decide (Full p m F N a)
end
theorem rangeD_up (j k : Nat) : rangeD (j : Int) 1 (k + 1) = D.int (j : Int) :: rangeD ((j + 1 : Nat) : Int) 1 k := by
  unfold rangeD
  rw [List.range_succ_eq_map, List.map_cons, List.map_map]
  have e1 : D.int ((j : Int) + ((0 : Nat) : Int) * 1) = D.int (j : Int) := by simp
  rw [e1]
  congr 1
  apply List.map_congr_left
  intro i _
  show D.int ((j : Int) + ((i + 1 : Nat) : Int) * 1) = D.int (((j + 1 : Nat) : Int) + (i : Int) * 1)
  congr 1; omega
theorem flat_tupI (a : List Int) : flatX (tupI a) = some () := flatX_ok (flat_tup fun d hd => by
  obtain ⟨x, _, rfl⟩ := List.mem_map.mp hd
  rfl)
section
variable {p : Nat} {m : Nat} {F g g1 : List Int} {N : Nat}
/-- a field in a slot -/
structure FldC (fs : List (Str × FV)) (p : Int) (m : Nat) (F : List Int) : Prop where
  fd : FldD (frzI "Field" fs) p m F
  cp : fldCX fs "p" = some (.int p)
  cm : fldCX fs "m" = some (.int m)
  cone : fldCX fs "one" = some (tupI (oneL m))
  cnought : fldCX fs "nought" = some (tupI (List.replicate m 0))
open Classical in
theorem first_loop {fs : List (Str × FV)} (h : FldC fs p m F) (hG : Gen (p : Int) m F g (p ^ m - 1)) (hb : (p : Int) ^ m ≤ 2200) {l : List (Nat × Nat)} (hl : Pri l) (hp : prodP l = p ^ m - 1) {rows : List (List Int)} (hm : ∀ a ∈ rows, Mem (p : Int) m a) :
    ∀ (rest pre : List (List Int)), rows = pre ++ rest → (rest.find? fun a => decide (Full (p : Int) m F (p ^ m - 1) a)) = some g1 →
      ∃ i : Nat, whX (m_Field_first_w2 fs (.tup (l.map pD)) (.lst (rows.map tupI))) (.int (pre.length : Int)) = some (.nx (.int (i : Int))) ∧ rows[i]? = some g1
  | [], _, _, h => by simp at h
  | a :: rest, pre, e, hf => by
    have ha : rows[pre.length]? = some a := by rw [e]; simp
    have hma := hm a (List.mem_of_getElem? ha)
    have st : m_Field_first_w2 fs (.tup (l.map pD)) (.lst (rows.map tupI)) (.int (pre.length : Int)) = (if (!decide (Full (p : Int) m F (p ^ m - 1) a)) = true then some (.go (.int ((pre.length : Int) + 1))) else some (.dn (.int (pre.length : Int)))) := by
      unfold m_Field_first_w2
      rw [getX_nat (l := rows.map tupI) (n := pre.length) (x := tupI a) (by rw [List.getElem?_map, ha]; rfl), Option.bind_some, is_first_ok h.fd hG hb hma hl hp, Option.bind_some]
      rfl
    rw [whX_eq, st]
    rw [List.find?_cons] at hf
    by_cases z : Full (p : Int) m F (p ^ m - 1) a
    · rw [decide_eq_true z] at hf
      cases hf
      rw [decide_eq_true z, if_neg (by decide), Option.bind_some, WH.cs_dn]
      exact ⟨pre.length, rfl, ha⟩
    · rw [decide_eq_false z] at hf
      rw [decide_eq_false z, if_pos (by decide), Option.bind_some, WH.cs_go]
      have := first_loop h hG hb hl hp hm rest (pre ++ [a]) (by rw [e, List.append_assoc]; rfl) hf
      rw [List.length_append, List.length_singleton, Int.natCast_add] at this
      exact this
/-- the first one is found -/
theorem first_new {fs : List (Str × FV)} (h : FldC fs p m F) (hG : Gen (p : Int) m F g (p ^ m - 1)) (hb : (p : Int) ^ m ≤ 2200) (hk : fldCX fs "kept_first" = some .non) (hf : firstP (p : Int) m F (p ^ m - 1) = some g1)
    (hg : fldCX (putFV "kept_first" (.v (tupI g1)) fs) "kept_first" = some (tupI g1)) : m_Field_first fs = some (tupI g1, putFV "kept_first" (.v (tupI g1)) fs) := by
  have p2 := h.fd.fo.p2
  have pb := h.fd.fo.pb
  have m2 := h.fd.fo.m2
  have n1 := hG.n1
  have ez : (p : Int) ^ m = ((p ^ m : Nat) : Int) := (Int.natCast_pow p m).symm
  obtain ⟨l, el, hl, hp⟩ := primes_ok (N := p ^ m - 1) (by omega) (by omega)
  obtain ⟨i, ei, hi⟩ := first_loop (g1 := g1) h hG hb hl hp (rows := rowsL (p : Int) m) (fun a ha => rowsL_mem.mp ha) _ [] rfl hf
  unfold m_Field_first m_Field_first_j1
  rw [hk, Option.bind_some, if_pos (show D.isNon .non = true from by decide), h.cp, Option.bind_some, h.cm, Option.bind_some, to_the_ok (by omega) (by omega) (by omega), Option.bind_some, subX_i, Option.bind_some, show (p : Int) ^ m - 1 = ((p ^ m - 1 : Nat) : Int) by omega, el, Option.bind_some, Option.bind_some, Option.bind_some, rows_ok p2 (by omega) (by omega) (by omega), Option.bind_some]
  have ei' : whX (m_Field_first_w2 fs (.tup (l.map pD)) (.lst ((rowsL (p : Int) m).map tupI))) (.int 0) = some (.nx (.int (i : Int))) := ei
  rw [ei', Option.bind_some, SO.cs_nx, getX_nat (l := (rowsL (p : Int) m).map tupI) (n := i) (x := tupI g1) (by rw [List.getElem?_map, hi]; rfl), Option.bind_some, Option.bind_some, SO.cs_nx, hg, Option.bind_some]
/-- and kept -/
theorem first_kept {fs : List (Str × FV)} (hk : fldCX fs "kept_first" = some (tupI g1)) : m_Field_first fs = some (tupI g1, fs) := by
  unfold m_Field_first m_Field_first_j1
  rw [hk, Option.bind_some, if_neg (show ¬ (D.isNon (tupI g1) = true) from Bool.false_ne_true), Option.bind_some, SO.cs_nx, hk, Option.bind_some]
end
end
end TL
namespace TL
open PySem PySem.Spec PyProof.Rows L2
section
variable {rs : List Int} {ls : List (List Int)} {b : List Int}
end
theorem spots_head : ∀ (rs : List Int) (a : List Int) (A : List (List Int)), (∀ r ∈ rs, 0 < r) → ∃ B, rs.foldl stepL (a :: A) = (a ++ zeroL rs) :: B
  | [], a, A, _ => ⟨A, by rw [show zeroL [] = [] from rfl, List.append_nil]; rfl⟩
  | r :: rs, a, A, h => by
    have hr := h r List.mem_cons_self
    obtain ⟨n, hn⟩ : ∃ n : Nat, r.toNat = n + 1 := ⟨r.toNat - 1, by omega⟩
    have e : stepL (a :: A) r = (a ++ [0]) :: ((List.range n).map (fun x : Nat => a ++ [((x + 1 : Nat) : Int)]) ++ stepL A r) := by
      unfold stepL
      rw [List.flatMap_cons]
      unfold longer
      rw [hn, List.range_succ_eq_map, List.map_cons, List.map_map]
      rfl
    rw [List.foldl_cons, e]
    obtain ⟨B, hB⟩ := spots_head rs (a ++ [0]) ((List.range n).map (fun x : Nat => a ++ [((x + 1 : Nat) : Int)]) ++ stepL A r) fun x hx => h x (List.mem_cons_of_mem _ hx)
    refine ⟨B, ?_⟩
    rw [hB, List.append_assoc]
    rfl
theorem spotsL_head {rs : List Int} (h : ∀ r ∈ rs, 0 < r) : ∃ B, spotsL rs = zeroL rs :: B := spots_head rs [] [] h
end TL
namespace TL
open PySem PySem.Spec PyProof.Rows L2
local macro_rules | `(tactic| walk_at $s:str) => do
  let names := (s.getString.splitOn " ").filter (· ≠ "")
  match names with
  | "xs" :: ls => do
    let base := "Option.bind_some Option.bind_none addX_i subX_i mulX_i divX_i modX_i powX_i iaddX_i eqX_i neX_i eqX_b neX_b ltX_i ltAX_i leX_i gtX_i geX_i truX_bl truX_i truX_non truX_tup truX_lst itX_tup itX_lst itX_scr lenX_tup lenX_lst lenX_scr lenX_dct tupleX_lst tupleX_tup listX_lst listX_tup seqX_lst seqX_tup intX_bl intX_int absX_i max2X_i min2X_i slX_tup slX_lst slX_scr addX_tup addX_lst addLX_lst appX_ok extX_ok rg1X_i rg2X_i allX_ok anyX_ok sumX_ok tup2X_ok tup3X_ok asI_int asB_bl asL_lst SO.cs_nx SO.cs_rt WH.cs_go WH.cs_dn WH.cs_rt if_true if_false reduceIte decide_eq_true_eq not_true_eq_false not_false_eq_true decide_true decide_false Bool.not_true Bool.not_false Bool.not_not Bool.not_eq_true' decide_eq_false_iff_not Bool.false_eq_true Bool.true_eq_false D.isNon List.length_map List.isEmpty_nil List.isEmpty_cons isi_int_int isi_int_bool isi_int_tuple isi_int_list isi_int_str isi_int_dict isi_bl_int isi_bl_bool isi_bl_tuple isi_bl_list isi_bl_str isi_bl_dict isi_non_int isi_non_bool isi_non_tuple isi_non_list isi_non_str isi_non_dict isi_str_int isi_str_bool isi_str_tuple isi_str_list isi_str_str isi_str_dict isi_tup_int isi_tup_bool isi_tup_tuple isi_tup_list isi_tup_str isi_tup_dict isi_lst_int isi_lst_bool isi_lst_tuple isi_lst_list isi_lst_str isi_lst_dict isi_dct_int isi_dct_bool isi_dct_tuple isi_dct_list isi_dct_str isi_dct_dict".splitOn " "
    let all ← (base ++ ls).toArray.mapM fun (l : String) => do
      let i := Lean.mkIdent l.toName
      `(Lean.Parser.Tactic.simpLemma| $i:term)
    `(tactic| simp (disch := first | assumption | omega | decide | (simp only [List.length_cons, List.length_nil, List.length_append, List.length_map, List.length_range, rangeD_len, size_def]; omega) | (simp only [List.length_cons, List.length_nil, List.length_append, List.length_map, List.length_range, rangeD_len, size_def]; decide)) only [$all,*])
  | "ow" :: ls => do
    let base := "Option.bind_some Option.bind_none addX_i subX_i mulX_i divX_i modX_i powX_i iaddX_i eqX_i neX_i eqX_b neX_b ltX_i ltAX_i leX_i gtX_i geX_i truX_bl truX_i truX_non truX_tup truX_lst itX_tup itX_lst itX_scr lenX_tup lenX_lst lenX_scr lenX_dct tupleX_lst tupleX_tup listX_lst listX_tup seqX_lst seqX_tup intX_bl intX_int absX_i max2X_i min2X_i slX_tup slX_lst slX_scr addX_tup addX_lst addLX_lst appX_ok extX_ok rg1X_i rg2X_i allX_ok anyX_ok sumX_ok tup2X_ok tup3X_ok asI_int asB_bl asL_lst if_true if_false reduceIte decide_eq_true_eq not_true_eq_false not_false_eq_true decide_true decide_false Bool.not_true Bool.not_false Bool.not_not Bool.not_eq_true' decide_eq_false_iff_not Bool.false_eq_true Bool.true_eq_false D.isNon List.length_map List.isEmpty_nil List.isEmpty_cons isi_int_int isi_int_bool isi_int_tuple isi_int_list isi_int_str isi_int_dict isi_bl_int isi_bl_bool isi_bl_tuple isi_bl_list isi_bl_str isi_bl_dict isi_non_int isi_non_bool isi_non_tuple isi_non_list isi_non_str isi_non_dict isi_str_int isi_str_bool isi_str_tuple isi_str_list isi_str_str isi_str_dict isi_tup_int isi_tup_bool isi_tup_tuple isi_tup_list isi_tup_str isi_tup_dict isi_lst_int isi_lst_bool isi_lst_tuple isi_lst_list isi_lst_str isi_lst_dict isi_dct_int isi_dct_bool isi_dct_tuple isi_dct_list isi_dct_str isi_dct_dict ~oP_bindT ~withO_bind ~oP_condK ~oP_nx ~oP_rt ~SO.cs_nx ~SO.cs_rt ~WH.cs_go ~WH.cs_dn ~WH.cs_rt oP_some withO_some withO_condK condK_t condK_f iteB_some iteD_some ite_int ite_and ite_or get3_0 get3_1 get3_2 set3_0 set3_1 set3_2 gett2_0 gett2_1 isX_b isNotX_b mulLX_i Bool.and_eq_true Bool.or_eq_true true_implies and_true true_and implies_true Int.not_lt Int.not_le Bool.not_eq_true forall_const false_or true_or or_true or_false and_false false_and eq_self natz Bool.true_and Bool.and_true Bool.false_or Bool.or_false Bool.true_or Bool.or_true Bool.false_and Bool.and_false".splitOn " "
    let all ← (base ++ ls).toArray.mapM fun (l : String) => do
      if l.startsWith "~" then
        let i := Lean.mkIdent (l.drop 1).toString.toName
        `(Lean.Parser.Tactic.simpLemma| ↓ $i:term)
      else
        let i := Lean.mkIdent l.toName
        `(Lean.Parser.Tactic.simpLemma| $i:term)
    `(tactic| (try simp (disch := first | assumption | omega | decide | (simp only [List.length_cons, List.length_nil, List.length_append, List.length_map, List.length_range, rangeD_len, size_def]; omega) | (simp only [List.length_cons, List.length_nil, List.length_append, List.length_map, List.length_range, rangeD_len, size_def]; decide)) only [$all,*]; try refine withO_i ?_))
  | _ => Lean.Macro.throwUnsupported
section
section
variable {p m : Nat} {row g g1 : List Int}
theorem firstP_mem {n N : Nat} {F : List Int} (hf : firstP (p : Int) n F N = some g1) : Mem (p : Int) n g1 := rowsL_mem.mp (List.mem_of_find?_eq_some hf)
def fieldW (p : Int) (m : Nat) (kf : D) (l : List (D × D)) : List (Str × FV) :=
  putFV "kept_logs" (.d .t l) (putFV "kept_first" (.v kf) (putFV "one" (.v (tupI (oneL m))) (putFV "nought" (.v (tupI (List.replicate m 0))) (putFV "shape" (.v (leastD p m)) (putFV "m" (.v (.int m)) (putFV "p" (.v (.int p)) []))))))
theorem setW (kf : D) {l : List (D × D)} (k : List Int) (d : D) (hl : l.length < sizeLine) : setFX (fieldW p m kf l) "kept_logs" (tupI k) d = some (fieldW p m kf (putD l (tupI k) d)) := by
  show (if D.isKey .t (tupI k) = true ∧ l.length < sizeLine then some (putFV "kept_logs" (.d .t (putD l (tupI k) d)) (fieldW p m kf l)) else none) = _
  rw [if_pos ⟨isKey_tupI _, hl⟩]
  rfl
theorem cW (h : FP p m row g) (kf : D) (l : List (D × D)) : FldC (fieldW p m kf l) p m (row ++ [1]) := by
  have : leastD p m = tupI (row ++ [1]) := by unfold leastD; rw [h.shp]
  exact ⟨⟨h.fo, rfl, rfl, by rw [← this]; rfl, rfl, rfl, rfl⟩, rfl, rfl, rfl, rfl⟩
theorem firstW (h : FP p m row g) (hf : firstP (p : Int) m (row ++ [1]) (p ^ m - 1) = some g1) {kf : D} (hk : kf = .non ∨ kf = tupI g1) (l : List (D × D)) : m_Field_first (fieldW p m kf l) = some (tupI g1, fieldW p m (tupI g1) l) := by
  rcases hk with rfl | rfl
  · exact first_new (cW h .non l) h.gen h.q rfl hf rfl
  · exact first_kept rfl
theorem cut1 (ls : List (List Int)) : cutD (ls.map tupI) (some 1) none = (ls.drop 1).map tupI := by
  unfold cutD
  rw [HT.sIx_none, show HT.sIx (ls.map tupI).length 0 (some 1) = min 1 (ls.map tupI).length from HT.sIx_nat _ _ 1]
  cases ls with
  | nil => rfl
  | cons x ls =>
    rw [List.length_map, List.length_cons, show min 1 (ls.length + 1) = 1 by omega]
    show ((tupI x :: ls.map tupI).drop 1).take (ls.length + 1 - 1) = _
    rw [List.drop_one, List.tail_cons, show ls.length + 1 - 1 = (ls.map tupI).length by rw [List.length_map]; rfl, List.take_length]; rfl
end
section
variable {p m : Nat} {row g g1 : List Int}
theorem putS_new {α : Type} {l : List (List Int × α)} {k : List Int} (v : α) (h : ∀ q ∈ l, q.1 ≠ k) : putS l k v = l ++ [(k, v)] := by
  unfold putS
  rw [if_neg]
  intro e
  obtain ⟨q, hq, e⟩ := List.any_eq_true.mp e
  exact h q hq (of_decide_eq_true e)
structure Ord (p : Int) (m : Nat) (F a : List Int) (N e : Nat) : Prop where
  e1 : 1 ≤ e
  eN : e ≤ N
  lt : ∀ i, 0 < i → i < e → pw p F a i ≠ oneL m
  fin : pw p F a e = oneL m
def walkL (p : Int) (F a : List Int) (e : Nat) : List D := (List.range e).map fun i => tupI (pw p F a i)
theorem walkL_len (p : Int) (F a : List Int) (e : Nat) : (walkL p F a e).length = e := by unfold walkL; rw [List.length_map, List.length_range]
theorem walk_loop (h : FP p m row g) {a : List Int} (ha : Mem (p : Int) m a) (hz : a ≠ List.replicate m 0) : ∀ (k j : Nat), j + k = p ^ m - 1 → 1 ≤ j → (∀ i, 0 < i → i < j → pw p (row ++ [1]) a i ≠ oneL m) →
    ∃ e, Ord p m (row ++ [1]) a (p ^ m - 1) e ∧ ∃ x, whX (m_law_walk_w1 (.int p) (tupI (row ++ [1])) (tupI a) (tupI (oneL m))) (walkL p (row ++ [1]) a j, tupI (pw p (row ++ [1]) a j)) = some (.nx (walkL p (row ++ [1]) a e, x))
  | k, j, hjk, j1, hlt => by
    have p2 := h.p2
    have pb := h.pb
    have m2 := h.m2
    have hq := h.q
    have sz := size_def
    have ez : (p : Int) ^ m = ((p ^ m : Nat) : Int) := (Int.natCast_pow p m).symm
    by_cases z : pw p (row ++ [1]) a j = oneL m
    · refine ⟨j, ⟨j1, by omega, hlt, z⟩, tupI (pw p (row ++ [1]) a j), ?_⟩
      rw [whX_eq]
      unfold m_law_walk_w1
      dsimp only
      rw [neX_tupI, Option.bind_some, decide_eq_true z, if_neg (by decide), Option.bind_some, if_neg (by decide), Option.bind_some, WH.cs_dn]
    · match k, hjk with
      | 0, hjk => exact absurd ((h.fo.pw_un ha).mpr (by rw [show j = p ^ m - 1 by omega]; exact h.gen.fermat h.fo ha hz)) z
      | k + 1, hjk =>
        obtain ⟨e, ho, x, ex⟩ := walk_loop h ha hz k (j + 1) (by omega) (by omega) fun i i0 i1 => by
          rcases Nat.lt_or_ge i j with w | w
          · exact hlt i i0 w
          · rw [show i = j by omega]; exact z
        refine ⟨e, ho, x, ?_⟩
        have hl : (tupI (row ++ [1])) = .tup ((row ++ [1]).map D.int) := rfl
        have hm : ((row ++ [1]).map D.int).length = m + 1 := by rw [List.length_map]; have := h.fo.len; have := h.m1; omega
        have wl := walkL_len p (row ++ [1]) a j
        have es : m_law_walk_w1 (.int p) (tupI (row ++ [1])) (tupI a) (tupI (oneL m)) (walkL p (row ++ [1]) a j, tupI (pw p (row ++ [1]) a j)) = some (.go (walkL p (row ++ [1]) a (j + 1), tupI (pw p (row ++ [1]) a (j + 1)))) := by
          unfold m_law_walk_w1
          dsimp only
          rw [neX_tupI, Option.bind_some, decide_eq_false z, if_pos (by decide), lenX_lst, Option.bind_some, wl, hl, lenX_tup, hm, Option.bind_some, subX_i, Option.bind_some, show ((m + 1 : Nat) : Int) - 1 = (m : Int) by omega, lsize_ok p2 pb (by omega) (by omega), Option.bind_some, Int.toNat_natCast, ltAX_i, Option.bind_some, Option.bind_some, decide_eq_true (by omega), if_pos rfl, appX_ok (by rw [wl]; omega), Option.bind_some, ← hl, h.fo.lby_ok (h.fo.pw_mem ha j) ha, Option.bind_some]
          unfold walkL
          rw [List.range_succ, List.map_append]
          rfl
        rw [whX_eq, es, Option.bind_some, WH.cs_go]
        exact ex
theorem walk_ok (h : FP p m row g) {a : List Int} (ha : Mem (p : Int) m a) (hz : a ≠ List.replicate m 0) : ∃ e, Ord p m (row ++ [1]) a (p ^ m - 1) e ∧ m_law_walk (.int p) (tupI (row ++ [1])) (tupI a) = some (.lst (walkL p (row ++ [1]) a e)) := by
  have m2 := h.m2
  have m1 := h.m1
  have n1 := h.gen.n1
  obtain ⟨e, ho, x, ex⟩ := walk_loop h ha hz (p ^ m - 1 - 1) 1 (by omega) (by omega) fun i i0 i1 => by omega
  refine ⟨e, ho, ?_⟩
  have hl : (tupI (row ++ [1])) = .tup ((row ++ [1]).map D.int) := rfl
  have hm : ((row ++ [1]).map D.int).length = m + 1 := by rw [List.length_map]; have := h.fo.len; omega
  have e0 : walkL p (row ++ [1]) a 1 = [tupI (oneL m)] := by
    unfold walkL
    rw [show List.range 1 = [0] from rfl, List.map_singleton, pw_0 h.fo]
  rw [e0, pw_1 h.fo ha] at ex
  unfold m_law_walk
  rw [hl, lenX_tup, hm, Option.bind_some, subX_i, Option.bind_some, show ((m + 1 : Nat) : Int) - 2 = ((m - 1 : Nat) : Int) by omega, rep0 (by omega), Option.bind_some, one_ok m2 m1, Option.bind_some, ← hl, ex, Option.bind_some, SO.cs_nx]
theorem Ord.full {a : List Int} {N e : Nat} {F : List Int} (h : Ord p m F a N e) (hz : a ≠ List.replicate m 0) : Full p m F N a ↔ e = N := by
  constructor
  · intro f
    rcases Nat.lt_or_ge e N with w | w
    · exact absurd h.fin (f.2 e h.e1 w)
    · have := h.eN; omega
  · rintro rfl
    exact ⟨hz, h.lt⟩
open Classical in
theorem lfirst_loop (h : FP p m row g) : ∀ (rows : List (List Int)), (∀ a ∈ rows, Mem (p : Int) m a ∧ a ≠ List.replicate m 0) → (rows.find? fun a => decide (Full (p : Int) m (row ++ [1]) (p ^ m - 1) a)) = some g1 →
    forX (m_law_first_f1 (.int p) (tupI (row ++ [1])) (.int ((p ^ m - 1 : Nat) : Int))) (rows.map tupI) () = some (.rt (.tup [tupI g1, .lst (walkL p (row ++ [1]) g1 (p ^ m - 1))]))
  | [], _, hf => by cases hf
  | a :: rows, hm, hf => by
    obtain ⟨ha, hz⟩ := hm a List.mem_cons_self
    obtain ⟨e, ho, ew⟩ := walk_ok h ha hz
    have hfu := ho.full hz
    have es : m_law_first_f1 (.int p) (tupI (row ++ [1])) (.int ((p ^ m - 1 : Nat) : Int)) () (tupI a) = some (if e = p ^ m - 1 then .rt (.tup [tupI a, .lst (walkL p (row ++ [1]) a e)]) else .nx ()) := by
      unfold m_law_first_f1
      rw [ew, Option.bind_some, lenX_lst, Option.bind_some, walkL_len, eqX_i, Option.bind_some]
      by_cases z : e = p ^ m - 1
      · rw [decide_eq_true (by omega), if_pos rfl, if_pos z]
      · rw [decide_eq_false (by omega), if_neg (by decide), if_neg z]
    rw [List.map_cons, forX, es, Option.bind_some]
    rw [List.find?_cons] at hf
    by_cases z : e = p ^ m - 1
    · rw [decide_eq_true (hfu.mpr z)] at hf
      cases hf
      rw [if_pos z, SO.cs_rt, z]
    · rw [decide_eq_false fun w => z (hfu.mp w)] at hf
      rw [if_neg z, SO.cs_nx]
      exact lfirst_loop h rows (fun b hb => hm b (List.mem_cons_of_mem _ hb)) hf
open Classical in
theorem rows_tail (h : FP p m row g) : ∃ B, rowsL (p : Int) m = List.replicate m 0 :: B ∧ (∀ a ∈ B, Mem (p : Int) m a ∧ a ≠ List.replicate m 0) ∧ firstP (p : Int) m (row ++ [1]) (p ^ m - 1) = B.find? fun a => decide (Full (p : Int) m (row ++ [1]) (p ^ m - 1) a) := by
  have p2 := h.p2
  obtain ⟨B, e⟩ := spotsL_head (rs := List.replicate m (p : Int)) fun r hr => by rw [(List.mem_replicate.mp hr).2]; omega
  have ez : zeroL (List.replicate m (p : Int)) = List.replicate m 0 := by unfold zeroL; rw [List.map_replicate]
  rw [ez] at e
  have e : rowsL (p : Int) m = List.replicate m 0 :: B := e
  have nd : (rowsL (p : Int) m).Nodup := (spotsL_ris _).nodup
  rw [e] at nd
  refine ⟨B, e, fun a ha => ⟨rowsL_mem.mp (by rw [e]; exact List.mem_cons_of_mem _ ha), fun z => (List.nodup_cons.mp nd).1 (by rw [← z]; exact ha)⟩, ?_⟩
  unfold firstP
  rw [e, List.find?_cons, decide_eq_false fun f => f.1 rfl]
open Classical in
theorem firstP_some (h : FP p m row g) : ∃ g1, firstP (p : Int) m (row ++ [1]) (p ^ m - 1) = some g1 :=
  Option.isSome_iff_exists.mp (List.find?_isSome.mpr ⟨g, rowsL_mem.mpr h.gen.mem, decide_eq_true (h.gen.full h.fo)⟩)
open Classical in
theorem firstP_full (hf : firstP (p : Int) m (row ++ [1]) (p ^ m - 1) = some g1) : Full (p : Int) m (row ++ [1]) (p ^ m - 1) g1 := by
  have := List.find?_some (p := fun a => decide (Full (p : Int) m (row ++ [1]) (p ^ m - 1) a)) hf
  exact of_decide_eq_true this
theorem gen1 (h : FP p m row g) (hf : firstP (p : Int) m (row ++ [1]) (p ^ m - 1) = some g1) : Gen p m (row ++ [1]) g1 (p ^ m - 1) :=
  have hm := firstP_mem hf
  have f := firstP_full hf
  ⟨hm, h.gen.n1, h.gen.q, h.gen.fermat h.fo hm f.1, fun e e0 e1 u => f.2 e e0 e1 ((h.fo.pw_un hm).mpr u)⟩
theorem lfirst_ok (h : FP p m row g) (hf : firstP (p : Int) m (row ++ [1]) (p ^ m - 1) = some g1) : m_law_first (.int p) (tupI (row ++ [1])) = some (.tup [tupI g1, .lst (walkL p (row ++ [1]) g1 (p ^ m - 1))]) := by
  have p2 := h.p2
  have pb := h.pb
  have m2 := h.m2
  have m1 := h.m1
  have hq := h.q
  have n1 := h.gen.n1
  have ez : (p : Int) ^ m = ((p ^ m : Nat) : Int) := (Int.natCast_pow p m).symm
  obtain ⟨B, e1, e2, e3⟩ := rows_tail h
  rw [hf] at e3
  have hl : (tupI (row ++ [1])) = .tup ((row ++ [1]).map D.int) := rfl
  have hm : ((row ++ [1]).map D.int).length = m + 1 := by rw [List.length_map]; have := h.fo.len; omega
  have lp := lfirst_loop h B e2 e3.symm
  unfold m_law_first
  rw [hl, lenX_tup, hm, Option.bind_some, subX_i, Option.bind_some, show ((m + 1 : Nat) : Int) - 1 = (m : Int) by omega, lsize_ok p2 pb (by omega) (by omega), Option.bind_some, Int.toNat_natCast, subX_i, Option.bind_some, Option.bind_some, subX_i, Option.bind_some, show ((m + 1 : Nat) : Int) - 1 = (m : Int) by omega, lrows_ok p2 (by omega) (by omega) (by omega), Option.bind_some, slX_lst, cut1, e1, Option.bind_some, show ∀ x : List D, itX (.lst x) = some x from fun _ => rfl, Option.bind_some, show (p : Int) ^ m - 1 = ((p ^ m - 1 : Nat) : Int) by omega, ← hl, List.drop_one, List.tail_cons, lp, Option.bind_some, SO.cs_rt]
def logT (p : Int) (F g1 : List Int) (n : Nat) : List (List Int × Int) := (List.range n).map fun i => (pw p F g1 i, (i : Int))
theorem logT_put (h : FP p m row g) (hG : Gen p m (row ++ [1]) g1 (p ^ m - 1)) {j : Nat} (hj : j < p ^ m - 1) : putS (logT p (row ++ [1]) g1 j) (pw p (row ++ [1]) g1 j) (j : Int) = logT p (row ++ [1]) g1 (j + 1) := by
  rw [putS_new]
  · unfold logT
    rw [List.range_succ, List.map_append]; rfl
  · intro q hq
    obtain ⟨i, hi, rfl⟩ := List.mem_map.mp hq
    exact hG.pw_inj h.fo (List.mem_range.mp hi) hj
theorem logT_len (p : Int) (F g1 : List Int) (n : Nat) : (logT p F g1 n).length = n := by unfold logT; rw [List.length_map, List.length_range]
theorem logT_get (h : FP p m row g) (hG : Gen p m (row ++ [1]) g1 (p ^ m - 1)) {i : Nat} (hi : i < p ^ m - 1) : getS (logT p (row ++ [1]) g1 (p ^ m - 1)) (pw p (row ++ [1]) g1 i) = some (i : Int) := by
  unfold getS
  have e : (logT p (row ++ [1]) g1 (p ^ m - 1)).find? (fun q => decide (q.1 = pw p (row ++ [1]) g1 i)) = some (pw p (row ++ [1]) g1 i, (i : Int)) := by
    obtain ⟨q, hq⟩ := Option.isSome_iff_exists.mp (List.find?_isSome.mpr ⟨(pw p (row ++ [1]) g1 i, (i : Int)), List.mem_map.mpr ⟨i, List.mem_range.mpr hi, rfl⟩, decide_eq_true rfl⟩ : ((logT p (row ++ [1]) g1 (p ^ m - 1)).find? (fun q => decide (q.1 = pw p (row ++ [1]) g1 i))).isSome = true)
    rw [hq]
    have h1 := List.find?_some (p := fun q : List Int × Int => decide (q.1 = pw p (row ++ [1]) g1 i)) hq
    have h1 := of_decide_eq_true h1
    obtain ⟨k, hk, rfl⟩ := List.mem_map.mp (List.mem_of_find?_eq_some hq)
    have hk := List.mem_range.mp hk
    have : k = i := by
      rcases Nat.lt_trichotomy k i with w | w | w
      · exact absurd h1 (hG.pw_inj h.fo w hi)
      · exact w
      · exact absurd h1.symm (hG.pw_inj h.fo w hk)
    rw [this]
  rw [e]; rfl
theorem log_fold (h : FP p m row g) (hf : firstP (p : Int) m (row ++ [1]) (p ^ m - 1) = some g1) (a : D) : ∀ (k j : Nat) (kf : D), (kf = .non ∨ kf = tupI g1) → j + k = p ^ m - 1 →
    ∃ kf' t', (kf' = .non ∨ kf' = tupI g1) ∧ foldX (m_Field_log_f2 a) (rangeD j 1 k) (fieldW p m kf (dctS D.int (logT p (row ++ [1]) g1 j)), tupI (pw p (row ++ [1]) g1 j)) = some (fieldW p m kf' (dctS D.int (logT p (row ++ [1]) g1 (p ^ m - 1))), t')
  | 0, j, kf, hk, e => ⟨kf, _, hk, by rw [← e]; rfl⟩
  | k + 1, j, kf, hk, hjk => by
    have sz := size_def
    have hq := h.q
    have hg := firstP_mem hf
    have ez : (p : Int) ^ m = ((p ^ m : Nat) : Int) := (Int.natCast_pow p m).symm
    have hG := gen1 h hf
    have e : m_Field_log_f2 a (fieldW p m kf (dctS D.int (logT p (row ++ [1]) g1 j)), tupI (pw p (row ++ [1]) g1 j)) (.int (j : Int)) = some (fieldW p m (tupI g1) (dctS D.int (logT p (row ++ [1]) g1 (j + 1))), tupI (pw p (row ++ [1]) g1 (j + 1))) := by
      unfold m_Field_log_f2
      dsimp only
      rw [setW kf _ _ (by unfold dctS; rw [List.length_map, logT_len]; omega), Option.bind_some, put_S, logT_put h hG (by omega), firstW h hf hk, Option.bind_some]
      dsimp only
      rw [(cW h (tupI g1) _).fd.by_ok (h.fo.pw_mem hg j) hg, Option.bind_some, flat_tupI, Option.bind_some]
      rfl
    obtain ⟨kf', t', hk', ih⟩ := log_fold h hf a k (j + 1) (tupI g1) (.inr rfl) (by omega)
    refine ⟨kf', t', hk', ?_⟩
    rw [rangeD_up, foldX, e, Option.bind_some, ih]
/-- what a field may hold -/
def St (p m : Nat) (F g1 : List Int) (s : List (Str × FV)) : Prop := ∃ (kf : D) (l : List (List Int × Int)), (kf = .non ∨ kf = tupI g1) ∧ (l = [] ∨ l = logT p F g1 (p ^ m - 1)) ∧ s = fieldW p m kf (dctS D.int l)
theorem st_new (h : FP p m row g) : St p m (row ++ [1]) g1 (fieldV p m []) := ⟨.non, [], .inl rfl, .inl rfl, rfl⟩
theorem st_fd (h : FP p m row g) {s : List (Str × FV)} (hs : St p m (row ++ [1]) g1 s) : FldD (frzI "Field" s) p m (row ++ [1]) := by
  obtain ⟨kf, l, _, _, rfl⟩ := hs
  exact (cW h kf _).fd
theorem st_first (h : FP p m row g) (hf : firstP (p : Int) m (row ++ [1]) (p ^ m - 1) = some g1) {s : List (Str × FV)} (hs : St p m (row ++ [1]) g1 s) : ∃ s', m_Field_first s = some (tupI g1, s') ∧ St p m (row ++ [1]) g1 s' := by
  obtain ⟨kf, l, h1, h2, rfl⟩ := hs
  exact ⟨_, firstW h hf h1 _, tupI g1, l, .inr rfl, h2, rfl⟩
theorem st_nought (h : FP p m row g) {s : List (Str × FV)} (hs : St p m (row ++ [1]) g1 s) : m_Field_log s (tupI (List.replicate m 0)) = some (.er "NoMember") := by
  obtain ⟨kf, l, h1, h2, rfl⟩ := hs
  unfold m_Field_log
  rw [(cW h kf _).cnought, Option.bind_some, eqX_tupI, Option.bind_some, decide_eq_true rfl, if_pos rfl]
theorem st_log (h : FP p m row g) (hf : firstP (p : Int) m (row ++ [1]) (p ^ m - 1) = some g1) {s : List (Str × FV)} (hs : St p m (row ++ [1]) g1 s) {i : Nat} (hi : i < p ^ m - 1) : ∃ s', m_Field_log s (tupI (pw p (row ++ [1]) g1 i)) = some (.ok (.int i, s')) ∧ St p m (row ++ [1]) g1 s' := by
  have p2 := h.p2
  have pb := h.pb
  have m2 := h.m2
  have hq := h.q
  have n1 := h.gen.n1
  have hG := gen1 h hf
  have ez : (p : Int) ^ m = ((p ^ m : Nat) : Int) := (Int.natCast_pow p m).symm
  have hne := hG.pw_ne h.fo (i := i) (by omega)
  have eg : ∀ kf, getFX (fieldW p m kf (dctS D.int (logT p (row ++ [1]) g1 (p ^ m - 1)))) "kept_logs" (tupI (pw p (row ++ [1]) g1 i)) = some (.int i) := fun kf => by
    show (if D.isKey .t (tupI (pw p (row ++ [1]) g1 i)) then lookD (dctS D.int (logT p (row ++ [1]) g1 (p ^ m - 1))) (tupI (pw p (row ++ [1]) g1 i)) else none) = _
    rw [if_pos (isKey_tupI _), look_S, logT_get h hG hi]
    rfl
  obtain ⟨kf, l, h1, h2, rfl⟩ := hs
  have full : ∀ l, l = logT p (row ++ [1]) g1 (p ^ m - 1) → empFX (fieldW p m kf (dctS D.int l)) "kept_logs" = some false := fun l e => by
    have : (dctS D.int l).length = p ^ m - 1 := by rw [e]; unfold dctS; rw [List.length_map, logT_len]
    show some (dctS D.int l).isEmpty = some false
    cases e2 : dctS D.int l with
    | nil => rw [e2] at this; simp at this; omega
    | cons _ _ => rfl
  unfold m_Field_log
  rw [(cW h kf _).cnought, Option.bind_some, eqX_tupI, Option.bind_some, decide_eq_false hne, if_neg (by decide)]
  unfold m_Field_log_j1
  rcases h2 with rfl | h2
  · obtain ⟨kf', t', hk', e⟩ := log_fold h hf (tupI (pw p (row ++ [1]) g1 i)) (p ^ m - 1) 0 kf h1 (by omega)
    rw [pw_0 h.fo] at e
    have e' : foldX (m_Field_log_f2 (tupI (pw p (row ++ [1]) g1 i))) (rangeD 0 1 ((p : Int) ^ m - 1).toNat) (fieldW p m kf (dctS D.int []), tupI (oneL m)) = some (fieldW p m kf' (dctS D.int (logT p (row ++ [1]) g1 (p ^ m - 1))), t') := by
      rw [show ((p : Int) ^ m - 1).toNat = p ^ m - 1 by omega]
      exact e
    rw [show empFX (fieldW (p : Int) m kf (dctS D.int ([] : List (List Int × Int)))) "kept_logs" = some true from rfl, Option.bind_some, if_pos rfl, (cW h kf _).cone, Option.bind_some, (cW h kf _).cp, Option.bind_some, (cW h kf _).cm, Option.bind_some, to_the_ok (by omega) (by omega) (by omega), Option.bind_some, subX_i, Option.bind_some, rg1X_i (by omega) (by omega), Option.bind_some, e', Option.bind_some, Option.bind_some, eg kf', Option.bind_some]
    exact ⟨_, rfl, kf', _, hk', .inr rfl, rfl⟩
  · rw [full l h2, Option.bind_some, if_neg (by decide), Option.bind_some]
    subst h2
    rw [eg kf, Option.bind_some]
    exact ⟨_, rfl, kf, _, h1, .inr rfl, rfl⟩
end
end
section
theorem only4_ok : m_law_only (.exc "NoMember") (.int 4) = some (.bl true) := by rfl
theorem rep_int {i : Int} (h : i.natAbs < 10 ^ 40) : reprX (.int i) = some (.str (D.int i).py.shown) := reprX_ok (n := 1) rfl (by decide) (decide_eq_true h) (by show 45 ≤ 2 ^ 24; decide)
def q19 : FT4 := ⟨19, 2, [1, 0], [1, 3]⟩
def q349 : FT4 := ⟨349, 1, [0], [2]⟩
theorem f19 : FP 19 2 [1, 0] [1, 3] := fp_of (q := q19) (by decide +kernel) (by decide +kernel)
theorem f349 : FP 349 1 [0] [2] := fp_of (q := q349) (by decide +kernel) (by decide +kernel)
def atL (is : List Nat) : List FT4 := is.filterMap fun i => ftL[i]?
theorem atL_fp {is : List Nat} {c : FT4} (h : c ∈ atL is) : FP c.p c.m c.w c.g := by
  obtain ⟨i, _, e⟩ := List.mem_filterMap.mp h
  exact ft_fp (List.mem_of_getElem? e)
def otherL : List FT4 := atL [20, 21, 22, 23, 24, 37] ++ [q19, q349]
def greatL : List FT4 := atL [29, 30, 31, 32, 33, 34, 35, 27, 26, 28]
theorem pair_ok {n : Nat} {hd : List D} (h : PotOk n hd) (hn : n < 1000) : ∃ (q : List D) (f : FT4), m_law_pair hd = some (.tup [.int f.p, .int f.m], q) ∧ FP f.p f.m f.w f.g ∧ PotOk (n + 2) q := by
  unfold m_law_pair
  rw [addX_lst (by decide), Option.bind_some]
  obtain ⟨w, q1, e1, _, _, h1⟩ := take_eq (m := 8) h (by omega) (by decide) (by decide)
  rw [e1, Option.bind_some, eqX_i, Option.bind_some]
  split
  · obtain ⟨i, q2, e2, i0, i1, h2⟩ := take_eq (m := 8) h1 (by omega) (by decide) (by decide)
    rw [e2, Option.bind_some]
    obtain ⟨x, hx, _, ex⟩ := getX_lst (l := otherL.map pairD) (i := i) i0 i1
    obtain ⟨c, hc, rfl⟩ := List.mem_map.mp hx
    refine ⟨q2, c, ?_, ?_, h2⟩
    · show ((getX (.lst (otherL.map pairD)) (.int i)).bind _) = _
      rw [ex, Option.bind_some]; rfl
    · rcases List.mem_append.mp hc with hc | hc
      · exact atL_fp hc
      · rcases List.mem_cons.mp hc with rfl | hc
        · exact f19
        · rcases List.mem_singleton.mp hc with rfl
          exact f349
  · obtain ⟨i, q2, e2, i0, i1, h2⟩ := take_eq (m := 20) h1 (by omega) (by decide) (by decide)
    rw [e2, Option.bind_some]
    obtain ⟨x, hx, _, ex⟩ := getX_lst (l := (ftL.take 20).map pairD) (i := i) i0 i1
    obtain ⟨c, hc, rfl⟩ := List.mem_map.mp hx
    refine ⟨q2, c, ?_, ft_fp (List.mem_of_mem_take hc), h2⟩
    show ((getX (.lst ((ftL.take 20).map pairD)) (.int i)).bind _) = _
    rw [ex, Option.bind_some]; rfl
section
variable {p m : Nat} {row g g1 : List Int}
theorem refused_ok (h : FP p m row g) {s : List (Str × FV)} (hs : St p m (row ++ [1]) g1 s) : m_law_refused s (.int m) = some (.bl true, s) := by
  unfold m_law_refused m_law_refused_t1
  rw [rep0 h.m2, Option.bind_some, st_nought h hs, bindE_er]
  have e1 : m_law_refused_t1x s (.int m) .non "NoMember" = some (s, .exc "NoMember") := rfl
  rw [e1, Option.bind_some, only4_ok, Option.bind_some]
/-- drawn numbers -/
theorem nums {N : Int} {n : Nat} {a : List Int} (h : Mem N n a) : ∃ ks : List Nat, a.map D.int = ks.map (fun k : Nat => D.int (k : Int)) ∧ ks.length = n ∧ ∀ k ∈ ks, (k : Int) < N := by
  refine ⟨a.map Int.toNat, ?_, by rw [List.length_map]; exact h.1, fun k hk => ?_⟩
  · rw [List.map_map]
    apply List.map_congr_left
    intro x hx
    have := h.2 x hx
    show D.int x = D.int ((x.toNat : Nat) : Int)
    rw [show ((x.toNat : Nat) : Int) = x by omega]
  · obtain ⟨x, hx, rfl⟩ := List.mem_map.mp hk
    have := h.2 x hx
    omega
theorem great_c2 (h : FP p m row g) (hf : firstP (p : Int) m (row ++ [1]) (p ^ m - 1) = some g1) {s : List (Str × FV)} (hs : St p m (row ++ [1]) g1 s) {k : Nat} (hk : k < p ^ m - 1) : ∃ s', m_law_great_right_c2 s (.int (k : Int)) = some (.bl true, s') ∧ St p m (row ++ [1]) g1 s' := by
  have hq := h.q
  have ez : (p : Int) ^ m = ((p ^ m : Nat) : Int) := (Int.natCast_pow p m).symm
  obtain ⟨s1, e1, h1⟩ := st_first h hf hs
  obtain ⟨s2, e2, h2⟩ := st_log h hf h1 hk
  unfold m_law_great_right_c2
  rw [e1, Option.bind_some, (st_fd h h1).power_ok (firstP_mem hf) k, Option.bind_some, flat_tupI, Option.bind_some, e2, Option.bind_some, Ex.un_ok, Option.bind_some, rep_int (by omega), Option.bind_some, Option.bind_some, eqX_str_self, Option.bind_some]
  exact ⟨s2, rfl, h2⟩
theorem great_ok {n : Nat} {hd : List D} (hh : PotOk n hd) (hn : n < 1000) : ∃ q, m_law_great_right hd = some (.bl true, q) := by
  unfold m_law_great_right
  obtain ⟨i, q2, e2, i0, i1, h2⟩ := take_eq (m := 10) hh (by omega) (by decide) (by decide)
  rw [e2, Option.bind_some]
  obtain ⟨x, hx, _, ex⟩ := getX_lst (l := greatL.map pairD) (i := i) i0 i1
  obtain ⟨c, hc, rfl⟩ := List.mem_map.mp hx
  have h := atL_fp hc
  have p2 := h.p2
  have pb := h.pb
  have m2 := h.m2
  have hq := h.q
  have n1 := h.gen.n1
  have sz := size_def
  have ez : (c.p : Int) ^ c.m = ((c.p ^ c.m : Nat) : Int) := (Int.natCast_pow c.p c.m).symm
  obtain ⟨g1, hf⟩ := firstP_some h
  have ex : getX (.lst [(.tup [(.int 2), (.int 10)]), (.tup [(.int 11), (.int 3)]), (.tup [(.int 43), (.int 2)]), (.tup [(.int 2), (.int 11)]), (.tup [(.int 3), (.int 7)]), (.tup [(.int 13), (.int 3)]), (.tup [(.int 2179), (.int 1)]), (.tup [(.int 3), (.int 6)]), (.tup [(.int 5), (.int 4)]), (.tup [(.int 31), (.int 2)])]) (.int i) = some (.tup [.int c.p, .int c.m]) := ex
  rw [ex, Option.bind_some, tup2X_ok, Option.bind_some]
  dsimp only
  rw [init_ok h, Option.bind_some, show nonX (D.non, fieldV (c.p : Int) c.m ([] : List (Str × FV))).1 = some () from rfl, Option.bind_some, lsize_ok p2 pb (by omega) (by omega), Option.bind_some, Int.toNat_natCast, subX_i, Option.bind_some, subX_i, Option.bind_some, rg1X_i (by decide) (by decide), Option.bind_some]
  obtain ⟨a, q, e, ha, _⟩ := draw_ok (f := m_law_great_right_c1 (.int ((c.p : Int) ^ c.m - 1))) (p := (c.p : Int) ^ c.m - 1) (m := 4) (fun _ _ => rfl) (by omega) (by omega) (by omega) h2 (by omega)
  have e : mapSX (m_law_great_right_c1 (.int ((c.p : Int) ^ c.m - 1))) (rangeD 0 1 (4 : Int).toNat) q2 = some (a.map D.int, q) := e
  obtain ⟨ks, ek, kl, kb⟩ := nums ha
  rw [e, Option.bind_some, ek]
  have el : addX (.lst [.int 0, .int ((c.p : Int) ^ c.m - 1 - 1)]) (.lst (ks.map fun k : Nat => D.int (k : Int))) = some (.lst ((0 :: (c.p ^ c.m - 1 - 1) :: ks).map fun k : Nat => D.int (k : Int))) := by
    rw [addX_lst (by rw [List.length_map, kl]; show 2 + 4 ≤ sizeLine; omega), List.map_cons, List.map_cons, show (c.p : Int) ^ c.m - 1 - 1 = ((c.p ^ c.m - 1 - 1 : Nat) : Int) by omega]
    rfl
  rw [el, Option.bind_some, show ∀ x : List D, itX (.lst x) = some x from fun _ => rfl, Option.bind_some]
  have hks : ∀ k ∈ (0 :: (c.p ^ c.m - 1 - 1) :: ks), k < c.p ^ c.m - 1 := fun k hk => by
    rcases List.mem_cons.mp hk with rfl | hk
    · omega
    · rcases List.mem_cons.mp hk with rfl | hk
      · omega
      · have := kb k hk; omega
  obtain ⟨l, s, e3, hl, hp, _⟩ := mapSX_inv (f := m_law_great_right_c2) (fun _ s => St c.p c.m (c.w ++ [1]) g1 s) (fun _ y => y = D.bl true) (ds := (0 :: (c.p ^ c.m - 1 - 1) :: ks).map fun k : Nat => D.int (k : Int)) (s := fieldV (c.p : Int) c.m []) (by rw [List.length_map, List.length_cons, List.length_cons, kl]; omega) (st_new h) (fun j d s hj hs => by
    obtain ⟨k, hk, rfl⟩ := List.mem_map.mp (List.mem_of_getElem? hj)
    obtain ⟨s', e', h'⟩ := great_c2 h hf hs (hks k hk)
    exact ⟨_, s', e', rfl, h'⟩)
  have hall : l = (List.replicate l.length true).map D.bl := by
    apply List.ext_getElem?
    intro j
    rw [List.map_replicate, List.getElem?_replicate]
    split
    · rename_i w
      rw [List.getElem?_eq_getElem w, hp j _ (List.getElem?_eq_getElem w)]
    · rename_i w
      exact List.getElem?_eq_none (by omega)
  have e3 : mapSX (m_law_great_right_c2) ((0 :: (c.p ^ c.m - 1 - 1) :: ks).map fun k : Nat => D.int (k : Int)) (fieldV (c.p : Int) c.m []) = some (l, s) := e3
  rw [e3, Option.bind_some]
  dsimp only
  rw [hall, allX_ok, Option.bind_some]
  refine ⟨q, ?_⟩
  rw [show (List.replicate l.length true).all id = true from List.all_eq_true.mpr fun x hx => (List.mem_replicate.mp hx).2]
theorem f3_ok (h : FP p m row g) (hf : firstP (p : Int) m (row ++ [1]) (p ^ m - 1) = some g1) (scr : D) {s : List (Str × FV)} (hs : St p m (row ++ [1]) g1 s) {k : Nat} (hk : k < p ^ m - 1) : ∃ s', m_law_f3 scr (.lst (walkL p (row ++ [1]) g1 (p ^ m - 1))) s (.int (k : Int)) = some (.nx s') ∧ St p m (row ++ [1]) g1 s' := by
  have hq := h.q
  have ez : (p : Int) ^ m = ((p ^ m : Nat) : Int) := (Int.natCast_pow p m).symm
  obtain ⟨s2, e2, h2⟩ := st_log h hf hs hk
  unfold m_law_f3
  rw [getX_nat (x := tupI (pw p (row ++ [1]) g1 k)) (by unfold walkL; rw [List.getElem?_map, List.getElem?_range hk]; rfl), Option.bind_some, e2, Option.bind_some, Ex.un_ok, Option.bind_some, rep_int (by omega), Option.bind_some, Option.bind_some, neX_str_self, Option.bind_some, if_neg (by decide)]
  exact ⟨s2, rfl, h2⟩
end
theorem f1_ok (ns : List Int) (i : Nat) (hi : i < 10) : oP (m_law_f1 (.scr (ns.map D.int)) () (.int i)) fun o => o.cs (fun _ => True) fun _ => False := by
  unfold m_law_f1
  rw [oP_bind]
  refine oP_mono (hand_ok (by omega) (by omega)) fun hd hhd => ?_
  obtain ⟨q, c, e, h, hq1⟩ := pair_ok hhd (by omega)
  have p2 := h.p2
  have pb := h.pb
  have m2 := h.m2
  have hq := h.q
  have n1 := h.gen.n1
  have sz := size_def
  have ez : (c.p : Int) ^ c.m = ((c.p ^ c.m : Nat) : Int) := (Int.natCast_pow c.p c.m).symm
  obtain ⟨g1, hf⟩ := firstP_some h
  have hg := firstP_mem hf
  obtain ⟨X, hX⟩ := rep_mem_ok h hg
  rw [e, Option.bind_some, tup2X_ok, Option.bind_some]
  dsimp only
  rw [init_ok h, Option.bind_some, show nonX (D.non, fieldV (c.p : Int) c.m ([] : List (Str × FV))).1 = some () from rfl, Option.bind_some]
  obtain ⟨t, q2, e2, t0, t1, h2⟩ := take_eq (m := 2) hq1 (by omega) (by decide) (by decide)
  have hform : m_Field_form (frzI "Field" (fieldV (c.p : Int) c.m [])) = some (tupI (c.w ++ [1])) := by
    have := h.fld.shape
    unfold fieldS at this
    unfold m_Field_form
    rw [this]; rfl
  rw [e2, Option.bind_some, hform, Option.bind_some, flat_tupI, Option.bind_some, lfirst_ok h hf, Option.bind_some, tup2X_ok, Option.bind_some, rg1X_i (by decide) (by decide), Option.bind_some]
  obtain ⟨N, eN⟩ : ∃ N, c.p ^ c.m - 1 = N := ⟨_, rfl⟩
  obtain ⟨a, q3, e3, ha, _⟩ := draw_ok (f := m_law_c2 (.lst (walkL c.p (c.w ++ [1]) g1 (c.p ^ c.m - 1)))) (p := ((c.p ^ c.m - 1 : Nat) : Int)) (m := 6) (fun s d => by
    unfold m_law_c2
    rw [lenX_lst, walkL_len, Option.bind_some]) (by omega) (by omega) (by omega) h2 (by omega)
  have e3 : mapSX (m_law_c2 (.lst (walkL c.p (c.w ++ [1]) g1 (c.p ^ c.m - 1)))) (rangeD 0 1 (6 : Int).toNat) q2 = some (a.map D.int, q3) := e3
  obtain ⟨ks, ek, kl, kb⟩ := nums ha
  dsimp only
  rw [e3, Option.bind_some, lenX_lst, walkL_len, Option.bind_some, min2X_i, Option.bind_some, ek]
  obtain ⟨M, eM, M1, M2⟩ : ∃ M : Nat, (if ((c.p ^ c.m - 1 : Nat) : Int) < 64 then ((c.p ^ c.m - 1 : Nat) : Int) else 64) = (M : Int) ∧ M ≤ 64 ∧ M ≤ c.p ^ c.m - 1 := by
    split
    · exact ⟨_, rfl, by omega, by omega⟩
    · exact ⟨64, rfl, by omega, by omega⟩
  rw [eM]
  have er : lrg1X (.int (M : Int)) = some ((List.range M).map fun k : Nat => D.int (k : Int)) := by
    unfold lrg1X
    rw [show asI (.int (M : Int)) = some (M : Int) from rfl, Option.bind_some, if_pos (by unfold RgOk; omega), Int.sub_zero, Int.toNat_natCast, range0_eq]
  rw [er, Option.bind_some]
  dsimp only
  rw [addX_lst (by rw [List.length_map, List.length_map, List.length_range]; omega), Option.bind_some, ← List.map_append]
  obtain ⟨js, ejs⟩ : ∃ js, ks ++ List.range M = js := ⟨_, rfl⟩
  have hjs : ∀ k ∈ js, k < c.p ^ c.m - 1 := fun k hk => by
    rw [← ejs] at hk
    rcases List.mem_append.mp hk with hk | hk
    · have := kb k hk; omega
    · have := List.mem_range.mp hk; omega
  have ljs : js.length ≤ 70 := by rw [← ejs, List.length_append, List.length_range]; omega
  obtain ⟨j0, js', ej⟩ : ∃ j0 js', js = j0 :: js' := by
    cases ks with
    | nil => simp at kl
    | cons x xs => exact ⟨x, _, ejs.symm⟩
  have g0 : getX (.lst (js.map fun k : Nat => D.int (k : Int))) (.int 0) = some (.int (j0 : Int)) := getX_nat (n := 0) (by rw [ej]; rfl)
  have hj0 := hjs j0 (by rw [ej]; exact List.mem_cons_self)
  rw [ejs, eqX_i, Option.bind_some]
  have part1 : ∃ s1, (if decide (t = 0) = true then (getX (.lst (js.map fun k : Nat => D.int (k : Int))) (.int 0)).bind fun t27 =>
    (getX (.lst (walkL c.p (c.w ++ [1]) g1 (c.p ^ c.m - 1))) t27).bind fun t28 =>
    (m_Field_log (fieldV (c.p : Int) c.m []) t28).bind fun t29 =>
    (t29.un).bind fun t30 =>
    (reprX t30.1).bind fun t31 =>
    (getX (.lst (js.map fun k : Nat => D.int (k : Int))) (.int 0)).bind fun t32 =>
    (reprX t32).bind fun t33 =>
    (neX t31 t33).bind fun t34 =>
    some (t34, t30.2) else some (false, fieldV (c.p : Int) c.m [])) = some (false, s1) ∧ St c.p c.m (c.w ++ [1]) g1 s1 := by
    split
    · obtain ⟨s2, e4, h4⟩ := st_log h hf (st_new h) hj0
      rw [g0, Option.bind_some, getX_nat (x := tupI (pw c.p (c.w ++ [1]) g1 j0)) (by unfold walkL; rw [List.getElem?_map, List.getElem?_range hj0]; rfl), Option.bind_some, e4, Option.bind_some, Ex.un_ok, Option.bind_some, rep_int (by omega), Option.bind_some, Option.bind_some]
      dsimp only
      rw [rep_int (by omega), Option.bind_some, neX_str_self, Option.bind_some]
      exact ⟨s2, rfl, h4⟩
    · exact ⟨_, rfl, st_new h⟩
  obtain ⟨s1, e4, h4⟩ := part1
  obtain ⟨s2, e5, h5⟩ := st_first h hf h4
  obtain ⟨s3, e6, h6⟩ := st_first h hf h5
  rw [e4, Option.bind_some]
  dsimp only
  rw [if_neg (by decide)]
  rw [e5, Option.bind_some, hX, Option.bind_some, Option.bind_some, neX_str_self, Option.bind_some, if_neg (by decide)]
  dsimp only
  rw [refused_ok h h5, Option.bind_some, truX_bl, Option.bind_some, if_neg (by decide), e6, Option.bind_some, hX, Option.bind_some, Option.bind_some, neX_str_self, Option.bind_some, Option.bind_some, Option.bind_some]
  dsimp only
  rw [if_neg (by decide), slX_lst, Option.bind_some]
  have ecut : cutD (js.map fun k : Nat => D.int (k : Int)) none (some 2) = (js.take 2).map fun k : Nat => D.int (k : Int) := by
    unfold cutD
    rw [HT.sIx_none, show HT.sIx (js.map fun k : Nat => D.int (k : Int)).length _ (some 2) = min 2 (js.map fun k : Nat => D.int (k : Int)).length from HT.sIx_nat _ _ 2, List.map_take, List.drop_zero, Nat.sub_zero]
    rcases Nat.le_total 2 (js.map fun k : Nat => D.int (k : Int)).length with w | w
    · rw [Nat.min_eq_left w]
    · rw [Nat.min_eq_right w, List.take_length, List.take_of_length_le w]
  rw [ecut, addX_lst (by rw [List.length_map, List.length_map, List.length_take]; omega), Option.bind_some, show ∀ x : List D, itX (.lst x) = some x from fun _ => rfl, Option.bind_some, oP_bind]
  refine oP_forN (fun _ s => St c.p c.m (c.w ++ [1]) g1 s) h6 (fun j d s hj hs => ?_) fun s _ => trivial
  rw [← List.map_append] at hj
  obtain ⟨k, hk, rfl⟩ := List.mem_map.mp (List.mem_of_getElem? hj)
  have hk : k ∈ js := by
    rcases List.mem_append.mp hk with hk | hk
    · exact hk
    · exact List.mem_of_mem_take hk
  obtain ⟨s', e', h'⟩ := f3_ok h hf (.scr (ns.map D.int)) hs (hjs k hk)
  rw [e']
  exact h'
theorem law_true (ns : List Int) (hn : ns.length ≤ 63) : m_law (.scr (ns.map D.int)) = some (.bl true) := by
  refine oP_eq ?_
  unfold m_law
  rw [oP_bind]
  refine oP_mono (hand_ok (by omega) (by omega)) fun hd hhd => ?_
  obtain ⟨q, e⟩ := great_ok hhd (by omega)
  rw [e, Option.bind_some, truX_bl, Option.bind_some, if_neg (by decide), lenX_scr, Option.bind_some, List.length_map, min2X_i, Option.bind_some, max2X_i, Option.bind_some]
  rw [rg1X_i (by split <;> split <;> omega) (by split <;> split <;> omega), Option.bind_some, oP_bind]
  refine oP_forN (fun _ _ => True) trivial (fun i d s hi _ => ?_) fun s _ => rfl
  obtain ⟨hi', rfl⟩ := in_range hi
  exact f1_ok ns i (by split at hi' <;> split at hi' <;> omega)
end
end TL
namespace TL
open PySem PySem.Spec PyProof.Rows L2
def sp_law : TSpec := spLaw
theorem ok_law : ∀ args PQ PX, sp_law args PQ PX → w_law (fnX args PX) (start0 12 args) (fnD args PQ) := by
  rintro args PQ PX ⟨ns, rfl, hn, hq⟩
  rw [e_law, law_true ns hn]; exact hq
theorem hl_law : ∀ args PQ PX, sp_law args PQ PX → args.length = 1 := by
  rintro args PQ PX ⟨ns, rfl, h⟩; rfl
def topS (i : Nat) : Stmt := PySem.Challenge.pw_evendiffs_k18_firsts_and_logs.main.body.getD i (.Pass ⟨0, 0, 0, 0⟩)
structure Txt (K : PySem.W.Frag) (mg : Str → Option Value) : Prop where
  b_ValueError : mg "ValueError" = none
  b_all : mg "all" = none
  b_any : mg "any" = none
  b_divmod : mg "divmod" = none
  b_enumerate : mg "enumerate" = none
  b_int : mg "int" = none
  b_isinstance : mg "isinstance" = none
  b_len : mg "len" = none
  b_list : mg "list" = none
  b_max : mg "max" = none
  b_min : mg "min" = none
  b_range : mg "range" = none
  b_repr : mg "repr" = none
  b_tuple : mg "tuple" = none
  b_zip : mg "zip" = none
  c_MOST_MEMBERS : ∃ t, mg "MOST_MEMBERS" = some (.int 2200 t)
  c_MOST_PLACES : ∃ t, mg "MOST_PLACES" = some (.int 11 t)
  k_EvenError : ClsF K mg "EvenError"
  k_NoField : ClsF K mg "NoField"
  k_NoLine : ClsF K mg "NoLine"
  k_NoMember : ClsF K mg "NoMember"
  k_NoName : ClsF K mg "NoName"
  k_NoNumber : ClsF K mg "NoNumber"
  k_NoRings : ClsF K mg "NoRings"
  k_NoRow : ClsF K mg "NoRow"
  k_NoSpot : ClsF K mg "NoSpot"
  k_NoText : ClsF K mg "NoText"
  k_NoTurn : ClsF K mg "NoTurn"
  k_NoWay : ClsF K mg "NoWay"
  k_TooMany : ClsF K mg "TooMany"
  r_NoMember : RaiseF K mg "NoMember"
  t_EvenError : TryF K mg ["NoMember"] "EvenError"
  xt : XTab K ["NoMember"] ["NoField", "NoLine", "NoMember", "NoName", "NoNumber", "NoRings", "NoRow", "NoSpot", "NoText", "NoTurn", "NoWay", "TooMany"]
  z_Field : ClsT K mg "Field"
abbrev s_primes_in : Stmt := topS 16
abbrev n_primes_in : List Str := ["n", "found", "prime", "often"]
abbrev p_primes_in : List Str := ["n"]
theorem sc_primes_in : FnScope n_primes_in p_primes_in (defScope s_primes_in) := ⟨rfl, rfl, rfl, by decide +kernel, rfl, by decide +kernel, by decide +kernel⟩
abbrev s_to_the : Stmt := topS 21
abbrev n_to_the : List Str := ["p", "m", "found", "turn"]
abbrev p_to_the : List Str := ["p", "m"]
theorem sc_to_the : FnScope n_to_the p_to_the (defScope s_to_the) := ⟨rfl, rfl, rfl, by decide +kernel, rfl, by decide +kernel, by decide +kernel⟩
abbrev s_rows_of_numbers : Stmt := topS 23
abbrev n_rows_of_numbers : List Str := ["p", "m", "found", "place", "longer", "row", "number"]
abbrev p_rows_of_numbers : List Str := ["p", "m"]
theorem sc_rows_of_numbers : FnScope n_rows_of_numbers p_rows_of_numbers (defScope s_rows_of_numbers) := ⟨rfl, rfl, rfl, by decide +kernel, rfl, by decide +kernel, by decide +kernel⟩
abbrev s_rest_by : Stmt := topS 24
abbrev n_rest_by : List Str := ["p", "row", "form", "left", "degree", "place", "many", "j", "number"]
abbrev p_rest_by : List Str := ["p", "row", "form"]
theorem sc_rest_by : FnScope n_rest_by p_rest_by (defScope s_rest_by) := ⟨rfl, rfl, rfl, by decide +kernel, rfl, by decide +kernel, by decide +kernel⟩
abbrev s_Field_form : Stmt := inClass (topS 27) 1
abbrev n_Field_form : List Str := ["self"]
abbrev p_Field_form : List Str := ["self"]
theorem sc_Field_form : FnScope n_Field_form p_Field_form (defScope s_Field_form) := ⟨rfl, rfl, rfl, by decide +kernel, rfl, by decide +kernel, by decide +kernel⟩
abbrev s_law_hand : Stmt := topS 29
abbrev n_law_hand : List Str := ["_law_script", "_law_k", "_law_cell", "_law_great"]
abbrev p_law_hand : List Str := ["_law_script", "_law_k"]
theorem sc_law_hand : FnScope n_law_hand p_law_hand (defScope s_law_hand) := ⟨rfl, rfl, rfl, by decide +kernel, rfl, by decide +kernel, by decide +kernel⟩
abbrev s_law_take : Stmt := topS 30
abbrev n_law_take : List Str := ["_law_hand_here", "_law_many", "_law_digit", "_law_mixed"]
abbrev p_law_take : List Str := ["_law_hand_here", "_law_many"]
theorem sc_law_take : FnScope n_law_take p_law_take (defScope s_law_take) := ⟨rfl, rfl, rfl, by decide +kernel, rfl, by decide +kernel, by decide +kernel⟩
abbrev s_law_size : Stmt := topS 31
abbrev n_law_size : List Str := ["_law_p", "_law_m", "_law_found", "_law_turn"]
abbrev p_law_size : List Str := ["_law_p", "_law_m"]
theorem sc_law_size : FnScope n_law_size p_law_size (defScope s_law_size) := ⟨rfl, rfl, rfl, by decide +kernel, rfl, by decide +kernel, by decide +kernel⟩
abbrev s_law_rows : Stmt := topS 32
abbrev n_law_rows : List Str := ["_law_p", "_law_m", "_law_found", "_law_turn", "_law_longer", "_law_row", "_law_number"]
abbrev p_law_rows : List Str := ["_law_p", "_law_m"]
theorem sc_law_rows : FnScope n_law_rows p_law_rows (defScope s_law_rows) := ⟨rfl, rfl, rfl, by decide +kernel, rfl, by decide +kernel, by decide +kernel⟩
abbrev s_law_by : Stmt := topS 33
abbrev n_law_by : List Str := ["_law_p", "_law_form", "_law_a", "_law_b", "_law_m", "_law_total", "_law_moved", "_law_one", "_law_top", "_law_here", "_law_there"]
abbrev p_law_by : List Str := ["_law_p", "_law_form", "_law_a", "_law_b"]
theorem sc_law_by : FnScope n_law_by p_law_by (defScope s_law_by) := ⟨rfl, rfl, rfl, by decide +kernel, rfl, by decide +kernel, by decide +kernel⟩
abbrev s_law_marks : Stmt := topS 34
abbrev n_law_marks : List Str := ["_law_error", "_law_first_here", "_law_more", "_law_again", "_law_last"]
abbrev p_law_marks : List Str := ["_law_error"]
theorem sc_law_marks : FnScope n_law_marks p_law_marks (defScope s_law_marks) := ⟨rfl, rfl, rfl, by decide +kernel, rfl, by decide +kernel, by decide +kernel⟩
abbrev s_is_prime : Stmt := topS 17
abbrev n_is_prime : List Str := ["n"]
abbrev p_is_prime : List Str := ["n"]
theorem sc_is_prime : FnScope n_is_prime p_is_prime (defScope s_is_prime) := ⟨rfl, rfl, rfl, by decide +kernel, rfl, by decide +kernel, by decide +kernel⟩
abbrev s_is_product : Stmt := topS 25
abbrev n_is_product : List Str := ["p", "form", "degree", "lesser", "row"]
abbrev p_is_product : List Str := ["p", "form"]
theorem sc_is_product : FnScope n_is_product p_is_product (defScope s_is_product) := ⟨rfl, rfl, rfl, by decide +kernel, rfl, by decide +kernel, by decide +kernel⟩
abbrev s_Field_by : Stmt := inClass (topS 27) 5
abbrev n_Field_by : List Str := ["self", "a", "b", "made", "place", "one", "other_place", "other"]
abbrev p_Field_by : List Str := ["self", "a", "b"]
theorem sc_Field_by : FnScope n_Field_by p_Field_by (defScope s_Field_by) := ⟨rfl, rfl, rfl, by decide +kernel, rfl, by decide +kernel, by decide +kernel⟩
abbrev s_law_only : Stmt := topS 35
abbrev n_law_only : List Str := ["_law_error", "_law_at", "_law_place"]
abbrev p_law_only : List Str := ["_law_error", "_law_at"]
theorem sc_law_only : FnScope n_law_only p_law_only (defScope s_law_only) := ⟨rfl, rfl, rfl, by decide +kernel, rfl, by decide +kernel, by decide +kernel⟩
abbrev s_law_pair : Stmt := topS 36
abbrev n_law_pair : List Str := ["_law_hand_here", "_law_small"]
abbrev p_law_pair : List Str := ["_law_hand_here"]
theorem sc_law_pair : FnScope n_law_pair p_law_pair (defScope s_law_pair) := ⟨rfl, rfl, rfl, by decide +kernel, rfl, by decide +kernel, by decide +kernel⟩
abbrev s_law_walk : Stmt := topS 37
abbrev n_law_walk : List Str := ["_law_p", "_law_form", "_law_a", "_law_unit", "_law_found", "_law_here"]
abbrev p_law_walk : List Str := ["_law_p", "_law_form", "_law_a"]
theorem sc_law_walk : FnScope n_law_walk p_law_walk (defScope s_law_walk) := ⟨rfl, rfl, rfl, by decide +kernel, rfl, by decide +kernel, by decide +kernel⟩
abbrev s_is_power_within : Stmt := topS 22
abbrev n_is_power_within : List Str := ["p", "m", "most"]
abbrev p_is_power_within : List Str := ["p", "m", "most"]
theorem sc_is_power_within : FnScope n_is_power_within p_is_power_within (defScope s_is_power_within) := ⟨rfl, rfl, rfl, by decide +kernel, rfl, by decide +kernel, by decide +kernel⟩
abbrev s_least_whole : Stmt := topS 26
abbrev n_least_whole : List Str := ["p", "m", "row"]
abbrev p_least_whole : List Str := ["p", "m"]
theorem sc_least_whole : FnScope n_least_whole p_least_whole (defScope s_least_whole) := ⟨rfl, rfl, rfl, by decide +kernel, rfl, by decide +kernel, by decide +kernel⟩
abbrev s_Field_power : Stmt := inClass (topS 27) 6
abbrev n_Field_power : List Str := ["self", "a", "k", "found", "square", "digit"]
abbrev p_Field_power : List Str := ["self", "a", "k"]
theorem sc_Field_power : FnScope n_Field_power p_Field_power (defScope s_Field_power) := ⟨rfl, rfl, rfl, by decide +kernel, rfl, by decide +kernel, by decide +kernel⟩
abbrev s_law_first : Stmt := topS 38
abbrev n_law_first : List Str := ["_law_p", "_law_form", "_law_most", "_law_a", "_law_walk_here"]
abbrev p_law_first : List Str := ["_law_p", "_law_form"]
theorem sc_law_first : FnScope n_law_first p_law_first (defScope s_law_first) := ⟨rfl, rfl, rfl, by decide +kernel, rfl, by decide +kernel, by decide +kernel⟩
abbrev s_Field_init : Stmt := inClass (topS 27) 0
abbrev n_Field_init : List Str := ["self", "p", "m"]
abbrev p_Field_init : List Str := ["self", "p", "m"]
theorem sc_Field_init : FnScope n_Field_init p_Field_init (defScope s_Field_init) := ⟨rfl, rfl, rfl, by decide +kernel, rfl, by decide +kernel, by decide +kernel⟩
abbrev s_Field_is_first : Stmt := inClass (topS 27) 8
abbrev n_Field_is_first : List Str := ["self", "a", "primes", "most", "prime", "often"]
abbrev p_Field_is_first : List Str := ["self", "a", "primes"]
theorem sc_Field_is_first : FnScope n_Field_is_first p_Field_is_first (defScope s_Field_is_first) := ⟨rfl, rfl, rfl, by decide +kernel, rfl, by decide +kernel, by decide +kernel⟩
abbrev s_Field_first : Stmt := inClass (topS 27) 9
abbrev n_Field_first : List Str := ["self", "primes", "at", "some"]
abbrev p_Field_first : List Str := ["self"]
theorem sc_Field_first : FnScope n_Field_first p_Field_first (defScope s_Field_first) := ⟨rfl, rfl, rfl, by decide +kernel, rfl, by decide +kernel, by decide +kernel⟩
abbrev s_Field_log : Stmt := inClass (topS 27) 10
abbrev n_Field_log : List Str := ["self", "a", "here", "k"]
abbrev p_Field_log : List Str := ["self", "a"]
theorem sc_Field_log : FnScope n_Field_log p_Field_log (defScope s_Field_log) := ⟨rfl, rfl, rfl, by decide +kernel, rfl, by decide +kernel, by decide +kernel⟩
abbrev s_law_refused : Stmt := topS 39
abbrev n_law_refused : List Str := ["_law_field", "_law_m", "_law_caught", "e"]
abbrev p_law_refused : List Str := ["_law_field", "_law_m"]
theorem sc_law_refused : FnScope n_law_refused p_law_refused (defScope s_law_refused) := ⟨rfl, rfl, rfl, by decide +kernel, rfl, by decide +kernel, by decide +kernel⟩
abbrev s_law_great_right : Stmt := topS 40
abbrev n_law_great_right : List Str := ["_law_hand_here", "_law_some", "_law_p", "_law_m", "_law_field", "_law_most", "_law_powers", "_law_turn", "_law_k"]
abbrev p_law_great_right : List Str := ["_law_hand_here"]
theorem sc_law_great_right : FnScope n_law_great_right p_law_great_right (defScope s_law_great_right) := ⟨rfl, rfl, rfl, by decide +kernel, rfl, by decide +kernel, by decide +kernel⟩
abbrev s_law : Stmt := topS 41
abbrev n_law : List Str := ["_law_script", "_law_k", "_law_hand_here", "_law_p", "_law_m", "_law_field", "_law_logs_first", "_law_a", "_law_walk_here", "_law_some", "_law_number", "_law_turn"]
abbrev p_law : List Str := ["_law_script"]
theorem sc_law : FnScope n_law p_law (defScope s_law) := ⟨rfl, rfl, rfl, by decide +kernel, rfl, by decide +kernel, by decide +kernel⟩
section
variable {P : Program} {w : World} {K : PySem.W.Frag} {mg : Str → Option Value} {base : Heap}
theorem tr_primes_in (T : Txt K mg)  (f : Addr) (B : Base) (cdv : Value) (A : Around) (outer : List Env) (s : Shared) (H : Hp) (E : XK) (hr : RoomG 0 (A.deeper (envOfC "primes_in" (defScope s_primes_in) s.heap.objs.size f cdv))) :
    PSsT B (cxOf (L2N.CX P w) P w K mg base n_primes_in "primes_in" (defScope s_primes_in) f cdv A outer s H E) (defBody s_primes_in) w_primes_in := by
  have nd := sc_primes_in.nd
  have hu : (cxOf (L2N.CX P w) P w K mg base n_primes_in "primes_in" (defScope s_primes_in) f cdv A outer s H E).A.units + 66 < cLine := by have := hr.un; show (A.deeper (envOfC "primes_in" (defScope s_primes_in) s.heap.objs.size f cdv)).units + 66 < cLine; omega
  have hu1 : (cxOf (L2N.CX P w) P w K mg base n_primes_in "primes_in" (defScope s_primes_in) f cdv A outer s H E).A.units + 1 < cLine := by omega
  exact S_seq (S_set 1 nd (T_lst (A_nil)))
    (S_seq (S_set 2 nd (T_fr (T_int)))
    (S_seq (S_while (TT_cmp O_le (T_bin O_mulA (T_var 2) (T_var 2)) (T_var 0) (nomark _))
    (S_seq (S_set 3 nd (T_fr (T_int)))
    (S_seq (S_while (TT_cmp (O_eq hu) (T_bin O_mod (T_var 0) (T_var 2)) (T_int) (nomark _))
    (S_seq (S_aug 3 nd I_add (T_int))
    (S_one (S_set 0 nd (T_fr (T_bin O_div (T_var 0) (T_var 2)))))))
    (S_seq (S_if (TT_cmp O_gt (T_var 3) (T_int) (nomark _))
    (S_ghE (S_one (S_drop (T_app 1 (A_cons (T_tup (A_cons (T_var 2) (A_cons (T_var 3) (A_nil)))) (A_nil))))))
    (S_ghE (S_nil)))
    (S_one (S_aug 2 nd I_add (T_int)))))))
    (S_seq (S_gh1 (S_if (TT_cmp O_gt (T_var 0) (T_int) (nomark _))
    (S_ghE (S_one (S_drop (T_app 1 (A_cons (T_tup (A_cons (T_var 0) (A_cons (T_int) (A_nil)))) (A_nil))))))
    (S_ghE (S_nil))))
    (S_one (S_retG (T_fr (T_btyK 1 (N_tuple) T.b_tuple)))))))
theorem cal_primes_in (T : Txt K mg) (d_primes_in : Def K mg "primes_in" s_primes_in p_primes_in)  : CalG P w K mg base 1 "primes_in" 1 sp_primes_in :=
  calG_of d_primes_in sc_primes_in hl_primes_in (fun f B cdv A outer s H E hr => tr_primes_in T  f B cdv A outer s H E hr) ok_primes_in
theorem tr_to_the (T : Txt K mg)  (f : Addr) (B : Base) (cdv : Value) (A : Around) (outer : List Env) (s : Shared) (H : Hp) (E : XK) (hr : RoomG 0 (A.deeper (envOfC "to_the" (defScope s_to_the) s.heap.objs.size f cdv))) :
    PSsT B (cxOf (L2N.CX P w) P w K mg base n_to_the "to_the" (defScope s_to_the) f cdv A outer s H E) (defBody s_to_the) w_to_the := by
  have nd := sc_to_the.nd
  have hu : (cxOf (L2N.CX P w) P w K mg base n_to_the "to_the" (defScope s_to_the) f cdv A outer s H E).A.units + 66 < cLine := by have := hr.un; show (A.deeper (envOfC "to_the" (defScope s_to_the) s.heap.objs.size f cdv)).units + 66 < cLine; omega
  have hu1 : (cxOf (L2N.CX P w) P w K mg base n_to_the "to_the" (defScope s_to_the) f cdv A outer s H E).A.units + 1 < cLine := by omega
  exact S_seq (S_set 2 nd (T_fr (T_int)))
    (S_seq (S_for (IT_gh (IT_r1 T.b_range (A_cons (T_var 1) (A_nil)))) (G_name 3 nd)
    (S_ghE (S_one (S_aug 2 nd I_mul (T_var 0)))))
    (S_one (S_retG (T_fr (T_var 2)))))
theorem cal_to_the (T : Txt K mg) (d_to_the : Def K mg "to_the" s_to_the p_to_the)  : CalG P w K mg base 1 "to_the" 2 sp_to_the :=
  calG_of d_to_the sc_to_the hl_to_the (fun f B cdv A outer s H E hr => tr_to_the T  f B cdv A outer s H E hr) ok_to_the
theorem tr_rows_of_numbers (T : Txt K mg)  (f : Addr) (B : Base) (cdv : Value) (A : Around) (outer : List Env) (s : Shared) (H : Hp) (E : XK) (hr : RoomG 0 (A.deeper (envOfC "rows_of_numbers" (defScope s_rows_of_numbers) s.heap.objs.size f cdv))) :
    PSsT B (cxOf (L2N.CX P w) P w K mg base n_rows_of_numbers "rows_of_numbers" (defScope s_rows_of_numbers) f cdv A outer s H E) (defBody s_rows_of_numbers) w_rows_of_numbers := by
  have nd := sc_rows_of_numbers.nd
  have hu : (cxOf (L2N.CX P w) P w K mg base n_rows_of_numbers "rows_of_numbers" (defScope s_rows_of_numbers) f cdv A outer s H E).A.units + 66 < cLine := by have := hr.un; show (A.deeper (envOfC "rows_of_numbers" (defScope s_rows_of_numbers) s.heap.objs.size f cdv)).units + 66 < cLine; omega
  have hu1 : (cxOf (L2N.CX P w) P w K mg base n_rows_of_numbers "rows_of_numbers" (defScope s_rows_of_numbers) f cdv A outer s H E).A.units + 1 < cLine := by omega
  exact S_seq (S_set 2 nd (T_fr (T_lst (A_cons (T_tup (A_nil)) (A_nil)))))
    (S_seq (S_for (IT_gh (IT_r1 T.b_range (A_cons (T_var 1) (A_nil)))) (G_name 3 nd)
    (S_ghE (S_seq (S_set 4 nd (T_lst (A_nil)))
    (S_seq (S_for (IT_gh (IT_seq (T_var 2))) (G_name 5 nd)
    (S_ghE (S_one (S_drop (T_ext 4 (A_cons (T_lc [("number", 6)] nd (IT_G (IT_r1 T.b_range (A_cons (T_var 0) (A_nil)))) (blkOk_by (own := [("number", 6)]) (N := n_rows_of_numbers) (sc := defScope s_rows_of_numbers) (by decide +kernel)) (fun _ _ _ _ _ _ => G_name 6 nd) (fun _ _ _ _ _ _ => C_nil) (fun _ _ _ _ _ _ => T_bin O_add (T_var 5) (T_tup (A_cons (T_var 6) (A_nil))))) (A_nil)))))))
    (S_one (S_set 2 nd (T_fr (T_var 4))))))))
    (S_one (S_retG (T_fr (T_var 2)))))
theorem cal_rows_of_numbers (T : Txt K mg) (d_rows_of_numbers : Def K mg "rows_of_numbers" s_rows_of_numbers p_rows_of_numbers)  : CalG P w K mg base 1 "rows_of_numbers" 2 sp_rows_of_numbers :=
  calG_of d_rows_of_numbers sc_rows_of_numbers hl_rows_of_numbers (fun f B cdv A outer s H E hr => tr_rows_of_numbers T  f B cdv A outer s H E hr) ok_rows_of_numbers
theorem tr_rest_by (T : Txt K mg)  (f : Addr) (B : Base) (cdv : Value) (A : Around) (outer : List Env) (s : Shared) (H : Hp) (E : XK) (hr : RoomG 0 (A.deeper (envOfC "rest_by" (defScope s_rest_by) s.heap.objs.size f cdv))) :
    PSsT B (cxOf (L2N.CX P w) P w K mg base n_rest_by "rest_by" (defScope s_rest_by) f cdv A outer s H E) (defBody s_rest_by) w_rest_by := by
  have nd := sc_rest_by.nd
  have hu : (cxOf (L2N.CX P w) P w K mg base n_rest_by "rest_by" (defScope s_rest_by) f cdv A outer s H E).A.units + 66 < cLine := by have := hr.un; show (A.deeper (envOfC "rest_by" (defScope s_rest_by) s.heap.objs.size f cdv)).units + 66 < cLine; omega
  have hu1 : (cxOf (L2N.CX P w) P w K mg base n_rest_by "rest_by" (defScope s_rest_by) f cdv A outer s H E).A.units + 1 < cLine := by omega
  exact S_seq (S_set 3 nd (T_btyK 1 (N_list) T.b_list))
    (S_seq (S_set 4 nd (T_fr (T_bin O_sub (T_biK 2 (N_len) T.b_len) (T_int))))
    (S_seq (S_for (IT_gh (IT_r3 T.b_range (A_cons (T_bin O_sub (T_biK 1 (N_len) T.b_len) (T_int)) (A_cons (T_bin O_sub (T_var 4) (T_int)) (A_cons (T_neg (T_int)) (A_nil)))))) (G_name 5 nd)
    (S_ghE (S_seq (S_set 6 nd (T_fr (T_subK 3 (X_get hu1) (T_var 5))))
    (S_one (S_for (IT_enumerate T.b_enumerate (A_cons (T_var 2) (A_nil))) (G_tup (G_cons (G_name 7 nd) (G_cons (G_name 8 nd) (G_nil))))
    (S_ghE (S_one (S_put 3 hu1 (T_bin O_mod (T_bin O_sub (T_subK 3 (X_get hu1) (T_bin O_add (T_bin O_sub (T_var 5) (T_var 4)) (T_var 7))) (T_bin O_mulA (T_var 6) (T_var 8))) (T_var 0)) (T_bin O_add (T_bin O_sub (T_var 5) (T_var 4)) (T_var 7))))))))))
    (S_one (S_retG (T_fr (T_bty (N_tuple) T.b_tuple (A_cons (T_sl (T_var 3) (P_none) (P_some (T_fr (T_var 4)))) (A_nil))))))))
theorem cal_rest_by (T : Txt K mg) (d_rest_by : Def K mg "rest_by" s_rest_by p_rest_by)  : CalG P w K mg base 1 "rest_by" 3 sp_rest_by :=
  calG_of d_rest_by sc_rest_by hl_rest_by (fun f B cdv A outer s H E hr => tr_rest_by T  f B cdv A outer s H E hr) ok_rest_by
theorem tr_Field_form (T : Txt K mg)  (f : Addr) (B : Base) (cdv : Value) (A : Around) (outer : List Env) (s : Shared) (H : Hp) (E : XK) (hr : RoomG 0 (A.deeper (envOfC "Field.form" (defScope s_Field_form) s.heap.objs.size f cdv))) :
    PSsT B (cxOf (L2N.CX P w) P w K mg base n_Field_form "Field.form" (defScope s_Field_form) f cdv A outer s H E) (defBody s_Field_form) w_Field_form := by
  have nd := sc_Field_form.nd
  have hu : (cxOf (L2N.CX P w) P w K mg base n_Field_form "Field.form" (defScope s_Field_form) f cdv A outer s H E).A.units + 66 < cLine := by have := hr.un; show (A.deeper (envOfC "Field.form" (defScope s_Field_form) s.heap.objs.size f cdv)).units + 66 < cLine; omega
  have hu1 : (cxOf (L2N.CX P w) P w K mg base n_Field_form "Field.form" (defScope s_Field_form) f cdv A outer s H E).A.units + 1 < cLine := by omega
  exact S_one (S_retG (T_fr (T_fld T.z_Field (by decide +kernel) (T_var 0))))
theorem cal_Field_form (T : Txt K mg) (d_Field_form : DefM K "Field" "form" "Field.form" s_Field_form p_Field_form)  : CalM P w K mg base 1 "Field" "form" 1 sp_Field_form :=
  calM_of d_Field_form sc_Field_form hl_Field_form (fun f B cdv A outer s H E hr => tr_Field_form T  f B cdv A outer s H E hr) ok_Field_form (by decide +kernel)
theorem tr_law_hand (T : Txt K mg)  (f : Addr) (B : Base) (cdv : Value) (A : Around) (outer : List Env) (s : Shared) (H : Hp) (E : XK) (hr : RoomG 0 (A.deeper (envOfC "_law_hand" (defScope s_law_hand) s.heap.objs.size f cdv))) :
    PSsT B (cxOf (L2N.CX P w) P w K mg base n_law_hand "_law_hand" (defScope s_law_hand) f cdv A outer s H E) (defBody s_law_hand) w_law_hand := by
  have nd := sc_law_hand.nd
  have hu : (cxOf (L2N.CX P w) P w K mg base n_law_hand "_law_hand" (defScope s_law_hand) f cdv A outer s H E).A.units + 66 < cLine := by have := hr.un; show (A.deeper (envOfC "_law_hand" (defScope s_law_hand) s.heap.objs.size f cdv)).units + 66 < cLine; omega
  have hu1 : (cxOf (L2N.CX P w) P w K mg base n_law_hand "_law_hand" (defScope s_law_hand) f cdv A outer s H E).A.units + 1 < cLine := by omega
  exact S_seq (S_set 2 nd (T_fr (T_int)))
    (S_seq (S_if (TT_cmp (O_ltA hu) (T_var 1) (T_biK 0 (N_len) T.b_len) (nomark _))
    (S_ghE (S_one (S_set 2 nd (T_fr (T_subK 0 (X_get hu1) (T_var 1))))))
    (S_ghE (S_nil)))
    (S_seq (S_set 3 nd (T_fr (T_bin O_mulI (T_bin O_mod (T_var 2) (T_bin O_mulA (T_bin O_pow (T_int) (T_int)) (T_bin O_pow (T_int) (T_int)))) (T_bty (N_int) T.b_int (A_cons (T_cmp O_ge (T_var 2) (T_bin O_pow (T_int) (T_int)) (nomark _)) (A_nil))))))
    (S_one (S_retG (T_lst (A_cons (T_var 3) (A_cons (T_bin O_mod (T_bin O_add (T_bin O_add (T_bin O_mod (T_var 2) (T_int)) (T_bin O_mulA (T_int) (T_var 1))) (T_int)) (T_int)) (A_cons (T_int) (A_nil)))))))))
theorem cal_law_hand (T : Txt K mg) (d_law_hand : Def K mg "_law_hand" s_law_hand p_law_hand)  : CalG P w K mg base 1 "_law_hand" 2 sp_law_hand :=
  calG_of d_law_hand sc_law_hand hl_law_hand (fun f B cdv A outer s H E hr => tr_law_hand T  f B cdv A outer s H E hr) ok_law_hand
theorem tr_law_take (T : Txt K mg)  (f : Addr) (B : Base) (cdv : Value) (A : Around) (outer : List Env) (s : Shared) (H : Hp) (E : XK) (hr : RoomG 0 (A.deeper (envOfC "_law_take" (defScope s_law_take) s.heap.objs.size f cdv))) :
    PSsT B (cxOf (L2N.CX P w) P w K mg base n_law_take "_law_take" (defScope s_law_take) f cdv A outer s H E) (defBody s_law_take) w_law_take := by
  have nd := sc_law_take.nd
  have hu : (cxOf (L2N.CX P w) P w K mg base n_law_take "_law_take" (defScope s_law_take) f cdv A outer s H E).A.units + 66 < cLine := by have := hr.un; show (A.deeper (envOfC "_law_take" (defScope s_law_take) s.heap.objs.size f cdv)).units + 66 < cLine; omega
  have hu1 : (cxOf (L2N.CX P w) P w K mg base n_law_take "_law_take" (defScope s_law_take) f cdv A outer s H E).A.units + 1 < cLine := by omega
  exact S_seq (S_if (TT_cmp O_gt (T_subK 0 (X_get hu1) (T_int)) (T_int) (nomark _))
    (S_seq (S_set 2 nd (T_fr (T_bin O_mod (T_subK 0 (X_get hu1) (T_int)) (T_var 1))))
    (S_seq (S_put 0 hu1 (T_bin O_div (T_subK 0 (X_get hu1) (T_int)) (T_var 1)) (T_int))
    (S_one (S_retG (T_fr (T_var 2))))))
    (S_nil))
    (S_seq (S_put 0 hu1 (T_bin O_add (T_subK 0 (X_get hu1) (T_int)) (T_int)) (T_int))
    (S_seq (S_set 3 nd (T_fr (T_bin O_mod (T_bin O_mulA (T_bin O_add (T_bin O_add (T_subK 0 (X_get hu1) (T_int)) (T_bin O_mulA (T_bin O_mulA (T_int) (T_subK 0 (X_get hu1) (T_int))) (T_subK 0 (X_get hu1) (T_int)))) (T_int)) (T_int)) (T_int))))
    (S_seq (S_set 3 nd (T_fr (T_bin O_mod (T_bin O_mulA (T_var 3) (T_bin O_add (T_bin O_mod (T_var 3) (T_int)) (T_bin O_mulA (T_int) (T_subK 0 (X_get hu1) (T_int))))) (T_int))))
    (S_one (S_retG (T_fr (T_bin O_mod (T_bin O_add (T_bin O_div (T_var 3) (T_int)) (T_bin O_div (T_var 3) (T_int))) (T_var 1))))))))
theorem cal_law_take (T : Txt K mg) (d_law_take : Def K mg "_law_take" s_law_take p_law_take)  : CalG P w K mg base 1 "_law_take" 2 sp_law_take :=
  calG_of d_law_take sc_law_take hl_law_take (fun f B cdv A outer s H E hr => tr_law_take T  f B cdv A outer s H E hr) ok_law_take
theorem tr_law_size (T : Txt K mg)  (f : Addr) (B : Base) (cdv : Value) (A : Around) (outer : List Env) (s : Shared) (H : Hp) (E : XK) (hr : RoomG 0 (A.deeper (envOfC "_law_size" (defScope s_law_size) s.heap.objs.size f cdv))) :
    PSsT B (cxOf (L2N.CX P w) P w K mg base n_law_size "_law_size" (defScope s_law_size) f cdv A outer s H E) (defBody s_law_size) w_law_size := by
  have nd := sc_law_size.nd
  have hu : (cxOf (L2N.CX P w) P w K mg base n_law_size "_law_size" (defScope s_law_size) f cdv A outer s H E).A.units + 66 < cLine := by have := hr.un; show (A.deeper (envOfC "_law_size" (defScope s_law_size) s.heap.objs.size f cdv)).units + 66 < cLine; omega
  have hu1 : (cxOf (L2N.CX P w) P w K mg base n_law_size "_law_size" (defScope s_law_size) f cdv A outer s H E).A.units + 1 < cLine := by omega
  exact S_seq (S_set 2 nd (T_fr (T_int)))
    (S_seq (S_for (IT_gh (IT_r1 T.b_range (A_cons (T_var 1) (A_nil)))) (G_name 3 nd)
    (S_ghE (S_one (S_set 2 nd (T_fr (T_bin O_mulA (T_var 2) (T_var 0)))))))
    (S_one (S_retG (T_fr (T_var 2)))))
theorem cal_law_size (T : Txt K mg) (d_law_size : Def K mg "_law_size" s_law_size p_law_size)  : CalG P w K mg base 1 "_law_size" 2 sp_law_size :=
  calG_of d_law_size sc_law_size hl_law_size (fun f B cdv A outer s H E hr => tr_law_size T  f B cdv A outer s H E hr) ok_law_size
theorem tr_law_rows (T : Txt K mg)  (f : Addr) (B : Base) (cdv : Value) (A : Around) (outer : List Env) (s : Shared) (H : Hp) (E : XK) (hr : RoomG 0 (A.deeper (envOfC "_law_rows" (defScope s_law_rows) s.heap.objs.size f cdv))) :
    PSsT B (cxOf (L2N.CX P w) P w K mg base n_law_rows "_law_rows" (defScope s_law_rows) f cdv A outer s H E) (defBody s_law_rows) w_law_rows := by
  have nd := sc_law_rows.nd
  have hu : (cxOf (L2N.CX P w) P w K mg base n_law_rows "_law_rows" (defScope s_law_rows) f cdv A outer s H E).A.units + 66 < cLine := by have := hr.un; show (A.deeper (envOfC "_law_rows" (defScope s_law_rows) s.heap.objs.size f cdv)).units + 66 < cLine; omega
  have hu1 : (cxOf (L2N.CX P w) P w K mg base n_law_rows "_law_rows" (defScope s_law_rows) f cdv A outer s H E).A.units + 1 < cLine := by omega
  exact S_seq (S_set 2 nd (T_fr (T_lst (A_cons (T_tup (A_nil)) (A_nil)))))
    (S_seq (S_for (IT_gh (IT_r1 T.b_range (A_cons (T_var 1) (A_nil)))) (G_name 3 nd)
    (S_ghE (S_seq (S_set 4 nd (T_lst (A_nil)))
    (S_seq (S_for (IT_gh (IT_seq (T_var 2))) (G_name 5 nd)
    (S_ghE (S_one (S_drop (T_ext 4 (A_cons (T_lc [("_law_number", 6)] nd (IT_G (IT_r1 T.b_range (A_cons (T_var 0) (A_nil)))) (blkOk_by (own := [("_law_number", 6)]) (N := n_law_rows) (sc := defScope s_law_rows) (by decide +kernel)) (fun _ _ _ _ _ _ => G_name 6 nd) (fun _ _ _ _ _ _ => C_nil) (fun _ _ _ _ _ _ => T_bin O_add (T_var 5) (T_tup (A_cons (T_var 6) (A_nil))))) (A_nil)))))))
    (S_one (S_set 2 nd (T_fr (T_var 4))))))))
    (S_one (S_retG (T_fr (T_var 2)))))
theorem cal_law_rows (T : Txt K mg) (d_law_rows : Def K mg "_law_rows" s_law_rows p_law_rows)  : CalG P w K mg base 1 "_law_rows" 2 sp_law_rows :=
  calG_of d_law_rows sc_law_rows hl_law_rows (fun f B cdv A outer s H E hr => tr_law_rows T  f B cdv A outer s H E hr) ok_law_rows
theorem tr_law_by (T : Txt K mg)  (f : Addr) (B : Base) (cdv : Value) (A : Around) (outer : List Env) (s : Shared) (H : Hp) (E : XK) (hr : RoomG 0 (A.deeper (envOfC "_law_by" (defScope s_law_by) s.heap.objs.size f cdv))) :
    PSsT B (cxOf (L2N.CX P w) P w K mg base n_law_by "_law_by" (defScope s_law_by) f cdv A outer s H E) (defBody s_law_by) w_law_by := by
  have nd := sc_law_by.nd
  have hu : (cxOf (L2N.CX P w) P w K mg base n_law_by "_law_by" (defScope s_law_by) f cdv A outer s H E).A.units + 66 < cLine := by have := hr.un; show (A.deeper (envOfC "_law_by" (defScope s_law_by) s.heap.objs.size f cdv)).units + 66 < cLine; omega
  have hu1 : (cxOf (L2N.CX P w) P w K mg base n_law_by "_law_by" (defScope s_law_by) f cdv A outer s H E).A.units + 1 < cLine := by omega
  exact S_seq (S_set 4 nd (T_fr (T_bin O_sub (T_biK 1 (N_len) T.b_len) (T_int))))
    (S_seq (S_par 5 6 nd (A_cons (T_bin O_mulA (T_tup (A_cons (T_int) (A_nil))) (T_var 4)) (A_cons (T_var 3) (A_nil))))
    (S_seq (S_for (IT_gh (IT_seq (T_var 2))) (G_name 7 nd)
    (S_ghE (S_seq (S_set 5 nd (T_fr (T_bty (N_tuple) T.b_tuple (A_cons (T_lc [("_law_here", 9), ("_law_there", 10)] nd (IT_G (IT_zip2 T.b_zip (A_cons (T_var 5) (A_cons (T_var 6) (A_nil))))) (blkOk_by (own := [("_law_here", 9), ("_law_there", 10)]) (N := n_law_by) (sc := defScope s_law_by) (by decide +kernel)) (fun _ _ _ _ _ _ => G_tup (G_cons (G_name 9 nd) (G_cons (G_name 10 nd) (G_nil)))) (fun _ _ _ _ _ _ => C_nil) (fun _ _ _ _ _ _ => T_bin O_mod (T_bin O_add (T_var 9) (T_bin O_mulA (T_var 7) (T_var 10))) (T_var 0))) (A_nil)))))
    (S_seq (S_set 8 nd (T_fr (T_subK 6 (X_get hu1) (T_neg (T_int)))))
    (S_one (S_set 6 nd (T_fr (T_bty (N_tuple) T.b_tuple (A_cons (T_lc [("_law_here", 9), ("_law_there", 10)] nd (IT_G (IT_zip2 T.b_zip (A_cons (T_bin O_add (T_tup (A_cons (T_int) (A_nil))) (T_sl (T_var 6) (P_none) (P_some (T_neg (T_int))))) (A_cons (T_sl (T_var 1) (P_none) (P_some (T_neg (T_int)))) (A_nil))))) (blkOk_by (own := [("_law_here", 9), ("_law_there", 10)]) (N := n_law_by) (sc := defScope s_law_by) (by decide +kernel)) (fun _ _ _ _ _ _ => G_tup (G_cons (G_name 9 nd) (G_cons (G_name 10 nd) (G_nil)))) (fun _ _ _ _ _ _ => C_nil) (fun _ _ _ _ _ _ => T_bin O_mod (T_bin O_sub (T_var 9) (T_bin O_mulA (T_var 8) (T_var 10))) (T_var 0))) (A_nil))))))))))
    (S_one (S_retG (T_fr (T_var 5))))))
theorem cal_law_by (T : Txt K mg) (d_law_by : Def K mg "_law_by" s_law_by p_law_by)  : CalG P w K mg base 1 "_law_by" 4 sp_law_by :=
  calG_of d_law_by sc_law_by hl_law_by (fun f B cdv A outer s H E hr => tr_law_by T  f B cdv A outer s H E hr) ok_law_by
theorem tr_law_marks (T : Txt K mg)  (f : Addr) (B : Base) (cdv : Value) (A : Around) (outer : List Env) (s : Shared) (H : Hp) (E : XK) (hr : RoomG 0 (A.deeper (envOfC "_law_marks" (defScope s_law_marks) s.heap.objs.size f cdv))) :
    PSsT B (cxOf (L2N.CX P w) P w K mg base n_law_marks "_law_marks" (defScope s_law_marks) f cdv A outer s H E) (defBody s_law_marks) w_law_marks := by
  have nd := sc_law_marks.nd
  have hu : (cxOf (L2N.CX P w) P w K mg base n_law_marks "_law_marks" (defScope s_law_marks) f cdv A outer s H E).A.units + 66 < cLine := by have := hr.un; show (A.deeper (envOfC "_law_marks" (defScope s_law_marks) s.heap.objs.size f cdv)).units + 66 < cLine; omega
  have hu1 : (cxOf (L2N.CX P w) P w K mg base n_law_marks "_law_marks" (defScope s_law_marks) f cdv A outer s H E).A.units + 1 < cLine := by omega
  exact S_seq (S_set 1 nd (T_fr (T_lst (A_cons (T_bi (N_isE T.xt) T.b_isinstance (A_cons (T_var 0) (A_cons (T_cls T.k_NoNumber) (A_nil)))) (A_cons (T_bi (N_isE T.xt) T.b_isinstance (A_cons (T_var 0) (A_cons (T_cls T.k_NoSpot) (A_nil)))) (A_cons (T_bi (N_isE T.xt) T.b_isinstance (A_cons (T_var 0) (A_cons (T_cls T.k_NoTurn) (A_nil)))) (A_nil)))))))
    (S_seq (S_set 2 nd (T_fr (T_lst (A_cons (T_bi (N_isE T.xt) T.b_isinstance (A_cons (T_var 0) (A_cons (T_cls T.k_NoField) (A_nil)))) (A_cons (T_bi (N_isE T.xt) T.b_isinstance (A_cons (T_var 0) (A_cons (T_cls T.k_NoMember) (A_nil)))) (A_cons (T_bi (N_isE T.xt) T.b_isinstance (A_cons (T_var 0) (A_cons (T_cls T.k_NoWay) (A_nil)))) (A_nil)))))))
    (S_seq (S_set 3 nd (T_fr (T_lst (A_cons (T_bi (N_isE T.xt) T.b_isinstance (A_cons (T_var 0) (A_cons (T_cls T.k_TooMany) (A_nil)))) (A_cons (T_bi (N_isE T.xt) T.b_isinstance (A_cons (T_var 0) (A_cons (T_cls T.k_NoRow) (A_nil)))) (A_cons (T_bi (N_isE T.xt) T.b_isinstance (A_cons (T_var 0) (A_cons (T_cls T.k_NoLine) (A_nil)))) (A_nil)))))))
    (S_seq (S_set 4 nd (T_fr (T_lst (A_cons (T_bi (N_isE T.xt) T.b_isinstance (A_cons (T_var 0) (A_cons (T_cls T.k_NoRings) (A_nil)))) (A_cons (T_bi (N_isE T.xt) T.b_isinstance (A_cons (T_var 0) (A_cons (T_cls T.k_NoName) (A_nil)))) (A_cons (T_bi (N_isE T.xt) T.b_isinstance (A_cons (T_var 0) (A_cons (T_cls T.k_NoText) (A_nil)))) (A_nil)))))))
    (S_one (S_retG (T_fr (T_bin O_add (T_bin O_add (T_bin O_add (T_var 1) (T_var 2)) (T_var 3)) (T_var 4))))))))
theorem cal_law_marks (T : Txt K mg) (d_law_marks : Def K mg "_law_marks" s_law_marks p_law_marks)  : CalG P w K mg base 1 "_law_marks" 1 sp_law_marks :=
  calG_of d_law_marks sc_law_marks hl_law_marks (fun f B cdv A outer s H E hr => tr_law_marks T  f B cdv A outer s H E hr) ok_law_marks
theorem tr_is_prime (T : Txt K mg) (c_primes_in : CalG P w K mg base 1 "primes_in" 1 sp_primes_in) (f : Addr) (B : Base) (cdv : Value) (A : Around) (outer : List Env) (s : Shared) (H : Hp) (E : XK) (hr : RoomG 1 (A.deeper (envOfC "is_prime" (defScope s_is_prime) s.heap.objs.size f cdv))) :
    PSsT B (cxOf (L2N.CX P w) P w K mg base n_is_prime "is_prime" (defScope s_is_prime) f cdv A outer s H E) (defBody s_is_prime) w_is_prime := by
  have nd := sc_is_prime.nd
  have hu : (cxOf (L2N.CX P w) P w K mg base n_is_prime "is_prime" (defScope s_is_prime) f cdv A outer s H E).A.units + 66 < cLine := by have := hr.un; show (A.deeper (envOfC "is_prime" (defScope s_is_prime) s.heap.objs.size f cdv)).units + 66 < cLine; omega
  have hu1 : (cxOf (L2N.CX P w) P w K mg base n_is_prime "is_prime" (defScope s_is_prime) f cdv A outer s H E).A.units + 1 < cLine := by omega
  exact S_one (S_retG (T_fr (T_and (T_cmp O_gt (T_var 0) (T_int) (nomark _)) (T_one (T_cmp (O_eq hu) (T_calG c_primes_in (hr.mono (by decide)) (AA_v (T_var 0) (AA_nil))) (T_tup (A_cons (T_tup (A_cons (T_var 0) (A_cons (T_int) (A_nil)))) (A_nil))) (nomark _))))))
theorem cal_is_prime (T : Txt K mg) (d_is_prime : Def K mg "is_prime" s_is_prime p_is_prime) (c_primes_in : CalG P w K mg base 1 "primes_in" 1 sp_primes_in) : CalG P w K mg base 2 "is_prime" 1 sp_is_prime :=
  calG_of d_is_prime sc_is_prime hl_is_prime (fun f B cdv A outer s H E hr => tr_is_prime T c_primes_in f B cdv A outer s H E hr) ok_is_prime
theorem tr_is_product (T : Txt K mg) (c_rows_of_numbers : CalG P w K mg base 1 "rows_of_numbers" 2 sp_rows_of_numbers) (c_rest_by : CalG P w K mg base 1 "rest_by" 3 sp_rest_by) (f : Addr) (B : Base) (cdv : Value) (A : Around) (outer : List Env) (s : Shared) (H : Hp) (E : XK) (hr : RoomG 1 (A.deeper (envOfC "is_product" (defScope s_is_product) s.heap.objs.size f cdv))) :
    PSsT B (cxOf (L2N.CX P w) P w K mg base n_is_product "is_product" (defScope s_is_product) f cdv A outer s H E) (defBody s_is_product) w_is_product := by
  have nd := sc_is_product.nd
  have hu : (cxOf (L2N.CX P w) P w K mg base n_is_product "is_product" (defScope s_is_product) f cdv A outer s H E).A.units + 66 < cLine := by have := hr.un; show (A.deeper (envOfC "is_product" (defScope s_is_product) s.heap.objs.size f cdv)).units + 66 < cLine; omega
  have hu1 : (cxOf (L2N.CX P w) P w K mg base n_is_product "is_product" (defScope s_is_product) f cdv A outer s H E).A.units + 1 < cLine := by omega
  exact S_seq (S_set 2 nd (T_fr (T_bin O_sub (T_biK 1 (N_len) T.b_len) (T_int))))
    (S_seq (S_for (IT_gh (IT_r2 T.b_range (A_cons (T_int) (A_cons (T_bin O_add (T_bin O_div (T_var 2) (T_int)) (T_int)) (A_nil))))) (G_name 3 nd)
    (S_one (S_for (IT_gh (IT_seq (T_calG c_rows_of_numbers (hr.mono (by decide)) (AA_v (T_var 0) (AA_v (T_var 3) (AA_nil)))))) (G_name 4 nd)
    (S_ghE (S_one (S_if (TT_not (TT_tru (T_bi (N_anyT) T.b_any (A_cons (T_calG c_rest_by (hr.mono (by decide)) (AA_v (T_var 0) (AA_v (T_var 1) (AA_v (T_bin O_add (T_var 4) (T_tup (A_cons (T_int) (A_nil)))) (AA_nil))))) (A_nil)))))
    (S_one (S_retG (T_fr (T_bl))))
    (S_nil)))))))
    (S_one (S_retG (T_fr (T_bl)))))
theorem cal_is_product (T : Txt K mg) (d_is_product : Def K mg "is_product" s_is_product p_is_product) (c_rows_of_numbers : CalG P w K mg base 1 "rows_of_numbers" 2 sp_rows_of_numbers) (c_rest_by : CalG P w K mg base 1 "rest_by" 3 sp_rest_by) : CalG P w K mg base 2 "is_product" 2 sp_is_product :=
  calG_of d_is_product sc_is_product hl_is_product (fun f B cdv A outer s H E hr => tr_is_product T c_rows_of_numbers c_rest_by f B cdv A outer s H E hr) ok_is_product
theorem tr_Field_by (T : Txt K mg) (c_rest_by : CalG P w K mg base 1 "rest_by" 3 sp_rest_by) (f : Addr) (B : Base) (cdv : Value) (A : Around) (outer : List Env) (s : Shared) (H : Hp) (E : XK) (hr : RoomG 1 (A.deeper (envOfC "Field.by" (defScope s_Field_by) s.heap.objs.size f cdv))) :
    PSsT B (cxOf (L2N.CX P w) P w K mg base n_Field_by "Field.by" (defScope s_Field_by) f cdv A outer s H E) (defBody s_Field_by) w_Field_by := by
  have nd := sc_Field_by.nd
  have hu : (cxOf (L2N.CX P w) P w K mg base n_Field_by "Field.by" (defScope s_Field_by) f cdv A outer s H E).A.units + 66 < cLine := by have := hr.un; show (A.deeper (envOfC "Field.by" (defScope s_Field_by) s.heap.objs.size f cdv)).units + 66 < cLine; omega
  have hu1 : (cxOf (L2N.CX P w) P w K mg base n_Field_by "Field.by" (defScope s_Field_by) f cdv A outer s H E).A.units + 1 < cLine := by omega
  exact S_seq (S_set 3 nd (T_bin O_mulL (T_lst (A_cons (T_int) (A_nil))) (T_bin O_sub (T_bin O_mulA (T_int) (T_fld T.z_Field (by decide +kernel) (T_var 0))) (T_int))))
    (S_seq (S_for (IT_gh (IT_enumerate T.b_enumerate (A_cons (T_var 1) (A_nil)))) (G_tup (G_cons (G_name 4 nd) (G_cons (G_name 5 nd) (G_nil))))
    (S_ghE (S_one (S_for (IT_enumerate T.b_enumerate (A_cons (T_var 2) (A_nil))) (G_tup (G_cons (G_name 6 nd) (G_cons (G_name 7 nd) (G_nil))))
    (S_ghE (S_one (S_put 3 hu1 (T_bin O_mod (T_bin O_add (T_subK 3 (X_get hu1) (T_bin O_add (T_var 4) (T_var 6))) (T_bin O_mulA (T_var 5) (T_var 7))) (T_fld T.z_Field (by decide +kernel) (T_var 0))) (T_bin O_add (T_var 4) (T_var 6)))))))))
    (S_one (S_retG (T_fr (T_calG c_rest_by (hr.mono (by decide)) (AA_v (T_fld T.z_Field (by decide +kernel) (T_var 0)) (AA_v (T_var 3) (AA_v (T_fld T.z_Field (by decide +kernel) (T_var 0)) (AA_nil)))))))))
theorem cal_Field_by (T : Txt K mg) (d_Field_by : DefM K "Field" "by" "Field.by" s_Field_by p_Field_by) (c_rest_by : CalG P w K mg base 1 "rest_by" 3 sp_rest_by) : CalM P w K mg base 2 "Field" "by" 3 sp_Field_by :=
  calM_of d_Field_by sc_Field_by hl_Field_by (fun f B cdv A outer s H E hr => tr_Field_by T c_rest_by f B cdv A outer s H E hr) ok_Field_by (by decide +kernel)
theorem tr_law_only (T : Txt K mg) (c_law_marks : CalG P w K mg base 1 "_law_marks" 1 sp_law_marks) (f : Addr) (B : Base) (cdv : Value) (A : Around) (outer : List Env) (s : Shared) (H : Hp) (E : XK) (hr : RoomG 1 (A.deeper (envOfC "_law_only" (defScope s_law_only) s.heap.objs.size f cdv))) :
    PSsT B (cxOf (L2N.CX P w) P w K mg base n_law_only "_law_only" (defScope s_law_only) f cdv A outer s H E) (defBody s_law_only) w_law_only := by
  have nd := sc_law_only.nd
  have hu : (cxOf (L2N.CX P w) P w K mg base n_law_only "_law_only" (defScope s_law_only) f cdv A outer s H E).A.units + 66 < cLine := by have := hr.un; show (A.deeper (envOfC "_law_only" (defScope s_law_only) s.heap.objs.size f cdv)).units + 66 < cLine; omega
  have hu1 : (cxOf (L2N.CX P w) P w K mg base n_law_only "_law_only" (defScope s_law_only) f cdv A outer s H E).A.units + 1 < cLine := by omega
  exact S_seq (S_if (TT_w (TW_or (TT_cmp O_is (T_var 0) (T_non) (nomark _)) (TW_or1 (TT_not (TT_tru (T_bi (N_isE T.xt) T.b_isinstance (A_cons (T_var 0) (A_cons (T_type "ValueError" T.b_ValueError) (A_nil)))))))))
    (S_one (S_retG (T_fr (T_bl))))
    (S_nil))
    (S_one (S_retG (T_fr (T_cmp (O_eq hu) (T_calG c_law_marks (hr.mono (by decide)) (AA_v (T_var 0) (AA_nil))) (T_lc [("_law_place", 2)] nd (IT_G (IT_r1 T.b_range (A_cons (T_int) (A_nil)))) (blkOk_by (own := [("_law_place", 2)]) (N := n_law_only) (sc := defScope s_law_only) (by decide +kernel)) (fun _ _ _ _ _ _ => G_name 2 nd) (fun _ _ _ _ _ _ => C_nil) (fun _ _ _ _ _ _ => T_cmp (O_eq hu) (T_var 2) (T_var 1) (nomark _))) (nomark _)))))
theorem cal_law_only (T : Txt K mg) (d_law_only : Def K mg "_law_only" s_law_only p_law_only) (c_law_marks : CalG P w K mg base 1 "_law_marks" 1 sp_law_marks) : CalG P w K mg base 2 "_law_only" 2 sp_law_only :=
  calG_of d_law_only sc_law_only hl_law_only (fun f B cdv A outer s H E hr => tr_law_only T c_law_marks f B cdv A outer s H E hr) ok_law_only
theorem tr_law_pair (T : Txt K mg) (c_law_take : CalG P w K mg base 1 "_law_take" 2 sp_law_take) (f : Addr) (B : Base) (cdv : Value) (A : Around) (outer : List Env) (s : Shared) (H : Hp) (E : XK) (hr : RoomG 1 (A.deeper (envOfC "_law_pair" (defScope s_law_pair) s.heap.objs.size f cdv))) :
    PSsT B (cxOf (L2N.CX P w) P w K mg base n_law_pair "_law_pair" (defScope s_law_pair) f cdv A outer s H E) (defBody s_law_pair) w_law_pair := by
  have nd := sc_law_pair.nd
  have hu : (cxOf (L2N.CX P w) P w K mg base n_law_pair "_law_pair" (defScope s_law_pair) f cdv A outer s H E).A.units + 66 < cLine := by have := hr.un; show (A.deeper (envOfC "_law_pair" (defScope s_law_pair) s.heap.objs.size f cdv)).units + 66 < cLine; omega
  have hu1 : (cxOf (L2N.CX P w) P w K mg base n_law_pair "_law_pair" (defScope s_law_pair) f cdv A outer s H E).A.units + 1 < cLine := by omega
  exact S_seq (S_set 1 nd (T_fr (T_lst (A_cons (T_tup (A_cons (T_int) (A_cons (T_int) (A_nil)))) (A_cons (T_tup (A_cons (T_int) (A_cons (T_int) (A_nil)))) (A_cons (T_tup (A_cons (T_int) (A_cons (T_int) (A_nil)))) (A_cons (T_tup (A_cons (T_int) (A_cons (T_int) (A_nil)))) (A_cons (T_tup (A_cons (T_int) (A_cons (T_int) (A_nil)))) (A_cons (T_tup (A_cons (T_int) (A_cons (T_int) (A_nil)))) (A_cons (T_tup (A_cons (T_int) (A_cons (T_int) (A_nil)))) (A_cons (T_tup (A_cons (T_int) (A_cons (T_int) (A_nil)))) (A_cons (T_tup (A_cons (T_int) (A_cons (T_int) (A_nil)))) (A_cons (T_tup (A_cons (T_int) (A_cons (T_int) (A_nil)))) (A_cons (T_tup (A_cons (T_int) (A_cons (T_int) (A_nil)))) (A_cons (T_tup (A_cons (T_int) (A_cons (T_int) (A_nil)))) (A_cons (T_tup (A_cons (T_int) (A_cons (T_int) (A_nil)))) (A_nil)))))))))))))))))
    (S_seq (S_set 1 nd (T_fr (T_bin O_add (T_var 1) (T_lst (A_cons (T_tup (A_cons (T_int) (A_cons (T_int) (A_nil)))) (A_cons (T_tup (A_cons (T_int) (A_cons (T_int) (A_nil)))) (A_cons (T_tup (A_cons (T_int) (A_cons (T_int) (A_nil)))) (A_cons (T_tup (A_cons (T_int) (A_cons (T_int) (A_nil)))) (A_cons (T_tup (A_cons (T_int) (A_cons (T_int) (A_nil)))) (A_cons (T_tup (A_cons (T_int) (A_cons (T_int) (A_nil)))) (A_cons (T_tup (A_cons (T_int) (A_cons (T_int) (A_nil)))) (A_nil))))))))))))
    (S_seq (S_if (TT_cmp (O_eq hu) (T_calG c_law_take (hr.mono (by decide)) (AA_r 0 (AA_v (T_int) (AA_nil)))) (T_int) (nomark _))
    (S_one (S_retG (T_fr (T_sub (X_get hu1) (T_lst (A_cons (T_tup (A_cons (T_int) (A_cons (T_int) (A_nil)))) (A_cons (T_tup (A_cons (T_int) (A_cons (T_int) (A_nil)))) (A_cons (T_tup (A_cons (T_int) (A_cons (T_int) (A_nil)))) (A_cons (T_tup (A_cons (T_int) (A_cons (T_int) (A_nil)))) (A_cons (T_tup (A_cons (T_int) (A_cons (T_int) (A_nil)))) (A_cons (T_tup (A_cons (T_int) (A_cons (T_int) (A_nil)))) (A_cons (T_tup (A_cons (T_int) (A_cons (T_int) (A_nil)))) (A_cons (T_tup (A_cons (T_int) (A_cons (T_int) (A_nil)))) (A_nil)))))))))) (T_calG c_law_take (hr.mono (by decide)) (AA_r 0 (AA_v (T_int) (AA_nil))))))))
    (S_nil))
    (S_one (S_retG (T_fr (T_subK 1 (X_get hu1) (T_calG c_law_take (hr.mono (by decide)) (AA_r 0 (AA_v (T_int) (AA_nil))))))))))
theorem cal_law_pair (T : Txt K mg) (d_law_pair : Def K mg "_law_pair" s_law_pair p_law_pair) (c_law_take : CalG P w K mg base 1 "_law_take" 2 sp_law_take) : CalG P w K mg base 2 "_law_pair" 1 sp_law_pair :=
  calG_of d_law_pair sc_law_pair hl_law_pair (fun f B cdv A outer s H E hr => tr_law_pair T c_law_take f B cdv A outer s H E hr) ok_law_pair
theorem tr_law_walk (T : Txt K mg) (c_law_size : CalG P w K mg base 1 "_law_size" 2 sp_law_size) (c_law_by : CalG P w K mg base 1 "_law_by" 4 sp_law_by) (f : Addr) (B : Base) (cdv : Value) (A : Around) (outer : List Env) (s : Shared) (H : Hp) (E : XK) (hr : RoomG 1 (A.deeper (envOfC "_law_walk" (defScope s_law_walk) s.heap.objs.size f cdv))) :
    PSsT B (cxOf (L2N.CX P w) P w K mg base n_law_walk "_law_walk" (defScope s_law_walk) f cdv A outer s H E) (defBody s_law_walk) w_law_walk := by
  have nd := sc_law_walk.nd
  have hu : (cxOf (L2N.CX P w) P w K mg base n_law_walk "_law_walk" (defScope s_law_walk) f cdv A outer s H E).A.units + 66 < cLine := by have := hr.un; show (A.deeper (envOfC "_law_walk" (defScope s_law_walk) s.heap.objs.size f cdv)).units + 66 < cLine; omega
  have hu1 : (cxOf (L2N.CX P w) P w K mg base n_law_walk "_law_walk" (defScope s_law_walk) f cdv A outer s H E).A.units + 1 < cLine := by omega
  exact S_seq (S_set 3 nd (T_fr (T_bin O_add (T_tup (A_cons (T_int) (A_nil))) (T_bin O_mulA (T_tup (A_cons (T_int) (A_nil))) (T_bin O_sub (T_biK 1 (N_len) T.b_len) (T_int))))))
    (S_seq (S_parR2 4 5 nd (fun _ => T_lst (A_cons (T_var 3) (A_nil))) (fun _ => T_fr (T_var 2)))
    (S_seq (S_while (TT_w (TW_and (TT_cmp (O_ne hu) (T_var 5) (T_var 3) (nomark _)) (TW_and1 (TT_cmp (O_ltA hu) (T_biK 4 (N_len) T.b_len) (T_calG c_law_size (hr.mono (by decide)) (AA_v (T_var 0) (AA_v (T_bin O_sub (T_biK 1 (N_len) T.b_len) (T_int)) (AA_nil)))) (nomark _)))))
    (S_seq (S_drop (T_app 4 (A_cons (T_var 5) (A_nil))))
    (S_one (S_set 5 nd (T_fr (T_calG c_law_by (hr.mono (by decide)) (AA_v (T_var 0) (AA_v (T_var 1) (AA_v (T_var 5) (AA_v (T_var 2) (AA_nil)))))))))))
    (S_one (S_retG (T_fr (T_var 4))))))
theorem cal_law_walk (T : Txt K mg) (d_law_walk : Def K mg "_law_walk" s_law_walk p_law_walk) (c_law_size : CalG P w K mg base 1 "_law_size" 2 sp_law_size) (c_law_by : CalG P w K mg base 1 "_law_by" 4 sp_law_by) : CalG P w K mg base 2 "_law_walk" 3 sp_law_walk :=
  calG_of d_law_walk sc_law_walk hl_law_walk (fun f B cdv A outer s H E hr => tr_law_walk T c_law_size c_law_by f B cdv A outer s H E hr) ok_law_walk
theorem tr_is_power_within (T : Txt K mg) (c_to_the : CalG P w K mg base 1 "to_the" 2 sp_to_the) (c_is_prime : CalG P w K mg base 2 "is_prime" 1 sp_is_prime) (f : Addr) (B : Base) (cdv : Value) (A : Around) (outer : List Env) (s : Shared) (H : Hp) (E : XK) (hr : RoomG 2 (A.deeper (envOfC "is_power_within" (defScope s_is_power_within) s.heap.objs.size f cdv))) :
    PSsT B (cxOf (L2N.CX P w) P w K mg base n_is_power_within "is_power_within" (defScope s_is_power_within) f cdv A outer s H E) (defBody s_is_power_within) w_is_power_within := by
  have nd := sc_is_power_within.nd
  have hu : (cxOf (L2N.CX P w) P w K mg base n_is_power_within "is_power_within" (defScope s_is_power_within) f cdv A outer s H E).A.units + 66 < cLine := by have := hr.un; show (A.deeper (envOfC "is_power_within" (defScope s_is_power_within) s.heap.objs.size f cdv)).units + 66 < cLine; omega
  have hu1 : (cxOf (L2N.CX P w) P w K mg base n_is_power_within "is_power_within" (defScope s_is_power_within) f cdv A outer s H E).A.units + 1 < cLine := by omega
  exact S_seq (S_if (TT_w (TW_or (TT_not (TT_ch O_le O_le (T_int) (T_var 0) (T_var 2))) (TW_or1 (TT_not (TT_ch O_le O_le (T_int) (T_var 1) (T_glob (d := .int 11) (v := .int 11) rfl T.c_MOST_PLACES.choose_spec ⟨_, rfl⟩ (fun _ => .int _)))))))
    (S_one (S_retG (T_fr (T_bl))))
    (S_nil))
    (S_one (S_retG (T_fr (T_and (T_cmp O_le (T_calG c_to_the (hr.mono (by decide)) (AA_v (T_var 0) (AA_v (T_var 1) (AA_nil)))) (T_var 2) (nomark _)) (T_one (T_calG c_is_prime (hr.mono (by decide)) (AA_v (T_var 0) (AA_nil))))))))
theorem cal_is_power_within (T : Txt K mg) (d_is_power_within : Def K mg "is_power_within" s_is_power_within p_is_power_within) (c_to_the : CalG P w K mg base 1 "to_the" 2 sp_to_the) (c_is_prime : CalG P w K mg base 2 "is_prime" 1 sp_is_prime) : CalG P w K mg base 3 "is_power_within" 3 sp_is_power_within :=
  calG_of d_is_power_within sc_is_power_within hl_is_power_within (fun f B cdv A outer s H E hr => tr_is_power_within T c_to_the c_is_prime f B cdv A outer s H E hr) ok_is_power_within
theorem tr_least_whole (T : Txt K mg) (c_rows_of_numbers : CalG P w K mg base 1 "rows_of_numbers" 2 sp_rows_of_numbers) (c_is_product : CalG P w K mg base 2 "is_product" 2 sp_is_product) (f : Addr) (B : Base) (cdv : Value) (A : Around) (outer : List Env) (s : Shared) (H : Hp) (E : XK) (hr : RoomG 2 (A.deeper (envOfC "least_whole" (defScope s_least_whole) s.heap.objs.size f cdv))) :
    PSsT B (cxOf (L2N.CX P w) P w K mg base n_least_whole "least_whole" (defScope s_least_whole) f cdv A outer s H E) (defBody s_least_whole) w_least_whole := by
  have nd := sc_least_whole.nd
  have hu : (cxOf (L2N.CX P w) P w K mg base n_least_whole "least_whole" (defScope s_least_whole) f cdv A outer s H E).A.units + 66 < cLine := by have := hr.un; show (A.deeper (envOfC "least_whole" (defScope s_least_whole) s.heap.objs.size f cdv)).units + 66 < cLine; omega
  have hu1 : (cxOf (L2N.CX P w) P w K mg base n_least_whole "least_whole" (defScope s_least_whole) f cdv A outer s H E).A.units + 1 < cLine := by omega
  exact S_seq (S_for (IT_gh (IT_seq (T_calG c_rows_of_numbers (hr.mono (by decide)) (AA_v (T_var 0) (AA_v (T_var 1) (AA_nil)))))) (G_name 2 nd)
    (S_ghE (S_one (S_if (TT_not (TT_tru (T_calG c_is_product (hr.mono (by decide)) (AA_v (T_var 0) (AA_v (T_bin O_add (T_var 2) (T_tup (A_cons (T_int) (A_nil)))) (AA_nil))))))
    (S_one (S_retG (T_fr (T_bin O_add (T_var 2) (T_tup (A_cons (T_int) (A_nil)))))))
    (S_nil)))))
    (S_one (S_retG (T_fr (T_non))))
theorem cal_least_whole (T : Txt K mg) (d_least_whole : Def K mg "least_whole" s_least_whole p_least_whole) (c_rows_of_numbers : CalG P w K mg base 1 "rows_of_numbers" 2 sp_rows_of_numbers) (c_is_product : CalG P w K mg base 2 "is_product" 2 sp_is_product) : CalG P w K mg base 3 "least_whole" 2 sp_least_whole :=
  calG_of d_least_whole sc_least_whole hl_least_whole (fun f B cdv A outer s H E hr => tr_least_whole T c_rows_of_numbers c_is_product f B cdv A outer s H E hr) ok_least_whole
theorem tr_Field_power (T : Txt K mg) (c_Field_by : CalM P w K mg base 2 "Field" "by" 3 sp_Field_by) (f : Addr) (B : Base) (cdv : Value) (A : Around) (outer : List Env) (s : Shared) (H : Hp) (E : XK) (hr : RoomG 2 (A.deeper (envOfC "Field.power" (defScope s_Field_power) s.heap.objs.size f cdv))) :
    PSsT B (cxOf (L2N.CX P w) P w K mg base n_Field_power "Field.power" (defScope s_Field_power) f cdv A outer s H E) (defBody s_Field_power) w_Field_power := by
  have nd := sc_Field_power.nd
  have hu : (cxOf (L2N.CX P w) P w K mg base n_Field_power "Field.power" (defScope s_Field_power) f cdv A outer s H E).A.units + 66 < cLine := by have := hr.un; show (A.deeper (envOfC "Field.power" (defScope s_Field_power) s.heap.objs.size f cdv)).units + 66 < cLine; omega
  have hu1 : (cxOf (L2N.CX P w) P w K mg base n_Field_power "Field.power" (defScope s_Field_power) f cdv A outer s H E).A.units + 1 < cLine := by omega
  exact S_seq (S_set 3 nd (T_fr (T_fld T.z_Field (by decide +kernel) (T_var 0))))
    (S_seq (S_set 4 nd (T_fr (T_var 1)))
    (S_seq (S_gh1 (S_while (TT_cmp O_gt (T_var 2) (T_int) (nomark _))
    (S_seq (S_asg (T_bi (N_divmod) T.b_divmod (A_cons (T_var 2) (A_cons (T_int) (A_nil)))) (G_tup (G_cons (G_name 2 nd) (G_cons (G_name 5 nd) (G_nil)))))
    (S_seq (S_if (TT_cmp (O_eq hu) (T_var 5) (T_int) (nomark _))
    (S_ghE (S_one (S_set 3 nd (T_fr (T_meth c_Field_by (hr.mono (by decide)) (T_var 0) (AA_v (T_var 3) (AA_v (T_var 4) (AA_nil))))))))
    (S_ghE (S_nil)))
    (S_one (S_set 4 nd (T_fr (T_meth c_Field_by (hr.mono (by decide)) (T_var 0) (AA_v (T_var 4) (AA_v (T_var 4) (AA_nil)))))))))))
    (S_one (S_retG (T_fr (T_var 3))))))
theorem cal_Field_power (T : Txt K mg) (d_Field_power : DefM K "Field" "power" "Field.power" s_Field_power p_Field_power) (c_Field_by : CalM P w K mg base 2 "Field" "by" 3 sp_Field_by) : CalM P w K mg base 3 "Field" "power" 3 sp_Field_power :=
  calM_of d_Field_power sc_Field_power hl_Field_power (fun f B cdv A outer s H E hr => tr_Field_power T c_Field_by f B cdv A outer s H E hr) ok_Field_power (by decide +kernel)
theorem tr_law_first (T : Txt K mg) (c_law_size : CalG P w K mg base 1 "_law_size" 2 sp_law_size) (c_law_rows : CalG P w K mg base 1 "_law_rows" 2 sp_law_rows) (c_law_walk : CalG P w K mg base 2 "_law_walk" 3 sp_law_walk) (f : Addr) (B : Base) (cdv : Value) (A : Around) (outer : List Env) (s : Shared) (H : Hp) (E : XK) (hr : RoomG 2 (A.deeper (envOfC "_law_first" (defScope s_law_first) s.heap.objs.size f cdv))) :
    PSsT B (cxOf (L2N.CX P w) P w K mg base n_law_first "_law_first" (defScope s_law_first) f cdv A outer s H E) (defBody s_law_first) w_law_first := by
  have nd := sc_law_first.nd
  have hu : (cxOf (L2N.CX P w) P w K mg base n_law_first "_law_first" (defScope s_law_first) f cdv A outer s H E).A.units + 66 < cLine := by have := hr.un; show (A.deeper (envOfC "_law_first" (defScope s_law_first) s.heap.objs.size f cdv)).units + 66 < cLine; omega
  have hu1 : (cxOf (L2N.CX P w) P w K mg base n_law_first "_law_first" (defScope s_law_first) f cdv A outer s H E).A.units + 1 < cLine := by omega
  exact S_seq (S_set 2 nd (T_fr (T_bin O_sub (T_calG c_law_size (hr.mono (by decide)) (AA_v (T_var 0) (AA_v (T_bin O_sub (T_biK 1 (N_len) T.b_len) (T_int)) (AA_nil)))) (T_int))))
    (S_seq (S_for (IT_seq (T_sl (T_calG c_law_rows (hr.mono (by decide)) (AA_v (T_var 0) (AA_v (T_bin O_sub (T_biK 1 (N_len) T.b_len) (T_int)) (AA_nil)))) (P_some (T_int)) (P_none))) (G_name 3 nd)
    (S_ghE (S_seq (S_set 4 nd (T_fr (T_calG c_law_walk (hr.mono (by decide)) (AA_v (T_var 0) (AA_v (T_var 1) (AA_v (T_var 3) (AA_nil)))))))
    (S_one (S_if (TT_cmp (O_eq hu) (T_biK 4 (N_len) T.b_len) (T_var 2) (nomark _))
    (S_one (S_retG (T_fr (T_tup (A_cons (T_var 3) (A_cons (T_var 4) (A_nil)))))))
    (S_nil))))))
    (S_one (S_retG (T_fr (T_non)))))
theorem cal_law_first (T : Txt K mg) (d_law_first : Def K mg "_law_first" s_law_first p_law_first) (c_law_size : CalG P w K mg base 1 "_law_size" 2 sp_law_size) (c_law_rows : CalG P w K mg base 1 "_law_rows" 2 sp_law_rows) (c_law_walk : CalG P w K mg base 2 "_law_walk" 3 sp_law_walk) : CalG P w K mg base 3 "_law_first" 2 sp_law_first :=
  calG_of d_law_first sc_law_first hl_law_first (fun f B cdv A outer s H E hr => tr_law_first T c_law_size c_law_rows c_law_walk f B cdv A outer s H E hr) ok_law_first
theorem tr_Field_init (T : Txt K mg) (c_is_power_within : CalG P w K mg base 3 "is_power_within" 3 sp_is_power_within) (c_least_whole : CalG P w K mg base 3 "least_whole" 2 sp_least_whole) (f : Addr) (B : Base) (cdv : Value) (A : Around) (outer : List Env) (s : Shared) (H : Hp) (E : XK) (hr : RoomG 3 (A.deeper (envOfC "Field.__init__" (defScope s_Field_init) s.heap.objs.size f cdv))) :
    PSsT B (cxOf (L2N.CX P w) P w K mg base n_Field_init "Field.__init__" (defScope s_Field_init) f cdv A outer s H E) (defBody s_Field_init) w_Field_init := by
  have nd := sc_Field_init.nd
  have hu : (cxOf (L2N.CX P w) P w K mg base n_Field_init "Field.__init__" (defScope s_Field_init) f cdv A outer s H E).A.units + 66 < cLine := by have := hr.un; show (A.deeper (envOfC "Field.__init__" (defScope s_Field_init) s.heap.objs.size f cdv)).units + 66 < cLine; omega
  have hu1 : (cxOf (L2N.CX P w) P w K mg base n_Field_init "Field.__init__" (defScope s_Field_init) f cdv A outer s H E).A.units + 1 < cLine := by omega
  exact S_seq (S_if (TT_not (TT_tru (T_calG c_is_power_within (hr.mono (by decide)) (AA_v (T_var 1) (AA_v (T_var 2) (AA_v (T_glob (d := .int 2200) (v := .int 2200) rfl T.c_MOST_MEMBERS.choose_spec ⟨_, rfl⟩ (fun _ => .int _)) (AA_nil)))))))
    (S_one (S_never))
    (S_nil))
    (S_seq (S_fldS 0 T.z_Field (by decide +kernel) (T_fr (T_var 1)))
    (S_seq (S_fldS 0 T.z_Field (by decide +kernel) (T_fr (T_var 2)))
    (S_seq (S_fldS 0 T.z_Field (by decide +kernel) (T_fr (T_calG c_least_whole (hr.mono (by decide)) (AA_v (T_var 1) (AA_v (T_var 2) (AA_nil))))))
    (S_seq (S_fldS 0 T.z_Field (by decide +kernel) (T_fr (T_bin O_mulA (T_tup (A_cons (T_int) (A_nil))) (T_var 2))))
    (S_seq (S_fldS 0 T.z_Field (by decide +kernel) (T_fr (T_bin O_add (T_tup (A_cons (T_int) (A_nil))) (T_bin O_mulA (T_tup (A_cons (T_int) (A_nil))) (T_bin O_sub (T_var 2) (T_int))))))
    (S_seq (S_fldS 0 T.z_Field (by decide +kernel) (T_fr (T_non)))
    (S_one (S_fldS 0 T.z_Field (by decide +kernel) (T_dnewT)))))))))
theorem cal_Field_init (T : Txt K mg) (d_Field_init : DefI K mg "Field" "Field.__init__" s_Field_init p_Field_init) (c_is_power_within : CalG P w K mg base 3 "is_power_within" 3 sp_is_power_within) (c_least_whole : CalG P w K mg base 3 "least_whole" 2 sp_least_whole) : CalI P w K mg base 4 "Field" 3 sp_Field_init :=
  calI_of d_Field_init sc_Field_init hl_Field_init (fun f B cdv A outer s H E hr => tr_Field_init T c_is_power_within c_least_whole f B cdv A outer s H E hr) ok_Field_init
theorem tr_Field_is_first (T : Txt K mg) (c_to_the : CalG P w K mg base 1 "to_the" 2 sp_to_the) (c_Field_power : CalM P w K mg base 3 "Field" "power" 3 sp_Field_power) (f : Addr) (B : Base) (cdv : Value) (A : Around) (outer : List Env) (s : Shared) (H : Hp) (E : XK) (hr : RoomG 3 (A.deeper (envOfC "Field.is_first" (defScope s_Field_is_first) s.heap.objs.size f cdv))) :
    PSsT B (cxOf (L2N.CX P w) P w K mg base n_Field_is_first "Field.is_first" (defScope s_Field_is_first) f cdv A outer s H E) (defBody s_Field_is_first) w_Field_is_first := by
  have nd := sc_Field_is_first.nd
  have hu : (cxOf (L2N.CX P w) P w K mg base n_Field_is_first "Field.is_first" (defScope s_Field_is_first) f cdv A outer s H E).A.units + 66 < cLine := by have := hr.un; show (A.deeper (envOfC "Field.is_first" (defScope s_Field_is_first) s.heap.objs.size f cdv)).units + 66 < cLine; omega
  have hu1 : (cxOf (L2N.CX P w) P w K mg base n_Field_is_first "Field.is_first" (defScope s_Field_is_first) f cdv A outer s H E).A.units + 1 < cLine := by omega
  exact S_seq (S_if (TT_cmp (O_eq hu) (T_var 1) (T_fld T.z_Field (by decide +kernel) (T_var 0)) (nomark _))
    (S_one (S_retG (T_fr (T_bl))))
    (S_nil))
    (S_seq (S_set 3 nd (T_fr (T_bin O_sub (T_calG c_to_the (hr.mono (by decide)) (AA_v (T_fld T.z_Field (by decide +kernel) (T_var 0)) (AA_v (T_fld T.z_Field (by decide +kernel) (T_var 0)) (AA_nil)))) (T_int))))
    (S_one (S_retG (T_fr (T_bi (N_all) T.b_all (A_cons (T_lc [("prime", 4), ("often", 5)] nd (IT_G (IT_seq (T_var 2))) (blkOk_by (own := [("prime", 4), ("often", 5)]) (N := n_Field_is_first) (sc := defScope s_Field_is_first) (by decide +kernel)) (fun _ _ _ _ _ _ => G_tup (G_cons (G_name 4 nd) (G_cons (G_name 5 nd) (G_nil)))) (fun _ _ _ _ _ _ => C_nil) (fun _ _ _ _ _ _ => T_cmp (O_ne hu) (T_meth c_Field_power (hr.mono (by decide)) (T_var 0) (AA_v (T_var 1) (AA_v (T_bin O_div (T_var 3) (T_var 4)) (AA_nil)))) (T_fld T.z_Field (by decide +kernel) (T_var 0)) (nomark _))) (A_nil)))))))
theorem cal_Field_is_first (T : Txt K mg) (d_Field_is_first : DefM K "Field" "is_first" "Field.is_first" s_Field_is_first p_Field_is_first) (c_to_the : CalG P w K mg base 1 "to_the" 2 sp_to_the) (c_Field_power : CalM P w K mg base 3 "Field" "power" 3 sp_Field_power) : CalM P w K mg base 4 "Field" "is_first" 3 sp_Field_is_first :=
  calM_of d_Field_is_first sc_Field_is_first hl_Field_is_first (fun f B cdv A outer s H E hr => tr_Field_is_first T c_to_the c_Field_power f B cdv A outer s H E hr) ok_Field_is_first (by decide +kernel)
theorem tr_Field_first (T : Txt K mg) (c_to_the : CalG P w K mg base 1 "to_the" 2 sp_to_the) (c_primes_in : CalG P w K mg base 1 "primes_in" 1 sp_primes_in) (c_rows_of_numbers : CalG P w K mg base 1 "rows_of_numbers" 2 sp_rows_of_numbers) (c_Field_is_first : CalM P w K mg base 4 "Field" "is_first" 3 sp_Field_is_first) (f : Addr) (B : Base) (cdv : Value) (A : Around) (outer : List Env) (s : Shared) (H : Hp) (E : XK) (hr : RoomG 4 (A.deeper (envOfC "Field.first" (defScope s_Field_first) s.heap.objs.size f cdv))) :
    PSsT B (cxOf (L2N.CX P w) P w K mg base n_Field_first "Field.first" (defScope s_Field_first) f cdv A outer s H E) (defBody s_Field_first) w_Field_first := by
  have nd := sc_Field_first.nd
  have hu : (cxOf (L2N.CX P w) P w K mg base n_Field_first "Field.first" (defScope s_Field_first) f cdv A outer s H E).A.units + 66 < cLine := by have := hr.un; show (A.deeper (envOfC "Field.first" (defScope s_Field_first) s.heap.objs.size f cdv)).units + 66 < cLine; omega
  have hu1 : (cxOf (L2N.CX P w) P w K mg base n_Field_first "Field.first" (defScope s_Field_first) f cdv A outer s H E).A.units + 1 < cLine := by omega
  exact S_seq (S_if (TT_cmp O_is (T_fldK 0 T.z_Field (by decide +kernel)) (T_non) (nomark _))
    (S_ghE (S_seq (S_set 1 nd (T_fr (T_calG c_primes_in (hr.mono (by decide)) (AA_v (T_bin O_sub (T_calG c_to_the (hr.mono (by decide)) (AA_v (T_fldK 0 T.z_Field (by decide +kernel)) (AA_v (T_fldK 0 T.z_Field (by decide +kernel)) (AA_nil)))) (T_int)) (AA_nil)))))
    (S_seq (S_set 2 nd (T_fr (T_int)))
    (S_seq (S_set 3 nd (T_fr (T_calG c_rows_of_numbers (hr.mono (by decide)) (AA_v (T_fldK 0 T.z_Field (by decide +kernel)) (AA_v (T_fldK 0 T.z_Field (by decide +kernel)) (AA_nil))))))
    (S_seq (S_while (TT_not (TT_tru (T_methR 0 c_Field_is_first.vw (hr.mono (by decide)) (AA_v (T_subK 3 (X_get hu1) (T_var 2)) (AA_v (T_var 1) (AA_nil))))))
    (S_one (S_aug 2 nd I_add (T_int))))
    (S_one (S_fldS 0 T.z_Field (by decide +kernel) (T_fr (T_subK 3 (X_get hu1) (T_var 2))))))))))
    (S_nil))
    (S_one (S_retG (T_fr (T_fldK 0 T.z_Field (by decide +kernel)))))
theorem cal_Field_first (T : Txt K mg) (d_Field_first : DefM K "Field" "first" "Field.first" s_Field_first p_Field_first) (c_to_the : CalG P w K mg base 1 "to_the" 2 sp_to_the) (c_primes_in : CalG P w K mg base 1 "primes_in" 1 sp_primes_in) (c_rows_of_numbers : CalG P w K mg base 1 "rows_of_numbers" 2 sp_rows_of_numbers) (c_Field_is_first : CalM P w K mg base 4 "Field" "is_first" 3 sp_Field_is_first) : CalM P w K mg base 5 "Field" "first" 1 sp_Field_first :=
  calM_of d_Field_first sc_Field_first hl_Field_first (fun f B cdv A outer s H E hr => tr_Field_first T c_to_the c_primes_in c_rows_of_numbers c_Field_is_first f B cdv A outer s H E hr) ok_Field_first (by decide +kernel)
theorem tr_Field_log (T : Txt K mg) (c_to_the : CalG P w K mg base 1 "to_the" 2 sp_to_the) (c_Field_first : CalM P w K mg base 5 "Field" "first" 1 sp_Field_first) (c_Field_by : CalM P w K mg base 2 "Field" "by" 3 sp_Field_by) (f : Addr) (B : Base) (cdv : Value) (A : Around) (outer : List Env) (s : Shared) (H : Hp) (E : XK) (hr : RoomG 5 (A.deeper (envOfC "Field.log" (defScope s_Field_log) s.heap.objs.size f cdv))) :
    PSsT B (cxOf (L2N.CX P w) P w K mg base n_Field_log "Field.log" (defScope s_Field_log) f cdv A outer s H E) (defBody s_Field_log) w_Field_log := by
  have nd := sc_Field_log.nd
  have hu : (cxOf (L2N.CX P w) P w K mg base n_Field_log "Field.log" (defScope s_Field_log) f cdv A outer s H E).A.units + 66 < cLine := by have := hr.un; show (A.deeper (envOfC "Field.log" (defScope s_Field_log) s.heap.objs.size f cdv)).units + 66 < cLine; omega
  have hu1 : (cxOf (L2N.CX P w) P w K mg base n_Field_log "Field.log" (defScope s_Field_log) f cdv A outer s H E).A.units + 1 < cLine := by omega
  exact S_seq (S_if (TT_cmp (O_eq hu) (T_var 1) (T_fldK 0 T.z_Field (by decide +kernel)) (nomark _))
    (S_one (S_raise T.r_NoMember))
    (S_nil))
    (S_seq (S_if (TT_femp 0 T.z_Field (by decide +kernel) hu1)
    (S_ghE (S_seq (S_set 2 nd (T_fr (T_fldK 0 T.z_Field (by decide +kernel))))
    (S_one (S_for (IT_r1 T.b_range (A_cons (T_bin O_sub (T_calG c_to_the (hr.mono (by decide)) (AA_v (T_fldK 0 T.z_Field (by decide +kernel)) (AA_v (T_fldK 0 T.z_Field (by decide +kernel)) (AA_nil)))) (T_int)) (A_nil))) (G_name 3 nd)
    (S_ghE (S_seq (S_fput 0 2 T.z_Field (by decide +kernel) hu1 (T_var 3))
    (S_one (S_set 2 nd (T_fr (T_methR 0 c_Field_by.vw (hr.mono (by decide)) (AA_v (T_var 2) (AA_v (T_methR0 0 c_Field_first (hr.mono (by decide))) (AA_nil)))))))))))))
    (S_nil))
    (S_one (S_retG (T_fr (T_fsub 0 1 T.z_Field (by decide +kernel) hu1)))))
theorem cal_Field_log (T : Txt K mg) (d_Field_log : DefM K "Field" "log" "Field.log" s_Field_log p_Field_log) (c_to_the : CalG P w K mg base 1 "to_the" 2 sp_to_the) (c_Field_first : CalM P w K mg base 5 "Field" "first" 1 sp_Field_first) (c_Field_by : CalM P w K mg base 2 "Field" "by" 3 sp_Field_by) : CalM P w K mg base 6 "Field" "log" 2 sp_Field_log :=
  calM_of d_Field_log sc_Field_log hl_Field_log (fun f B cdv A outer s H E hr => tr_Field_log T c_to_the c_Field_first c_Field_by f B cdv A outer s H E hr) ok_Field_log (by decide +kernel)
theorem tr_law_refused (T : Txt K mg) (c_Field_log : CalM P w K mg base 6 "Field" "log" 2 sp_Field_log) (c_law_only : CalG P w K mg base 2 "_law_only" 2 sp_law_only) (f : Addr) (B : Base) (cdv : Value) (A : Around) (outer : List Env) (s : Shared) (H : Hp) (E : XK) (hr : RoomG 6 (A.deeper (envOfC "_law_refused" (defScope s_law_refused) s.heap.objs.size f cdv))) :
    PSsT B (cxOf (L2N.CX P w) P w K mg base n_law_refused "_law_refused" (defScope s_law_refused) f cdv A outer s H E) (defBody s_law_refused) w_law_refused := by
  have nd := sc_law_refused.nd
  have hu : (cxOf (L2N.CX P w) P w K mg base n_law_refused "_law_refused" (defScope s_law_refused) f cdv A outer s H E).A.units + 66 < cLine := by have := hr.un; show (A.deeper (envOfC "_law_refused" (defScope s_law_refused) s.heap.objs.size f cdv)).units + 66 < cLine; omega
  have hu1 : (cxOf (L2N.CX P w) P w K mg base n_law_refused "_law_refused" (defScope s_law_refused) f cdv A outer s H E).A.units + 1 < cLine := by omega
  exact S_seq (S_set 2 nd (T_fr (T_non)))
    (S_seq (S_tryE 3 ["NoMember"] nd T.t_EvenError (fun B pn xe po => S_ghE (S_one (S_drop (T_methR 0 c_Field_log (hr.mono (by decide)) (AA_v (T_bin O_mulA (T_tup (A_cons (T_int) (A_nil))) (T_var 1)) (AA_nil))))))
    (fun B a pn hot => S_ghE (S_one (S_set 2 nd (T_fr (T_var 3))))))
    (S_one (S_retG (T_fr (T_calG c_law_only (hr.mono (by decide)) (AA_v (T_var 2) (AA_v (T_int) (AA_nil))))))))
theorem cal_law_refused (T : Txt K mg) (d_law_refused : Def K mg "_law_refused" s_law_refused p_law_refused) (c_Field_log : CalM P w K mg base 6 "Field" "log" 2 sp_Field_log) (c_law_only : CalG P w K mg base 2 "_law_only" 2 sp_law_only) : CalG P w K mg base 7 "_law_refused" 2 sp_law_refused :=
  calG_of d_law_refused sc_law_refused hl_law_refused (fun f B cdv A outer s H E hr => tr_law_refused T c_Field_log c_law_only f B cdv A outer s H E hr) ok_law_refused
theorem tr_law_great_right (T : Txt K mg) (c_law_take : CalG P w K mg base 1 "_law_take" 2 sp_law_take) (c_Field_init : CalI P w K mg base 4 "Field" 3 sp_Field_init) (c_law_size : CalG P w K mg base 1 "_law_size" 2 sp_law_size) (c_Field_first : CalM P w K mg base 5 "Field" "first" 1 sp_Field_first) (c_Field_power : CalM P w K mg base 3 "Field" "power" 3 sp_Field_power) (c_Field_log : CalM P w K mg base 6 "Field" "log" 2 sp_Field_log) (f : Addr) (B : Base) (cdv : Value) (A : Around) (outer : List Env) (s : Shared) (H : Hp) (E : XK) (hr : RoomG 6 (A.deeper (envOfC "_law_great_right" (defScope s_law_great_right) s.heap.objs.size f cdv))) :
    PSsT B (cxOf (L2N.CX P w) P w K mg base n_law_great_right "_law_great_right" (defScope s_law_great_right) f cdv A outer s H E) (defBody s_law_great_right) w_law_great_right := by
  have nd := sc_law_great_right.nd
  have hu : (cxOf (L2N.CX P w) P w K mg base n_law_great_right "_law_great_right" (defScope s_law_great_right) f cdv A outer s H E).A.units + 66 < cLine := by have := hr.un; show (A.deeper (envOfC "_law_great_right" (defScope s_law_great_right) s.heap.objs.size f cdv)).units + 66 < cLine; omega
  have hu1 : (cxOf (L2N.CX P w) P w K mg base n_law_great_right "_law_great_right" (defScope s_law_great_right) f cdv A outer s H E).A.units + 1 < cLine := by omega
  exact S_seq (S_set 1 nd (T_fr (T_lst (A_cons (T_tup (A_cons (T_int) (A_cons (T_int) (A_nil)))) (A_cons (T_tup (A_cons (T_int) (A_cons (T_int) (A_nil)))) (A_cons (T_tup (A_cons (T_int) (A_cons (T_int) (A_nil)))) (A_cons (T_tup (A_cons (T_int) (A_cons (T_int) (A_nil)))) (A_cons (T_tup (A_cons (T_int) (A_cons (T_int) (A_nil)))) (A_cons (T_tup (A_cons (T_int) (A_cons (T_int) (A_nil)))) (A_cons (T_tup (A_cons (T_int) (A_cons (T_int) (A_nil)))) (A_cons (T_tup (A_cons (T_int) (A_cons (T_int) (A_nil)))) (A_cons (T_tup (A_cons (T_int) (A_cons (T_int) (A_nil)))) (A_cons (T_tup (A_cons (T_int) (A_cons (T_int) (A_nil)))) (A_nil))))))))))))))
    (S_seq (S_asg (T_subK 1 (X_get hu1) (T_calG c_law_take (hr.mono (by decide)) (AA_r 0 (AA_v (T_int) (AA_nil))))) (G_tup (G_cons (G_name 2 nd) (G_cons (G_name 3 nd) (G_nil)))))
    (S_seq (S_parC2 4 5 nd (fun _ => T_make c_Field_init (hr.mono (by decide)) (AA_v (T_var 2) (AA_v (T_var 3) (AA_nil)))) (fun _ => T_fr (T_bin O_sub (T_calG c_law_size (hr.mono (by decide)) (AA_v (T_var 2) (AA_v (T_var 3) (AA_nil)))) (T_int))))
    (S_seq (S_set 6 nd (T_fr (T_bin O_add (T_lst (A_cons (T_int) (A_cons (T_bin O_sub (T_var 5) (T_int)) (A_nil)))) (T_lc [("_law_turn", 7)] nd (IT_G (IT_r1 T.b_range (A_cons (T_int) (A_nil)))) (blkOk_by (own := [("_law_turn", 7)]) (N := n_law_great_right) (sc := defScope s_law_great_right) (by decide +kernel)) (fun _ _ _ _ _ _ => G_name 7 nd) (fun _ _ _ _ _ _ => C_nil) (fun _ _ _ _ _ _ => T_calG c_law_take (hr.mono (by decide)) (AA_r 0 (AA_v (T_var 5) (AA_nil))))))))
    (S_one (S_retG (T_fr (T_bi (N_all) T.b_all (A_cons (T_lc [("_law_k", 8)] nd (IT_G (IT_seq (T_var 6))) (blkOk_by (own := [("_law_k", 8)]) (N := n_law_great_right) (sc := defScope s_law_great_right) (by decide +kernel)) (fun _ _ _ _ _ _ => G_name 8 nd) (fun _ _ _ _ _ _ => C_nil) (fun _ _ _ _ _ _ => T_cmp (O_eq hu) (T_bi ((N_repr hr.g hu)) T.b_repr (A_cons (T_noX (T_methR 4 c_Field_log (hr.mono (by decide)) (AA_v (T_methR 4 c_Field_power.vw (hr.mono (by decide)) (AA_v (T_methR0 4 c_Field_first (hr.mono (by decide))) (AA_v (T_var 8) (AA_nil)))) (AA_nil)))) (A_nil))) (T_bi ((N_repr hr.g hu)) T.b_repr (A_cons (T_var 8) (A_nil))) (nomark _))) (A_nil)))))))))
theorem cal_law_great_right (T : Txt K mg) (d_law_great_right : Def K mg "_law_great_right" s_law_great_right p_law_great_right) (c_law_take : CalG P w K mg base 1 "_law_take" 2 sp_law_take) (c_Field_init : CalI P w K mg base 4 "Field" 3 sp_Field_init) (c_law_size : CalG P w K mg base 1 "_law_size" 2 sp_law_size) (c_Field_first : CalM P w K mg base 5 "Field" "first" 1 sp_Field_first) (c_Field_power : CalM P w K mg base 3 "Field" "power" 3 sp_Field_power) (c_Field_log : CalM P w K mg base 6 "Field" "log" 2 sp_Field_log) : CalG P w K mg base 7 "_law_great_right" 1 sp_law_great_right :=
  calG_of d_law_great_right sc_law_great_right hl_law_great_right (fun f B cdv A outer s H E hr => tr_law_great_right T c_law_take c_Field_init c_law_size c_Field_first c_Field_power c_Field_log f B cdv A outer s H E hr) ok_law_great_right
theorem tr_law (T : Txt K mg) (c_law_hand : CalG P w K mg base 1 "_law_hand" 2 sp_law_hand) (c_law_great_right : CalG P w K mg base 7 "_law_great_right" 1 sp_law_great_right) (c_law_pair : CalG P w K mg base 2 "_law_pair" 1 sp_law_pair) (c_Field_init : CalI P w K mg base 4 "Field" 3 sp_Field_init) (c_law_take : CalG P w K mg base 1 "_law_take" 2 sp_law_take) (c_Field_form : CalM P w K mg base 1 "Field" "form" 1 sp_Field_form) (c_law_first : CalG P w K mg base 3 "_law_first" 2 sp_law_first) (c_Field_log : CalM P w K mg base 6 "Field" "log" 2 sp_Field_log) (c_Field_first : CalM P w K mg base 5 "Field" "first" 1 sp_Field_first) (c_law_refused : CalG P w K mg base 7 "_law_refused" 2 sp_law_refused) (f : Addr) (B : Base) (cdv : Value) (A : Around) (outer : List Env) (s : Shared) (H : Hp) (E : XK) (hr : RoomG 7 (A.deeper (envOfC "law" (defScope s_law) s.heap.objs.size f cdv))) :
    PSsT B (cxOf (L2N.CX P w) P w K mg base n_law "law" (defScope s_law) f cdv A outer s H E) (defBody s_law) w_law := by
  have nd := sc_law.nd
  have hu : (cxOf (L2N.CX P w) P w K mg base n_law "law" (defScope s_law) f cdv A outer s H E).A.units + 66 < cLine := by have := hr.un; show (A.deeper (envOfC "law" (defScope s_law) s.heap.objs.size f cdv)).units + 66 < cLine; omega
  have hu1 : (cxOf (L2N.CX P w) P w K mg base n_law "law" (defScope s_law) f cdv A outer s H E).A.units + 1 < cLine := by omega
  exact S_seq (S_if (TT_not (TT_tru (T_callO c_law_great_right (hr.mono (by decide)) (T_calG c_law_hand (hr.mono (by decide)) (AA_v (T_var 0) (AA_v (T_int) (AA_nil)))))))
    (S_one (S_retG (T_fr (T_bl))))
    (S_nil))
    (S_seq (S_for (IT_r1 T.b_range (A_cons (T_bi (N_max2) T.b_max (A_cons (T_int) (A_cons (T_bi (N_min2) T.b_min (A_cons (T_int) (A_cons (T_biK 0 (N_len) T.b_len) (A_nil)))) (A_nil)))) (A_nil))) (G_name 1 nd)
    (S_ghE (S_seq (S_set 2 nd (T_calG c_law_hand (hr.mono (by decide)) (AA_v (T_var 0) (AA_v (T_var 1) (AA_nil)))))
    (S_seq (S_asg (T_calG c_law_pair (hr.mono (by decide)) (AA_r 2 (AA_nil))) (G_tup (G_cons (G_name 3 nd) (G_cons (G_name 4 nd) (G_nil)))))
    (S_seq (S_parR2 5 6 nd (fun _ => T_make c_Field_init (hr.mono (by decide)) (AA_v (T_var 3) (AA_v (T_var 4) (AA_nil)))) (fun _ => T_fr (T_calG c_law_take (hr.mono (by decide)) (AA_r 2 (AA_v (T_int) (AA_nil))))))
    (S_seq (S_asg (T_calG c_law_first (hr.mono (by decide)) (AA_v (T_var 3) (AA_v (T_methR0 5 c_Field_form.vw (hr.mono (by decide))) (AA_nil)))) (G_tup (G_cons (G_name 7 nd) (G_cons (G_name 8 nd) (G_nil)))))
    (S_seq (S_set 9 nd (T_fr (T_bin O_add (T_lc [("_law_turn", 11)] nd (IT_G (IT_r1 T.b_range (A_cons (T_int) (A_nil)))) (blkOk_by (own := [("_law_turn", 11)]) (N := n_law) (sc := defScope s_law) (by decide +kernel)) (fun _ _ _ _ _ _ => G_name 11 nd) (fun _ _ _ _ _ _ => C_nil) (fun _ _ _ _ _ _ => T_calG c_law_take (hr.mono (by decide)) (AA_r 2 (AA_v (T_biK 8 (N_len) T.b_len) (AA_nil))))) (T_lrg1 T.b_list T.b_range (T_bi (N_min2) T.b_min (A_cons (T_int) (A_cons (T_biK 8 (N_len) T.b_len) (A_nil))))))))
    (S_seq (S_if (TT_w (TW_and (TT_cmp (O_eq hu) (T_var 6) (T_int) (nomark _)) (TW_and1 (TT_cmp (O_ne hu) (T_bi ((N_repr hr.g hu)) T.b_repr (A_cons (T_noX (T_methR 5 c_Field_log (hr.mono (by decide)) (AA_v (T_subK 8 (X_get hu1) (T_subK 9 (X_get hu1) (T_int))) (AA_nil)))) (A_nil))) (T_bi ((N_repr hr.g hu)) T.b_repr (A_cons (T_subK 9 (X_get hu1) (T_int)) (A_nil))) (nomark _)))))
    (S_one (S_retG (T_fr (T_bl))))
    (S_nil))
    (S_seq (S_if (TT_w (TW_or (TT_cmp (O_ne hu) (T_bi ((N_repr hr.g hu)) T.b_repr (A_cons (T_methR0 5 c_Field_first (hr.mono (by decide))) (A_nil))) (T_bi ((N_repr hr.g hu)) T.b_repr (A_cons (T_var 7) (A_nil))) (nomark _)) (TW_or (TT_not (TT_tru (T_calG c_law_refused (hr.mono (by decide)) (AA_r 5 (AA_v (T_var 4) (AA_nil)))))) (TW_or1 (TT_cmp (O_ne hu) (T_bi ((N_repr hr.g hu)) T.b_repr (A_cons (T_methR0 5 c_Field_first (hr.mono (by decide))) (A_nil))) (T_bi ((N_repr hr.g hu)) T.b_repr (A_cons (T_var 7) (A_nil))) (nomark _))))))
    (S_one (S_retG (T_fr (T_bl))))
    (S_nil))
    (S_one (S_for (IT_gh (IT_seq (T_bin O_add (T_var 9) (T_sl (T_var 9) (P_none) (P_some (T_int)))))) (G_name 10 nd)
    (S_ghE (S_one (S_if (TT_cmp (O_ne hu) (T_bi ((N_repr hr.g hu)) T.b_repr (A_cons (T_noX (T_methR 5 c_Field_log (hr.mono (by decide)) (AA_v (T_subK 8 (X_get hu1) (T_var 10)) (AA_nil)))) (A_nil))) (T_bi ((N_repr hr.g hu)) T.b_repr (A_cons (T_var 10) (A_nil))) (nomark _))
    (S_one (S_retG (T_fr (T_bl))))
    (S_nil)))))))))))))))
    (S_one (S_retG (T_fr (T_bl)))))
end
theorem all_mk {l : PySem.W.OpenLaw} {w : World} {K : PySem.W.Frag} {h : Heap} {mg : Str → Option Value} {fa : Addr} (X : K.In h) (G : h.Ns mainGlobals mg) (hfa : mg "law" = some (.ref fa))
    {C_Field : Addr} (zx_Field : PySem.W.nsIn K mainGlobals (Str.ofString "Field") = some (some (.ref C_Field))) (y1_Field : PySem.W.plainGet K C_Field Str.empty = true) (y2_Field : PySem.W.hasDictIn K C_Field = true) (y3_Field : PySem.W.plainOver K C_Field = true) (y4_Field : PySem.W.findIn K (.ref C_Field) "__setattr__" = some (some (.builtin "object.__setattr__"))) (y5_Field : PySem.W.makesIn K C_Field = true) (y6_Field : PySem.W.keepIn K (.ref C_Field) = true) (yf_Field_p : PySem.W.findIn K (.ref C_Field) "p" = some none) (yf_Field_m : PySem.W.findIn K (.ref C_Field) "m" = some none) (yf_Field_shape : PySem.W.findIn K (.ref C_Field) "shape" = some none) (yf_Field_nought : PySem.W.findIn K (.ref C_Field) "nought" = some none) (yf_Field_one : PySem.W.findIn K (.ref C_Field) "one" = some none) (yf_Field_kept_first : PySem.W.findIn K (.ref C_Field) "kept_first" = some none) (yf_Field_kept_logs : PySem.W.findIn K (.ref C_Field) "kept_logs" = some none)
    {f0 : Addr} {od0 an0 : Option Addr} {sl0 : Array (Option Value)} {oc0 kV0 dc0 pm0 cd0 ct0 : Value}
    (a0 : PySem.W.nsIn K mainGlobals "primes_in" = some (some (.ref f0))) (l0 : K.lookup f0 = some ⟨oc0, od0, .func (PySem.W.fnOf "primes_in" "primes_in" (defArgs s_primes_in) (defBody s_primes_in) (defScope s_primes_in) .none kV0 dc0 pm0 an0 cd0 ct0), sl0⟩) (c0 : PySem.W.codeIn K cd0 "primes_in" = true) (k0 : PySem.W.keepIn K (.ref f0) = true)
    {f1 : Addr} {od1 an1 : Option Addr} {sl1 : Array (Option Value)} {oc1 kV1 dc1 pm1 cd1 ct1 : Value}
    (a1 : PySem.W.nsIn K mainGlobals "to_the" = some (some (.ref f1))) (l1 : K.lookup f1 = some ⟨oc1, od1, .func (PySem.W.fnOf "to_the" "to_the" (defArgs s_to_the) (defBody s_to_the) (defScope s_to_the) .none kV1 dc1 pm1 an1 cd1 ct1), sl1⟩) (c1 : PySem.W.codeIn K cd1 "to_the" = true) (k1 : PySem.W.keepIn K (.ref f1) = true)
    {f2 : Addr} {od2 an2 : Option Addr} {sl2 : Array (Option Value)} {oc2 kV2 dc2 pm2 cd2 ct2 : Value}
    (a2 : PySem.W.nsIn K mainGlobals "rows_of_numbers" = some (some (.ref f2))) (l2 : K.lookup f2 = some ⟨oc2, od2, .func (PySem.W.fnOf "rows_of_numbers" "rows_of_numbers" (defArgs s_rows_of_numbers) (defBody s_rows_of_numbers) (defScope s_rows_of_numbers) .none kV2 dc2 pm2 an2 cd2 ct2), sl2⟩) (c2 : PySem.W.codeIn K cd2 "rows_of_numbers" = true) (k2 : PySem.W.keepIn K (.ref f2) = true)
    {f3 : Addr} {od3 an3 : Option Addr} {sl3 : Array (Option Value)} {oc3 kV3 dc3 pm3 cd3 ct3 : Value}
    (a3 : PySem.W.nsIn K mainGlobals "rest_by" = some (some (.ref f3))) (l3 : K.lookup f3 = some ⟨oc3, od3, .func (PySem.W.fnOf "rest_by" "rest_by" (defArgs s_rest_by) (defBody s_rest_by) (defScope s_rest_by) .none kV3 dc3 pm3 an3 cd3 ct3), sl3⟩) (c3 : PySem.W.codeIn K cd3 "rest_by" = true) (k3 : PySem.W.keepIn K (.ref f3) = true)
    {f4 : Addr} {od4 an4 : Option Addr} {sl4 : Array (Option Value)} {oc4 kV4 dc4 pm4 cd4 ct4 : Value}
    (a4 : PySem.W.findIn K (.ref C_Field) "form" = some (some (.ref f4))) (i4 : PySem.W.isFn K (.ref f4) = true) (l4 : K.lookup f4 = some ⟨oc4, od4, .func (PySem.W.fnOf "form" "Field.form" (defArgs s_Field_form) (defBody s_Field_form) (defScope s_Field_form) .none kV4 dc4 pm4 an4 cd4 ct4), sl4⟩) (c4 : PySem.W.codeIn K cd4 "Field.form" = true) (k4 : PySem.W.keepIn K (.ref f4) = true)
    {f5 : Addr} {od5 an5 : Option Addr} {sl5 : Array (Option Value)} {oc5 kV5 dc5 pm5 cd5 ct5 : Value}
    (a5 : PySem.W.nsIn K mainGlobals "_law_hand" = some (some (.ref f5))) (l5 : K.lookup f5 = some ⟨oc5, od5, .func (PySem.W.fnOf "_law_hand" "_law_hand" (defArgs s_law_hand) (defBody s_law_hand) (defScope s_law_hand) .none kV5 dc5 pm5 an5 cd5 ct5), sl5⟩) (c5 : PySem.W.codeIn K cd5 "_law_hand" = true) (k5 : PySem.W.keepIn K (.ref f5) = true)
    {f6 : Addr} {od6 an6 : Option Addr} {sl6 : Array (Option Value)} {oc6 kV6 dc6 pm6 cd6 ct6 : Value}
    (a6 : PySem.W.nsIn K mainGlobals "_law_take" = some (some (.ref f6))) (l6 : K.lookup f6 = some ⟨oc6, od6, .func (PySem.W.fnOf "_law_take" "_law_take" (defArgs s_law_take) (defBody s_law_take) (defScope s_law_take) .none kV6 dc6 pm6 an6 cd6 ct6), sl6⟩) (c6 : PySem.W.codeIn K cd6 "_law_take" = true) (k6 : PySem.W.keepIn K (.ref f6) = true)
    {f7 : Addr} {od7 an7 : Option Addr} {sl7 : Array (Option Value)} {oc7 kV7 dc7 pm7 cd7 ct7 : Value}
    (a7 : PySem.W.nsIn K mainGlobals "_law_size" = some (some (.ref f7))) (l7 : K.lookup f7 = some ⟨oc7, od7, .func (PySem.W.fnOf "_law_size" "_law_size" (defArgs s_law_size) (defBody s_law_size) (defScope s_law_size) .none kV7 dc7 pm7 an7 cd7 ct7), sl7⟩) (c7 : PySem.W.codeIn K cd7 "_law_size" = true) (k7 : PySem.W.keepIn K (.ref f7) = true)
    {f8 : Addr} {od8 an8 : Option Addr} {sl8 : Array (Option Value)} {oc8 kV8 dc8 pm8 cd8 ct8 : Value}
    (a8 : PySem.W.nsIn K mainGlobals "_law_rows" = some (some (.ref f8))) (l8 : K.lookup f8 = some ⟨oc8, od8, .func (PySem.W.fnOf "_law_rows" "_law_rows" (defArgs s_law_rows) (defBody s_law_rows) (defScope s_law_rows) .none kV8 dc8 pm8 an8 cd8 ct8), sl8⟩) (c8 : PySem.W.codeIn K cd8 "_law_rows" = true) (k8 : PySem.W.keepIn K (.ref f8) = true)
    {f9 : Addr} {od9 an9 : Option Addr} {sl9 : Array (Option Value)} {oc9 kV9 dc9 pm9 cd9 ct9 : Value}
    (a9 : PySem.W.nsIn K mainGlobals "_law_by" = some (some (.ref f9))) (l9 : K.lookup f9 = some ⟨oc9, od9, .func (PySem.W.fnOf "_law_by" "_law_by" (defArgs s_law_by) (defBody s_law_by) (defScope s_law_by) .none kV9 dc9 pm9 an9 cd9 ct9), sl9⟩) (c9 : PySem.W.codeIn K cd9 "_law_by" = true) (k9 : PySem.W.keepIn K (.ref f9) = true)
    {f10 : Addr} {od10 an10 : Option Addr} {sl10 : Array (Option Value)} {oc10 kV10 dc10 pm10 cd10 ct10 : Value}
    (a10 : PySem.W.nsIn K mainGlobals "_law_marks" = some (some (.ref f10))) (l10 : K.lookup f10 = some ⟨oc10, od10, .func (PySem.W.fnOf "_law_marks" "_law_marks" (defArgs s_law_marks) (defBody s_law_marks) (defScope s_law_marks) .none kV10 dc10 pm10 an10 cd10 ct10), sl10⟩) (c10 : PySem.W.codeIn K cd10 "_law_marks" = true) (k10 : PySem.W.keepIn K (.ref f10) = true)
    {f11 : Addr} {od11 an11 : Option Addr} {sl11 : Array (Option Value)} {oc11 kV11 dc11 pm11 cd11 ct11 : Value}
    (a11 : PySem.W.nsIn K mainGlobals "is_prime" = some (some (.ref f11))) (l11 : K.lookup f11 = some ⟨oc11, od11, .func (PySem.W.fnOf "is_prime" "is_prime" (defArgs s_is_prime) (defBody s_is_prime) (defScope s_is_prime) .none kV11 dc11 pm11 an11 cd11 ct11), sl11⟩) (c11 : PySem.W.codeIn K cd11 "is_prime" = true) (k11 : PySem.W.keepIn K (.ref f11) = true)
    {f12 : Addr} {od12 an12 : Option Addr} {sl12 : Array (Option Value)} {oc12 kV12 dc12 pm12 cd12 ct12 : Value}
    (a12 : PySem.W.nsIn K mainGlobals "is_product" = some (some (.ref f12))) (l12 : K.lookup f12 = some ⟨oc12, od12, .func (PySem.W.fnOf "is_product" "is_product" (defArgs s_is_product) (defBody s_is_product) (defScope s_is_product) .none kV12 dc12 pm12 an12 cd12 ct12), sl12⟩) (c12 : PySem.W.codeIn K cd12 "is_product" = true) (k12 : PySem.W.keepIn K (.ref f12) = true)
    {f13 : Addr} {od13 an13 : Option Addr} {sl13 : Array (Option Value)} {oc13 kV13 dc13 pm13 cd13 ct13 : Value}
    (a13 : PySem.W.findIn K (.ref C_Field) "by" = some (some (.ref f13))) (i13 : PySem.W.isFn K (.ref f13) = true) (l13 : K.lookup f13 = some ⟨oc13, od13, .func (PySem.W.fnOf "by" "Field.by" (defArgs s_Field_by) (defBody s_Field_by) (defScope s_Field_by) .none kV13 dc13 pm13 an13 cd13 ct13), sl13⟩) (c13 : PySem.W.codeIn K cd13 "Field.by" = true) (k13 : PySem.W.keepIn K (.ref f13) = true)
    {f14 : Addr} {od14 an14 : Option Addr} {sl14 : Array (Option Value)} {oc14 kV14 dc14 pm14 cd14 ct14 : Value}
    (a14 : PySem.W.nsIn K mainGlobals "_law_only" = some (some (.ref f14))) (l14 : K.lookup f14 = some ⟨oc14, od14, .func (PySem.W.fnOf "_law_only" "_law_only" (defArgs s_law_only) (defBody s_law_only) (defScope s_law_only) .none kV14 dc14 pm14 an14 cd14 ct14), sl14⟩) (c14 : PySem.W.codeIn K cd14 "_law_only" = true) (k14 : PySem.W.keepIn K (.ref f14) = true)
    {f15 : Addr} {od15 an15 : Option Addr} {sl15 : Array (Option Value)} {oc15 kV15 dc15 pm15 cd15 ct15 : Value}
    (a15 : PySem.W.nsIn K mainGlobals "_law_pair" = some (some (.ref f15))) (l15 : K.lookup f15 = some ⟨oc15, od15, .func (PySem.W.fnOf "_law_pair" "_law_pair" (defArgs s_law_pair) (defBody s_law_pair) (defScope s_law_pair) .none kV15 dc15 pm15 an15 cd15 ct15), sl15⟩) (c15 : PySem.W.codeIn K cd15 "_law_pair" = true) (k15 : PySem.W.keepIn K (.ref f15) = true)
    {f16 : Addr} {od16 an16 : Option Addr} {sl16 : Array (Option Value)} {oc16 kV16 dc16 pm16 cd16 ct16 : Value}
    (a16 : PySem.W.nsIn K mainGlobals "_law_walk" = some (some (.ref f16))) (l16 : K.lookup f16 = some ⟨oc16, od16, .func (PySem.W.fnOf "_law_walk" "_law_walk" (defArgs s_law_walk) (defBody s_law_walk) (defScope s_law_walk) .none kV16 dc16 pm16 an16 cd16 ct16), sl16⟩) (c16 : PySem.W.codeIn K cd16 "_law_walk" = true) (k16 : PySem.W.keepIn K (.ref f16) = true)
    {f17 : Addr} {od17 an17 : Option Addr} {sl17 : Array (Option Value)} {oc17 kV17 dc17 pm17 cd17 ct17 : Value}
    (a17 : PySem.W.nsIn K mainGlobals "is_power_within" = some (some (.ref f17))) (l17 : K.lookup f17 = some ⟨oc17, od17, .func (PySem.W.fnOf "is_power_within" "is_power_within" (defArgs s_is_power_within) (defBody s_is_power_within) (defScope s_is_power_within) .none kV17 dc17 pm17 an17 cd17 ct17), sl17⟩) (c17 : PySem.W.codeIn K cd17 "is_power_within" = true) (k17 : PySem.W.keepIn K (.ref f17) = true)
    {f18 : Addr} {od18 an18 : Option Addr} {sl18 : Array (Option Value)} {oc18 kV18 dc18 pm18 cd18 ct18 : Value}
    (a18 : PySem.W.nsIn K mainGlobals "least_whole" = some (some (.ref f18))) (l18 : K.lookup f18 = some ⟨oc18, od18, .func (PySem.W.fnOf "least_whole" "least_whole" (defArgs s_least_whole) (defBody s_least_whole) (defScope s_least_whole) .none kV18 dc18 pm18 an18 cd18 ct18), sl18⟩) (c18 : PySem.W.codeIn K cd18 "least_whole" = true) (k18 : PySem.W.keepIn K (.ref f18) = true)
    {f19 : Addr} {od19 an19 : Option Addr} {sl19 : Array (Option Value)} {oc19 kV19 dc19 pm19 cd19 ct19 : Value}
    (a19 : PySem.W.findIn K (.ref C_Field) "power" = some (some (.ref f19))) (i19 : PySem.W.isFn K (.ref f19) = true) (l19 : K.lookup f19 = some ⟨oc19, od19, .func (PySem.W.fnOf "power" "Field.power" (defArgs s_Field_power) (defBody s_Field_power) (defScope s_Field_power) .none kV19 dc19 pm19 an19 cd19 ct19), sl19⟩) (c19 : PySem.W.codeIn K cd19 "Field.power" = true) (k19 : PySem.W.keepIn K (.ref f19) = true)
    {f20 : Addr} {od20 an20 : Option Addr} {sl20 : Array (Option Value)} {oc20 kV20 dc20 pm20 cd20 ct20 : Value}
    (a20 : PySem.W.nsIn K mainGlobals "_law_first" = some (some (.ref f20))) (l20 : K.lookup f20 = some ⟨oc20, od20, .func (PySem.W.fnOf "_law_first" "_law_first" (defArgs s_law_first) (defBody s_law_first) (defScope s_law_first) .none kV20 dc20 pm20 an20 cd20 ct20), sl20⟩) (c20 : PySem.W.codeIn K cd20 "_law_first" = true) (k20 : PySem.W.keepIn K (.ref f20) = true)
    {f21 : Addr} {od21 an21 : Option Addr} {sl21 : Array (Option Value)} {oc21 kV21 dc21 pm21 cd21 ct21 : Value}
    (a21 : PySem.W.findIn K (.ref C_Field) "__init__" = some (some (.ref f21))) (i21 : PySem.W.isFn K (.ref f21) = true) (l21 : K.lookup f21 = some ⟨oc21, od21, .func (PySem.W.fnOf "__init__" "Field.__init__" (defArgs s_Field_init) (defBody s_Field_init) (defScope s_Field_init) .none kV21 dc21 pm21 an21 cd21 ct21), sl21⟩) (c21 : PySem.W.codeIn K cd21 "Field.__init__" = true) (k21 : PySem.W.keepIn K (.ref f21) = true)
    {f22 : Addr} {od22 an22 : Option Addr} {sl22 : Array (Option Value)} {oc22 kV22 dc22 pm22 cd22 ct22 : Value}
    (a22 : PySem.W.findIn K (.ref C_Field) "is_first" = some (some (.ref f22))) (i22 : PySem.W.isFn K (.ref f22) = true) (l22 : K.lookup f22 = some ⟨oc22, od22, .func (PySem.W.fnOf "is_first" "Field.is_first" (defArgs s_Field_is_first) (defBody s_Field_is_first) (defScope s_Field_is_first) .none kV22 dc22 pm22 an22 cd22 ct22), sl22⟩) (c22 : PySem.W.codeIn K cd22 "Field.is_first" = true) (k22 : PySem.W.keepIn K (.ref f22) = true)
    {f23 : Addr} {od23 an23 : Option Addr} {sl23 : Array (Option Value)} {oc23 kV23 dc23 pm23 cd23 ct23 : Value}
    (a23 : PySem.W.findIn K (.ref C_Field) "first" = some (some (.ref f23))) (i23 : PySem.W.isFn K (.ref f23) = true) (l23 : K.lookup f23 = some ⟨oc23, od23, .func (PySem.W.fnOf "first" "Field.first" (defArgs s_Field_first) (defBody s_Field_first) (defScope s_Field_first) .none kV23 dc23 pm23 an23 cd23 ct23), sl23⟩) (c23 : PySem.W.codeIn K cd23 "Field.first" = true) (k23 : PySem.W.keepIn K (.ref f23) = true)
    {f24 : Addr} {od24 an24 : Option Addr} {sl24 : Array (Option Value)} {oc24 kV24 dc24 pm24 cd24 ct24 : Value}
    (a24 : PySem.W.findIn K (.ref C_Field) "log" = some (some (.ref f24))) (i24 : PySem.W.isFn K (.ref f24) = true) (l24 : K.lookup f24 = some ⟨oc24, od24, .func (PySem.W.fnOf "log" "Field.log" (defArgs s_Field_log) (defBody s_Field_log) (defScope s_Field_log) .none kV24 dc24 pm24 an24 cd24 ct24), sl24⟩) (c24 : PySem.W.codeIn K cd24 "Field.log" = true) (k24 : PySem.W.keepIn K (.ref f24) = true)
    {f25 : Addr} {od25 an25 : Option Addr} {sl25 : Array (Option Value)} {oc25 kV25 dc25 pm25 cd25 ct25 : Value}
    (a25 : PySem.W.nsIn K mainGlobals "_law_refused" = some (some (.ref f25))) (l25 : K.lookup f25 = some ⟨oc25, od25, .func (PySem.W.fnOf "_law_refused" "_law_refused" (defArgs s_law_refused) (defBody s_law_refused) (defScope s_law_refused) .none kV25 dc25 pm25 an25 cd25 ct25), sl25⟩) (c25 : PySem.W.codeIn K cd25 "_law_refused" = true) (k25 : PySem.W.keepIn K (.ref f25) = true)
    {f26 : Addr} {od26 an26 : Option Addr} {sl26 : Array (Option Value)} {oc26 kV26 dc26 pm26 cd26 ct26 : Value}
    (a26 : PySem.W.nsIn K mainGlobals "_law_great_right" = some (some (.ref f26))) (l26 : K.lookup f26 = some ⟨oc26, od26, .func (PySem.W.fnOf "_law_great_right" "_law_great_right" (defArgs s_law_great_right) (defBody s_law_great_right) (defScope s_law_great_right) .none kV26 dc26 pm26 an26 cd26 ct26), sl26⟩) (c26 : PySem.W.codeIn K cd26 "_law_great_right" = true) (k26 : PySem.W.keepIn K (.ref f26) = true)
    {f27 : Addr} {od27 an27 : Option Addr} {sl27 : Array (Option Value)} {oc27 kV27 dc27 pm27 cd27 ct27 : Value}
    (a27 : PySem.W.nsIn K mainGlobals "law" = some (some (.ref f27))) (l27 : K.lookup f27 = some ⟨oc27, od27, .func (PySem.W.fnOf "law" "law" (defArgs s_law) (defBody s_law) (defScope s_law) .none kV27 dc27 pm27 an27 cd27 ct27), sl27⟩) (c27 : PySem.W.codeIn K cd27 "law" = true) (k27 : PySem.W.keepIn K (.ref f27) = true)
    (z_ValueError : PySem.W.nsIn K mainGlobals "ValueError" = some none)
    (z_all : PySem.W.nsIn K mainGlobals "all" = some none)
    (z_any : PySem.W.nsIn K mainGlobals "any" = some none)
    (z_divmod : PySem.W.nsIn K mainGlobals "divmod" = some none)
    (z_enumerate : PySem.W.nsIn K mainGlobals "enumerate" = some none)
    (z_int : PySem.W.nsIn K mainGlobals "int" = some none)
    (z_isinstance : PySem.W.nsIn K mainGlobals "isinstance" = some none)
    (z_len : PySem.W.nsIn K mainGlobals "len" = some none)
    (z_list : PySem.W.nsIn K mainGlobals "list" = some none)
    (z_max : PySem.W.nsIn K mainGlobals "max" = some none)
    (z_min : PySem.W.nsIn K mainGlobals "min" = some none)
    (z_range : PySem.W.nsIn K mainGlobals "range" = some none)
    (z_repr : PySem.W.nsIn K mainGlobals "repr" = some none)
    (z_tuple : PySem.W.nsIn K mainGlobals "tuple" = some none)
    (z_zip : PySem.W.nsIn K mainGlobals "zip" = some none)
    {t_MOST_MEMBERS : Tok} (z_MOST_MEMBERS : PySem.W.nsIn K mainGlobals "MOST_MEMBERS" = some (some (.int 2200 t_MOST_MEMBERS)))
    {t_MOST_PLACES : Tok} (z_MOST_PLACES : PySem.W.nsIn K mainGlobals "MOST_PLACES" = some (some (.int 11 t_MOST_PLACES)))
    {C_EvenError : Addr} (zx_EvenError : PySem.W.nsIn K mainGlobals (Str.ofString "EvenError") = some (some (.ref C_EvenError)))
    {C_NoField : Addr} (zx_NoField : PySem.W.nsIn K mainGlobals (Str.ofString "NoField") = some (some (.ref C_NoField)))
    {C_NoLine : Addr} (zx_NoLine : PySem.W.nsIn K mainGlobals (Str.ofString "NoLine") = some (some (.ref C_NoLine)))
    {C_NoMember : Addr} (zx_NoMember : PySem.W.nsIn K mainGlobals (Str.ofString "NoMember") = some (some (.ref C_NoMember)))
    {C_NoName : Addr} (zx_NoName : PySem.W.nsIn K mainGlobals (Str.ofString "NoName") = some (some (.ref C_NoName)))
    {C_NoNumber : Addr} (zx_NoNumber : PySem.W.nsIn K mainGlobals (Str.ofString "NoNumber") = some (some (.ref C_NoNumber)))
    {C_NoRings : Addr} (zx_NoRings : PySem.W.nsIn K mainGlobals (Str.ofString "NoRings") = some (some (.ref C_NoRings)))
    {C_NoRow : Addr} (zx_NoRow : PySem.W.nsIn K mainGlobals (Str.ofString "NoRow") = some (some (.ref C_NoRow)))
    {C_NoSpot : Addr} (zx_NoSpot : PySem.W.nsIn K mainGlobals (Str.ofString "NoSpot") = some (some (.ref C_NoSpot)))
    {C_NoText : Addr} (zx_NoText : PySem.W.nsIn K mainGlobals (Str.ofString "NoText") = some (some (.ref C_NoText)))
    {C_NoTurn : Addr} (zx_NoTurn : PySem.W.nsIn K mainGlobals (Str.ofString "NoTurn") = some (some (.ref C_NoTurn)))
    {C_NoWay : Addr} (zx_NoWay : PySem.W.nsIn K mainGlobals (Str.ofString "NoWay") = some (some (.ref C_NoWay)))
    {C_TooMany : Addr} (zx_TooMany : PySem.W.nsIn K mainGlobals (Str.ofString "TooMany") = some (some (.ref C_TooMany)))
    (rx_NoMember : PySem.W.excIn K C_NoMember [.type "ValueError", .type "Exception", .type "BaseException", .type "object"] "ValueError.__new__" = true) (rk_NoMember : PySem.W.keepIn K (.ref C_NoMember) = true) (rs_NoMember : PySem.W.subIn K (.ref C_NoMember) (.type "BaseException") = some true) (rt_NoMember : PySem.W.typeIn K (.ref C_NoMember) = some (.type "type"))
    (tb_EvenError : PySem.W.subIn K (.ref C_EvenError) (.type "BaseException") = some true) (td_EvenError : PySem.W.hasDictIn K C_EvenError = true) (tt_EvenError : PySem.W.typeIn K (.ref C_EvenError) = some (.type "type"))
    (te_EvenError_NoMember : PySem.W.subIn K (.ref C_NoMember) (.ref C_EvenError) = some true)
    (xa_NoMember : PySem.W.findIn K (.ref C_NoMember) "__getattribute__" = some (some (.builtin "BaseException.__getattribute__"))) (xb_NoMember : PySem.W.findIn K (.ref C_NoMember) "__getattr__" = some none) (xc_NoMember : PySem.W.subIn K (.ref C_NoMember) (.type "BaseException") = some true) (xd_NoMember : PySem.W.hasDictIn K C_NoMember = true)
    (xe_NoMember : PySem.W.findIn K (.ref C_NoMember) "__class__" = some (some (.builtin "object.__class__"))) (xf_NoMember : PySem.W.specialIn K (.builtin "object.__class__") "__get__" = some (some (.builtin "getset_descriptor.__get__"))) (xg_NoMember : PySem.W.takesIn K (.builtin "object.__class__") = some true) (xh_NoMember : PySem.W.mroIn K C_NoMember (.type "object") = some true)
    (xv_NoMember : PySem.W.subIn K (.ref C_NoMember) (.type "ValueError") = some true) (xw_NoMember : PySem.W.subIn K (.ref C_NoMember) (.ref C_NoMember) = some true)
    (xk_NoMember_NoField : PySem.W.subIn K (.ref C_NoMember) (.ref C_NoField) = some false)
    (xk_NoMember_NoLine : PySem.W.subIn K (.ref C_NoMember) (.ref C_NoLine) = some false)
    (xk_NoMember_NoMember : PySem.W.subIn K (.ref C_NoMember) (.ref C_NoMember) = some true)
    (xk_NoMember_NoName : PySem.W.subIn K (.ref C_NoMember) (.ref C_NoName) = some false)
    (xk_NoMember_NoNumber : PySem.W.subIn K (.ref C_NoMember) (.ref C_NoNumber) = some false)
    (xk_NoMember_NoRings : PySem.W.subIn K (.ref C_NoMember) (.ref C_NoRings) = some false)
    (xk_NoMember_NoRow : PySem.W.subIn K (.ref C_NoMember) (.ref C_NoRow) = some false)
    (xk_NoMember_NoSpot : PySem.W.subIn K (.ref C_NoMember) (.ref C_NoSpot) = some false)
    (xk_NoMember_NoText : PySem.W.subIn K (.ref C_NoMember) (.ref C_NoText) = some false)
    (xk_NoMember_NoTurn : PySem.W.subIn K (.ref C_NoMember) (.ref C_NoTurn) = some false)
    (xk_NoMember_NoWay : PySem.W.subIn K (.ref C_NoMember) (.ref C_NoWay) = some false)
    (xk_NoMember_TooMany : PySem.W.subIn K (.ref C_NoMember) (.ref C_TooMany) = some false)
    (xi_NoField : PySem.W.hasDictIn K C_NoField = true) (xj_NoField : PySem.W.typeIn K (.ref C_NoField) = some (.type "type"))
    (xi_NoLine : PySem.W.hasDictIn K C_NoLine = true) (xj_NoLine : PySem.W.typeIn K (.ref C_NoLine) = some (.type "type"))
    (xi_NoMember : PySem.W.hasDictIn K C_NoMember = true) (xj_NoMember : PySem.W.typeIn K (.ref C_NoMember) = some (.type "type"))
    (xi_NoName : PySem.W.hasDictIn K C_NoName = true) (xj_NoName : PySem.W.typeIn K (.ref C_NoName) = some (.type "type"))
    (xi_NoNumber : PySem.W.hasDictIn K C_NoNumber = true) (xj_NoNumber : PySem.W.typeIn K (.ref C_NoNumber) = some (.type "type"))
    (xi_NoRings : PySem.W.hasDictIn K C_NoRings = true) (xj_NoRings : PySem.W.typeIn K (.ref C_NoRings) = some (.type "type"))
    (xi_NoRow : PySem.W.hasDictIn K C_NoRow = true) (xj_NoRow : PySem.W.typeIn K (.ref C_NoRow) = some (.type "type"))
    (xi_NoSpot : PySem.W.hasDictIn K C_NoSpot = true) (xj_NoSpot : PySem.W.typeIn K (.ref C_NoSpot) = some (.type "type"))
    (xi_NoText : PySem.W.hasDictIn K C_NoText = true) (xj_NoText : PySem.W.typeIn K (.ref C_NoText) = some (.type "type"))
    (xi_NoTurn : PySem.W.hasDictIn K C_NoTurn = true) (xj_NoTurn : PySem.W.typeIn K (.ref C_NoTurn) = some (.type "type"))
    (xi_NoWay : PySem.W.hasDictIn K C_NoWay = true) (xj_NoWay : PySem.W.typeIn K (.ref C_NoWay) = some (.type "type"))
    (xi_TooMany : PySem.W.hasDictIn K C_TooMany = true) (xj_TooMany : PySem.W.typeIn K (.ref C_TooMany) = some (.type "type")) :
    ∃ fd : FuncData, (∀ (s : Shared) (v : Value), BindsTo s fd ⟨[v], []⟩ [("_law_script", v)]) ∧ ∀ base : Heap, K.In base → base.Ns mainGlobals mg → FnG l.prog w K mg base (L2N.CX l.prog w) 8 fa fd ["_law_script"] (toSp K 1 spLaw) := by
  have e := hfa.symm.trans (PySem.W.mg_of X G a27)
  cases e
  have TF_EvenError : TryF K mg ["NoMember"] "EvenError" := ⟨_, PySem.W.mg_of X G zx_EvenError, fun n hn C hC => by
    simp only [List.contains_cons, List.contains_nil, Bool.or_false, Bool.or_eq_true, beq_iff_eq] at hn; rcases hn with rfl
    · cases hC.eq zx_NoMember; exact exm_ref' tb_EvenError td_EvenError tt_EvenError te_EvenError_NoMember⟩
  have XT : XTab K ["NoMember"] ["NoField", "NoLine", "NoMember", "NoName", "NoNumber", "NoRings", "NoRow", "NoSpot", "NoText", "NoTurn", "NoWay", "TooMany"] := ⟨fun n hn => by
    simp only [List.contains_cons, List.contains_nil, Bool.or_false, Bool.or_eq_true, beq_iff_eq] at hn; rcases hn with rfl
    · refine ⟨_, zx_NoMember, ⟨xa_NoMember, xb_NoMember, xc_NoMember, xd_NoMember, xe_NoMember, xf_NoMember, xg_NoMember, xh_NoMember⟩, kit_val xv_NoMember, fun m hm => ?_⟩
      simp only [List.contains_cons, List.contains_nil, Bool.or_false, Bool.or_eq_true, beq_iff_eq] at hm; rcases hm with rfl | rfl | rfl | rfl | rfl | rfl | rfl | rfl | rfl | rfl | rfl | rfl
      · exact ⟨_, zx_NoField, kit_ref xk_NoMember_NoField xw_NoMember xi_NoField xj_NoField⟩
      · exact ⟨_, zx_NoLine, kit_ref xk_NoMember_NoLine xw_NoMember xi_NoLine xj_NoLine⟩
      · exact ⟨_, zx_NoMember, kit_ref xk_NoMember_NoMember xw_NoMember xi_NoMember xj_NoMember⟩
      · exact ⟨_, zx_NoName, kit_ref xk_NoMember_NoName xw_NoMember xi_NoName xj_NoName⟩
      · exact ⟨_, zx_NoNumber, kit_ref xk_NoMember_NoNumber xw_NoMember xi_NoNumber xj_NoNumber⟩
      · exact ⟨_, zx_NoRings, kit_ref xk_NoMember_NoRings xw_NoMember xi_NoRings xj_NoRings⟩
      · exact ⟨_, zx_NoRow, kit_ref xk_NoMember_NoRow xw_NoMember xi_NoRow xj_NoRow⟩
      · exact ⟨_, zx_NoSpot, kit_ref xk_NoMember_NoSpot xw_NoMember xi_NoSpot xj_NoSpot⟩
      · exact ⟨_, zx_NoText, kit_ref xk_NoMember_NoText xw_NoMember xi_NoText xj_NoText⟩
      · exact ⟨_, zx_NoTurn, kit_ref xk_NoMember_NoTurn xw_NoMember xi_NoTurn xj_NoTurn⟩
      · exact ⟨_, zx_NoWay, kit_ref xk_NoMember_NoWay xw_NoMember xi_NoWay xj_NoWay⟩
      · exact ⟨_, zx_TooMany, kit_ref xk_NoMember_TooMany xw_NoMember xi_TooMany xj_TooMany⟩⟩
  have CC_Field : Cls K C_Field := ⟨y1_Field, y2_Field, y3_Field, y4_Field⟩
  have CT_Field : ClsT K mg "Field" := ⟨_, PySem.W.mg_of X G zx_Field, zx_Field, CC_Field, fun f hf => by
    simp only [clsFields, List.mem_cons, List.not_mem_nil, or_false] at hf
    rcases hf with rfl | rfl | rfl | rfl | rfl | rfl | rfl
    · exact yf_Field_p
    · exact yf_Field_m
    · exact yf_Field_shape
    · exact yf_Field_nought
    · exact yf_Field_one
    · exact yf_Field_kept_first
    · exact yf_Field_kept_logs⟩
  have T : Txt K mg := ⟨PySem.W.mg_none_of X G z_ValueError, PySem.W.mg_none_of X G z_all, PySem.W.mg_none_of X G z_any, PySem.W.mg_none_of X G z_divmod, PySem.W.mg_none_of X G z_enumerate, PySem.W.mg_none_of X G z_int, PySem.W.mg_none_of X G z_isinstance, PySem.W.mg_none_of X G z_len, PySem.W.mg_none_of X G z_list, PySem.W.mg_none_of X G z_max, PySem.W.mg_none_of X G z_min, PySem.W.mg_none_of X G z_range, PySem.W.mg_none_of X G z_repr, PySem.W.mg_none_of X G z_tuple, PySem.W.mg_none_of X G z_zip, ⟨_, PySem.W.mg_of X G z_MOST_MEMBERS⟩, ⟨_, PySem.W.mg_of X G z_MOST_PLACES⟩, ⟨_, PySem.W.mg_of X G zx_EvenError, zx_EvenError⟩, ⟨_, PySem.W.mg_of X G zx_NoField, zx_NoField⟩, ⟨_, PySem.W.mg_of X G zx_NoLine, zx_NoLine⟩, ⟨_, PySem.W.mg_of X G zx_NoMember, zx_NoMember⟩, ⟨_, PySem.W.mg_of X G zx_NoName, zx_NoName⟩, ⟨_, PySem.W.mg_of X G zx_NoNumber, zx_NoNumber⟩, ⟨_, PySem.W.mg_of X G zx_NoRings, zx_NoRings⟩, ⟨_, PySem.W.mg_of X G zx_NoRow, zx_NoRow⟩, ⟨_, PySem.W.mg_of X G zx_NoSpot, zx_NoSpot⟩, ⟨_, PySem.W.mg_of X G zx_NoText, zx_NoText⟩, ⟨_, PySem.W.mg_of X G zx_NoTurn, zx_NoTurn⟩, ⟨_, PySem.W.mg_of X G zx_NoWay, zx_NoWay⟩, ⟨_, PySem.W.mg_of X G zx_TooMany, zx_TooMany⟩, ⟨⟨_, PySem.W.mg_of X G zx_NoMember, zx_NoMember, rx_NoMember, rk_NoMember, rs_NoMember, rt_NoMember⟩⟩, TF_EvenError, XT, CT_Field⟩
  have F0 := fun_mk (st := s_primes_in) l0 c0 k0
  have d_primes_in : Def K mg "primes_in" s_primes_in p_primes_in := ⟨f0, _, F0, PySem.W.mg_of X G a0, F0.binds (ps := p_primes_in) fun _ _ _ _ _ _ us hl => match us, hl with | [_], _ => rfl⟩
  have F1 := fun_mk (st := s_to_the) l1 c1 k1
  have d_to_the : Def K mg "to_the" s_to_the p_to_the := ⟨f1, _, F1, PySem.W.mg_of X G a1, F1.binds (ps := p_to_the) fun _ _ _ _ _ _ us hl => match us, hl with | [_, _], _ => rfl⟩
  have F2 := fun_mk (st := s_rows_of_numbers) l2 c2 k2
  have d_rows_of_numbers : Def K mg "rows_of_numbers" s_rows_of_numbers p_rows_of_numbers := ⟨f2, _, F2, PySem.W.mg_of X G a2, F2.binds (ps := p_rows_of_numbers) fun _ _ _ _ _ _ us hl => match us, hl with | [_, _], _ => rfl⟩
  have F3 := fun_mk (st := s_rest_by) l3 c3 k3
  have d_rest_by : Def K mg "rest_by" s_rest_by p_rest_by := ⟨f3, _, F3, PySem.W.mg_of X G a3, F3.binds (ps := p_rest_by) fun _ _ _ _ _ _ us hl => match us, hl with | [_, _, _], _ => rfl⟩
  have F4 := fun_mk (st := s_Field_form) l4 c4 k4
  have d_Field_form : DefM K "Field" "form" "Field.form" s_Field_form p_Field_form := ⟨C_Field, f4, _, zx_Field, CC_Field, ⟨a4, i4, k4⟩, F4, F4.binds (ps := p_Field_form) fun _ _ _ _ _ _ us hl => match us, hl with | [_], _ => rfl⟩
  have F5 := fun_mk (st := s_law_hand) l5 c5 k5
  have d_law_hand : Def K mg "_law_hand" s_law_hand p_law_hand := ⟨f5, _, F5, PySem.W.mg_of X G a5, F5.binds (ps := p_law_hand) fun _ _ _ _ _ _ us hl => match us, hl with | [_, _], _ => rfl⟩
  have F6 := fun_mk (st := s_law_take) l6 c6 k6
  have d_law_take : Def K mg "_law_take" s_law_take p_law_take := ⟨f6, _, F6, PySem.W.mg_of X G a6, F6.binds (ps := p_law_take) fun _ _ _ _ _ _ us hl => match us, hl with | [_, _], _ => rfl⟩
  have F7 := fun_mk (st := s_law_size) l7 c7 k7
  have d_law_size : Def K mg "_law_size" s_law_size p_law_size := ⟨f7, _, F7, PySem.W.mg_of X G a7, F7.binds (ps := p_law_size) fun _ _ _ _ _ _ us hl => match us, hl with | [_, _], _ => rfl⟩
  have F8 := fun_mk (st := s_law_rows) l8 c8 k8
  have d_law_rows : Def K mg "_law_rows" s_law_rows p_law_rows := ⟨f8, _, F8, PySem.W.mg_of X G a8, F8.binds (ps := p_law_rows) fun _ _ _ _ _ _ us hl => match us, hl with | [_, _], _ => rfl⟩
  have F9 := fun_mk (st := s_law_by) l9 c9 k9
  have d_law_by : Def K mg "_law_by" s_law_by p_law_by := ⟨f9, _, F9, PySem.W.mg_of X G a9, F9.binds (ps := p_law_by) fun _ _ _ _ _ _ us hl => match us, hl with | [_, _, _, _], _ => rfl⟩
  have F10 := fun_mk (st := s_law_marks) l10 c10 k10
  have d_law_marks : Def K mg "_law_marks" s_law_marks p_law_marks := ⟨f10, _, F10, PySem.W.mg_of X G a10, F10.binds (ps := p_law_marks) fun _ _ _ _ _ _ us hl => match us, hl with | [_], _ => rfl⟩
  have F11 := fun_mk (st := s_is_prime) l11 c11 k11
  have d_is_prime : Def K mg "is_prime" s_is_prime p_is_prime := ⟨f11, _, F11, PySem.W.mg_of X G a11, F11.binds (ps := p_is_prime) fun _ _ _ _ _ _ us hl => match us, hl with | [_], _ => rfl⟩
  have F12 := fun_mk (st := s_is_product) l12 c12 k12
  have d_is_product : Def K mg "is_product" s_is_product p_is_product := ⟨f12, _, F12, PySem.W.mg_of X G a12, F12.binds (ps := p_is_product) fun _ _ _ _ _ _ us hl => match us, hl with | [_, _], _ => rfl⟩
  have F13 := fun_mk (st := s_Field_by) l13 c13 k13
  have d_Field_by : DefM K "Field" "by" "Field.by" s_Field_by p_Field_by := ⟨C_Field, f13, _, zx_Field, CC_Field, ⟨a13, i13, k13⟩, F13, F13.binds (ps := p_Field_by) fun _ _ _ _ _ _ us hl => match us, hl with | [_, _, _], _ => rfl⟩
  have F14 := fun_mk (st := s_law_only) l14 c14 k14
  have d_law_only : Def K mg "_law_only" s_law_only p_law_only := ⟨f14, _, F14, PySem.W.mg_of X G a14, F14.binds (ps := p_law_only) fun _ _ _ _ _ _ us hl => match us, hl with | [_, _], _ => rfl⟩
  have F15 := fun_mk (st := s_law_pair) l15 c15 k15
  have d_law_pair : Def K mg "_law_pair" s_law_pair p_law_pair := ⟨f15, _, F15, PySem.W.mg_of X G a15, F15.binds (ps := p_law_pair) fun _ _ _ _ _ _ us hl => match us, hl with | [_], _ => rfl⟩
  have F16 := fun_mk (st := s_law_walk) l16 c16 k16
  have d_law_walk : Def K mg "_law_walk" s_law_walk p_law_walk := ⟨f16, _, F16, PySem.W.mg_of X G a16, F16.binds (ps := p_law_walk) fun _ _ _ _ _ _ us hl => match us, hl with | [_, _, _], _ => rfl⟩
  have F17 := fun_mk (st := s_is_power_within) l17 c17 k17
  have d_is_power_within : Def K mg "is_power_within" s_is_power_within p_is_power_within := ⟨f17, _, F17, PySem.W.mg_of X G a17, F17.binds (ps := p_is_power_within) fun _ _ _ _ _ _ us hl => match us, hl with | [_, _, _], _ => rfl⟩
  have F18 := fun_mk (st := s_least_whole) l18 c18 k18
  have d_least_whole : Def K mg "least_whole" s_least_whole p_least_whole := ⟨f18, _, F18, PySem.W.mg_of X G a18, F18.binds (ps := p_least_whole) fun _ _ _ _ _ _ us hl => match us, hl with | [_, _], _ => rfl⟩
  have F19 := fun_mk (st := s_Field_power) l19 c19 k19
  have d_Field_power : DefM K "Field" "power" "Field.power" s_Field_power p_Field_power := ⟨C_Field, f19, _, zx_Field, CC_Field, ⟨a19, i19, k19⟩, F19, F19.binds (ps := p_Field_power) fun _ _ _ _ _ _ us hl => match us, hl with | [_, _, _], _ => rfl⟩
  have F20 := fun_mk (st := s_law_first) l20 c20 k20
  have d_law_first : Def K mg "_law_first" s_law_first p_law_first := ⟨f20, _, F20, PySem.W.mg_of X G a20, F20.binds (ps := p_law_first) fun _ _ _ _ _ _ us hl => match us, hl with | [_, _], _ => rfl⟩
  have F21 := fun_mk (st := s_Field_init) l21 c21 k21
  have d_Field_init : DefI K mg "Field" "Field.__init__" s_Field_init p_Field_init := ⟨C_Field, f21, _, PySem.W.mg_of X G zx_Field, zx_Field, ⟨y5_Field, a21, i21, y6_Field⟩, F21, F21.binds (ps := p_Field_init) fun _ _ _ _ _ _ us hl => match us, hl with | [_, _, _], _ => rfl⟩
  have F22 := fun_mk (st := s_Field_is_first) l22 c22 k22
  have d_Field_is_first : DefM K "Field" "is_first" "Field.is_first" s_Field_is_first p_Field_is_first := ⟨C_Field, f22, _, zx_Field, CC_Field, ⟨a22, i22, k22⟩, F22, F22.binds (ps := p_Field_is_first) fun _ _ _ _ _ _ us hl => match us, hl with | [_, _, _], _ => rfl⟩
  have F23 := fun_mk (st := s_Field_first) l23 c23 k23
  have d_Field_first : DefM K "Field" "first" "Field.first" s_Field_first p_Field_first := ⟨C_Field, f23, _, zx_Field, CC_Field, ⟨a23, i23, k23⟩, F23, F23.binds (ps := p_Field_first) fun _ _ _ _ _ _ us hl => match us, hl with | [_], _ => rfl⟩
  have F24 := fun_mk (st := s_Field_log) l24 c24 k24
  have d_Field_log : DefM K "Field" "log" "Field.log" s_Field_log p_Field_log := ⟨C_Field, f24, _, zx_Field, CC_Field, ⟨a24, i24, k24⟩, F24, F24.binds (ps := p_Field_log) fun _ _ _ _ _ _ us hl => match us, hl with | [_, _], _ => rfl⟩
  have F25 := fun_mk (st := s_law_refused) l25 c25 k25
  have d_law_refused : Def K mg "_law_refused" s_law_refused p_law_refused := ⟨f25, _, F25, PySem.W.mg_of X G a25, F25.binds (ps := p_law_refused) fun _ _ _ _ _ _ us hl => match us, hl with | [_, _], _ => rfl⟩
  have F26 := fun_mk (st := s_law_great_right) l26 c26 k26
  have d_law_great_right : Def K mg "_law_great_right" s_law_great_right p_law_great_right := ⟨f26, _, F26, PySem.W.mg_of X G a26, F26.binds (ps := p_law_great_right) fun _ _ _ _ _ _ us hl => match us, hl with | [_], _ => rfl⟩
  have F27 := fun_mk (st := s_law) l27 c27 k27
  refine ⟨PySem.W.fnOf "law" "law" (defArgs s_law) (defBody s_law) (defScope s_law) .none kV27 dc27 pm27 an27 cd27 ct27, fun s v => BindsTo.of_eq rfl, fun base _ _ => ?_⟩
  have c_primes_in : CalG l.prog w K mg base 1 "primes_in" 1 sp_primes_in := cal_primes_in T d_primes_in 
  have c_to_the : CalG l.prog w K mg base 1 "to_the" 2 sp_to_the := cal_to_the T d_to_the 
  have c_rows_of_numbers : CalG l.prog w K mg base 1 "rows_of_numbers" 2 sp_rows_of_numbers := cal_rows_of_numbers T d_rows_of_numbers 
  have c_rest_by : CalG l.prog w K mg base 1 "rest_by" 3 sp_rest_by := cal_rest_by T d_rest_by 
  have c_Field_form : CalM l.prog w K mg base 1 "Field" "form" 1 sp_Field_form := cal_Field_form T d_Field_form 
  have c_law_hand : CalG l.prog w K mg base 1 "_law_hand" 2 sp_law_hand := cal_law_hand T d_law_hand 
  have c_law_take : CalG l.prog w K mg base 1 "_law_take" 2 sp_law_take := cal_law_take T d_law_take 
  have c_law_size : CalG l.prog w K mg base 1 "_law_size" 2 sp_law_size := cal_law_size T d_law_size 
  have c_law_rows : CalG l.prog w K mg base 1 "_law_rows" 2 sp_law_rows := cal_law_rows T d_law_rows 
  have c_law_by : CalG l.prog w K mg base 1 "_law_by" 4 sp_law_by := cal_law_by T d_law_by 
  have c_law_marks : CalG l.prog w K mg base 1 "_law_marks" 1 sp_law_marks := cal_law_marks T d_law_marks 
  have c_is_prime : CalG l.prog w K mg base 2 "is_prime" 1 sp_is_prime := cal_is_prime T d_is_prime c_primes_in
  have c_is_product : CalG l.prog w K mg base 2 "is_product" 2 sp_is_product := cal_is_product T d_is_product c_rows_of_numbers c_rest_by
  have c_Field_by : CalM l.prog w K mg base 2 "Field" "by" 3 sp_Field_by := cal_Field_by T d_Field_by c_rest_by
  have c_law_only : CalG l.prog w K mg base 2 "_law_only" 2 sp_law_only := cal_law_only T d_law_only c_law_marks
  have c_law_pair : CalG l.prog w K mg base 2 "_law_pair" 1 sp_law_pair := cal_law_pair T d_law_pair c_law_take
  have c_law_walk : CalG l.prog w K mg base 2 "_law_walk" 3 sp_law_walk := cal_law_walk T d_law_walk c_law_size c_law_by
  have c_is_power_within : CalG l.prog w K mg base 3 "is_power_within" 3 sp_is_power_within := cal_is_power_within T d_is_power_within c_to_the c_is_prime
  have c_least_whole : CalG l.prog w K mg base 3 "least_whole" 2 sp_least_whole := cal_least_whole T d_least_whole c_rows_of_numbers c_is_product
  have c_Field_power : CalM l.prog w K mg base 3 "Field" "power" 3 sp_Field_power := cal_Field_power T d_Field_power c_Field_by
  have c_law_first : CalG l.prog w K mg base 3 "_law_first" 2 sp_law_first := cal_law_first T d_law_first c_law_size c_law_rows c_law_walk
  have c_Field_init : CalI l.prog w K mg base 4 "Field" 3 sp_Field_init := cal_Field_init T d_Field_init c_is_power_within c_least_whole
  have c_Field_is_first : CalM l.prog w K mg base 4 "Field" "is_first" 3 sp_Field_is_first := cal_Field_is_first T d_Field_is_first c_to_the c_Field_power
  have c_Field_first : CalM l.prog w K mg base 5 "Field" "first" 1 sp_Field_first := cal_Field_first T d_Field_first c_to_the c_primes_in c_rows_of_numbers c_Field_is_first
  have c_Field_log : CalM l.prog w K mg base 6 "Field" "log" 2 sp_Field_log := cal_Field_log T d_Field_log c_to_the c_Field_first c_Field_by
  have c_law_refused : CalG l.prog w K mg base 7 "_law_refused" 2 sp_law_refused := cal_law_refused T d_law_refused c_Field_log c_law_only
  have c_law_great_right : CalG l.prog w K mg base 7 "_law_great_right" 1 sp_law_great_right := cal_law_great_right T d_law_great_right c_law_take c_Field_init c_law_size c_Field_first c_Field_power c_Field_log
  exact fnG F27 sc_law hl_law (fun B cdv A outer s H E hr => tr_law T c_law_hand c_law_great_right c_law_pair c_Field_init c_law_take c_Field_form c_law_first c_Field_log c_Field_first c_law_refused _ B cdv A outer s H E hr) ok_law
end TL
open PySem PySem.W PyProof.Rows
set_option maxHeartbeats 0 in
theorem PySem.Challenge.cw_evendiffs_k18_firsts_and_logs_holds : PySem.Challenge.rw_evendiffs_k18_firsts_and_logs.Holds := by
  w_on; o_law; k_head; (case hw => w_witness2)
  k_fill
  refine TL.walk_ofG (l := PySem.Challenge.rw_evendiffs_k18_firsts_and_logs) (n := 63) (k := 8) (x := "_law_script") (CX := fun w => L2N.CX PySem.Challenge.rw_evendiffs_k18_firsts_and_logs.prog w) (sp := fun w => TL.toSp _ 1 TL.spLaw) rfl (by decide) rfl ⟨⟨rfl, by decide, by decide⟩, rfl⟩ (fun w h Y => PySem.W.kIn_of Y) ?F (fun _ _ a ns hl hS => TL.law_sp hl hS) (fun _ _ _ _ _ h => TL.law_cx h)
  case F =>
    intro w mg fa h KX G hmg
    refine' TL.all_mk KX G hmg ?zx_Field ?y1_Field ?y2_Field ?y3_Field ?y4_Field ?y5_Field ?y6_Field ?yf_Field_p ?yf_Field_m ?yf_Field_shape ?yf_Field_nought ?yf_Field_one ?yf_Field_kept_first ?yf_Field_kept_logs ?a0 ?l0 ?c0 ?k0 ?a1 ?l1 ?c1 ?k1 ?a2 ?l2 ?c2 ?k2 ?a3 ?l3 ?c3 ?k3 ?a4 ?i4 ?l4 ?c4 ?k4 ?a5 ?l5 ?c5 ?k5 ?a6 ?l6 ?c6 ?k6 ?a7 ?l7 ?c7 ?k7 ?a8 ?l8 ?c8 ?k8 ?a9 ?l9 ?c9 ?k9 ?a10 ?l10 ?c10 ?k10 ?a11 ?l11 ?c11 ?k11 ?a12 ?l12 ?c12 ?k12 ?a13 ?i13 ?l13 ?c13 ?k13 ?a14 ?l14 ?c14 ?k14 ?a15 ?l15 ?c15 ?k15 ?a16 ?l16 ?c16 ?k16 ?a17 ?l17 ?c17 ?k17 ?a18 ?l18 ?c18 ?k18 ?a19 ?i19 ?l19 ?c19 ?k19 ?a20 ?l20 ?c20 ?k20 ?a21 ?i21 ?l21 ?c21 ?k21 ?a22 ?i22 ?l22 ?c22 ?k22 ?a23 ?i23 ?l23 ?c23 ?k23 ?a24 ?i24 ?l24 ?c24 ?k24 ?a25 ?l25 ?c25 ?k25 ?a26 ?l26 ?c26 ?k26 ?a27 ?l27 ?c27 ?k27 ?z_ValueError ?z_all ?z_any ?z_divmod ?z_enumerate ?z_int ?z_isinstance ?z_len ?z_list ?z_max ?z_min ?z_range ?z_repr ?z_tuple ?z_zip ?z_MOST_MEMBERS ?z_MOST_PLACES ?zx_EvenError ?zx_NoField ?zx_NoLine ?zx_NoMember ?zx_NoName ?zx_NoNumber ?zx_NoRings ?zx_NoRow ?zx_NoSpot ?zx_NoText ?zx_NoTurn ?zx_NoWay ?zx_TooMany ?rx_NoMember ?rk_NoMember ?rs_NoMember ?rt_NoMember ?tb_EvenError ?td_EvenError ?tt_EvenError ?te_EvenError_NoMember ?xa_NoMember ?xb_NoMember ?xc_NoMember ?xd_NoMember ?xe_NoMember ?xf_NoMember ?xg_NoMember ?xh_NoMember ?xv_NoMember ?xw_NoMember ?xk_NoMember_NoField ?xk_NoMember_NoLine ?xk_NoMember_NoMember ?xk_NoMember_NoName ?xk_NoMember_NoNumber ?xk_NoMember_NoRings ?xk_NoMember_NoRow ?xk_NoMember_NoSpot ?xk_NoMember_NoText ?xk_NoMember_NoTurn ?xk_NoMember_NoWay ?xk_NoMember_TooMany ?xi_NoField ?xj_NoField ?xi_NoLine ?xj_NoLine ?xi_NoMember ?xj_NoMember ?xi_NoName ?xj_NoName ?xi_NoNumber ?xj_NoNumber ?xi_NoRings ?xj_NoRings ?xi_NoRow ?xj_NoRow ?xi_NoSpot ?xj_NoSpot ?xi_NoText ?xj_NoText ?xi_NoTurn ?xj_NoTurn ?xi_NoWay ?xj_NoWay ?xi_TooMany ?xj_TooMany
    (case zx_Field => k_is)
    (case y1_Field => k_is)
    (case y2_Field => k_is)
    (case y3_Field => k_is)
    (case y4_Field => k_is)
    (case y5_Field => k_is)
    (case y6_Field => k_is)
    (case yf_Field_p => k_is)
    (case yf_Field_m => k_is)
    (case yf_Field_shape => k_is)
    (case yf_Field_nought => k_is)
    (case yf_Field_one => k_is)
    (case yf_Field_kept_first => k_is)
    (case yf_Field_kept_logs => k_is)
    (case a0 => k_is)
    (case l0 => k_is)
    (case c0 => k_is)
    (case k0 => k_is)
    (case a1 => k_is)
    (case l1 => k_is)
    (case c1 => k_is)
    (case k1 => k_is)
    (case a2 => k_is)
    (case l2 => k_is)
    (case c2 => k_is)
    (case k2 => k_is)
    (case a3 => k_is)
    (case l3 => k_is)
    (case c3 => k_is)
    (case k3 => k_is)
    (case a4 => k_is)
    (case i4 => k_is)
    (case l4 => k_is)
    (case c4 => k_is)
    (case k4 => k_is)
    (case a5 => k_is)
    (case l5 => k_is)
    (case c5 => k_is)
    (case k5 => k_is)
    (case a6 => k_is)
    (case l6 => k_is)
    (case c6 => k_is)
    (case k6 => k_is)
    (case a7 => k_is)
    (case l7 => k_is)
    (case c7 => k_is)
    (case k7 => k_is)
    (case a8 => k_is)
    (case l8 => k_is)
    (case c8 => k_is)
    (case k8 => k_is)
    (case a9 => k_is)
    (case l9 => k_is)
    (case c9 => k_is)
    (case k9 => k_is)
    (case a10 => k_is)
    (case l10 => k_is)
    (case c10 => k_is)
    (case k10 => k_is)
    (case a11 => k_is)
    (case l11 => k_is)
    (case c11 => k_is)
    (case k11 => k_is)
    (case a12 => k_is)
    (case l12 => k_is)
    (case c12 => k_is)
    (case k12 => k_is)
    (case a13 => k_is)
    (case i13 => k_is)
    (case l13 => k_is)
    (case c13 => k_is)
    (case k13 => k_is)
    (case a14 => k_is)
    (case l14 => k_is)
    (case c14 => k_is)
    (case k14 => k_is)
    (case a15 => k_is)
    (case l15 => k_is)
    (case c15 => k_is)
    (case k15 => k_is)
    (case a16 => k_is)
    (case l16 => k_is)
    (case c16 => k_is)
    (case k16 => k_is)
    (case a17 => k_is)
    (case l17 => k_is)
    (case c17 => k_is)
    (case k17 => k_is)
    (case a18 => k_is)
    (case l18 => k_is)
    (case c18 => k_is)
    (case k18 => k_is)
    (case a19 => k_is)
    (case i19 => k_is)
    (case l19 => k_is)
    (case c19 => k_is)
    (case k19 => k_is)
    (case a20 => k_is)
    (case l20 => k_is)
    (case c20 => k_is)
    (case k20 => k_is)
    (case a21 => k_is)
    (case i21 => k_is)
    (case l21 => k_is)
    (case c21 => k_is)
    (case k21 => k_is)
    (case a22 => k_is)
    (case i22 => k_is)
    (case l22 => k_is)
    (case c22 => k_is)
    (case k22 => k_is)
    (case a23 => k_is)
    (case i23 => k_is)
    (case l23 => k_is)
    (case c23 => k_is)
    (case k23 => k_is)
    (case a24 => k_is)
    (case i24 => k_is)
    (case l24 => k_is)
    (case c24 => k_is)
    (case k24 => k_is)
    (case a25 => k_is)
    (case l25 => k_is)
    (case c25 => k_is)
    (case k25 => k_is)
    (case a26 => k_is)
    (case l26 => k_is)
    (case c26 => k_is)
    (case k26 => k_is)
    (case a27 => k_is)
    (case l27 => k_is)
    (case c27 => k_is)
    (case k27 => k_is)
    (case z_ValueError => k_is)
    (case z_all => k_is)
    (case z_any => k_is)
    (case z_divmod => k_is)
    (case z_enumerate => k_is)
    (case z_int => k_is)
    (case z_isinstance => k_is)
    (case z_len => k_is)
    (case z_list => k_is)
    (case z_max => k_is)
    (case z_min => k_is)
    (case z_range => k_is)
    (case z_repr => k_is)
    (case z_tuple => k_is)
    (case z_zip => k_is)
    (case z_MOST_MEMBERS => k_is)
    (case z_MOST_PLACES => k_is)
    (case zx_EvenError => k_is)
    (case zx_NoField => k_is)
    (case zx_NoLine => k_is)
    (case zx_NoMember => k_is)
    (case zx_NoName => k_is)
    (case zx_NoNumber => k_is)
    (case zx_NoRings => k_is)
    (case zx_NoRow => k_is)
    (case zx_NoSpot => k_is)
    (case zx_NoText => k_is)
    (case zx_NoTurn => k_is)
    (case zx_NoWay => k_is)
    (case zx_TooMany => k_is)
    (case rx_NoMember => k_exc)
    (case rk_NoMember => k_is)
    (case rs_NoMember => k_is)
    (case rt_NoMember => k_is)
    (case tb_EvenError => k_is)
    (case td_EvenError => k_is)
    (case tt_EvenError => k_is)
    (case te_EvenError_NoMember => k_is)
    (case xa_NoMember => k_is)
    (case xb_NoMember => k_is)
    (case xc_NoMember => k_is)
    (case xd_NoMember => k_is)
    (case xe_NoMember => k_is)
    (case xf_NoMember => k_is)
    (case xg_NoMember => k_is)
    (case xh_NoMember => k_is)
    (case xv_NoMember => k_is)
    (case xw_NoMember => k_is)
    (case xk_NoMember_NoField => k_is)
    (case xk_NoMember_NoLine => k_is)
    (case xk_NoMember_NoMember => k_is)
    (case xk_NoMember_NoName => k_is)
    (case xk_NoMember_NoNumber => k_is)
    (case xk_NoMember_NoRings => k_is)
    (case xk_NoMember_NoRow => k_is)
    (case xk_NoMember_NoSpot => k_is)
    (case xk_NoMember_NoText => k_is)
    (case xk_NoMember_NoTurn => k_is)
    (case xk_NoMember_NoWay => k_is)
    (case xk_NoMember_TooMany => k_is)
    (case xi_NoField => k_is)
    (case xj_NoField => k_is)
    (case xi_NoLine => k_is)
    (case xj_NoLine => k_is)
    (case xi_NoMember => k_is)
    (case xj_NoMember => k_is)
    (case xi_NoName => k_is)
    (case xj_NoName => k_is)
    (case xi_NoNumber => k_is)
    (case xj_NoNumber => k_is)
    (case xi_NoRings => k_is)
    (case xj_NoRings => k_is)
    (case xi_NoRow => k_is)
    (case xj_NoRow => k_is)
    (case xi_NoSpot => k_is)
    (case xj_NoSpot => k_is)
    (case xi_NoText => k_is)
    (case xj_NoText => k_is)
    (case xi_NoTurn => k_is)
    (case xj_NoTurn => k_is)
    (case xi_NoWay => k_is)
    (case xj_NoWay => k_is)
    (case xi_TooMany => k_is)
    (case xj_TooMany => k_is)
