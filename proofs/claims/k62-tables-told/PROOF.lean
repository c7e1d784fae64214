import PyProof.Rows.All
import HandS.ForMost
import HandS.ForExc
import HandS.CallSlots
import HandS.WideMore
import HandS.TupAny
import HandS.ExcCtx
import HandS.Flow
import KE.DataEq
import HandS.IsInst
import HandS.Conv
import HandS.SortInts
import HandS.TupLen
import HandS.Style
import HandS.Iter
import HandS.Rev
import KE.DataCmp
import KE.SortData
import KE.DataMinMax
import KE.DataFind
import HandS.TupMul
import HandS.Zip
import HandS.TupLe
import HandS.Ends
import PyProof.ReprRoads
import PyProof.Rows.SortWalk
import KE.KDictPairs
import HandS.ExcIs
import HandS.ExcValue
import PyProof.Rows.CountFlat
import HandS.RevTup
import HandS.MapObj
import HandS.SortKw
import PyProof.Rows.RowBridgeK
import HandS.Hot
import HandS.HotCalls
import KE.KDictCopyH
import KE.KDictKeyed
import HandS.More
import HandS.Flt
import HandS.Text
import PyProof.StrOps2
import PyProof.Rows.RuleB_pow
import PyProof.FitsInt
import Wide.All
import OpenK.AllK
import Wide.FinOn
import PySem.Challenge.RW_evendiffs_k62_tables_told
set_option Elab.async false
set_option linter.all false
set_option maxRecDepth 100000
namespace TL
open PySem PySem.Spec PyProof.Rows L2
/-- a dict's keys: numbers and texts; tuples of such -/
inductive KK where
  | k | t
  deriving DecidableEq
inductive D where
  | non | bl (b : Bool) | int (i : Int) | str (x : Str) | tup (l : List D) | lst (l : List D) | dct (kk : KK) (l : List (D × D)) | ty (n : String) | ref (a : Addr)
  /-- a list that is read alone (the script) -/
  | scr (l : List D)
  /-- an exception of the module's class n; that class -/
  | exc (n : String) | cl (n : String)
  /-- a tuple whose object is known, or that is the module's own: read alone -/
  | xtp (l : List D)
  /-- an exception of the class NoText that keeps the row i -/
  | exp (i : Int)
  /-- an instance of the module's class n that is read alone -/
  | obj (n : String) (fs : List (Str × D))
inductive FV where
  | v (d : D) | l (l : List D) | d (kk : KK) (l : List (D × D))
/-- a mutable object by value -/
inductive Cell where
  | lst (l : List D) | dct (kk : KK) (l : List (D × D)) | ins (n : String) (fs : List (Str × FV))
/-- a field as data -/
def FV.z : FV → D
  | .v x => x
  | .l x => .lst x
  | .d kk x => .dct kk x
def fsZ (fs : List (Str × FV)) : List (Str × D) := fs.map fun p => (p.1, p.2.z)
inductive Slot where
  | un | v (d : D) | own (c : Cell) | bor (c : Cell)
inductive R where
  | v (d : D) | own (c : Cell)
abbrev TSt := List Slot
def kD : Key → D
  | .inl i => .int i
  | .inr x => .str x
def kT (ks : List Key) : D := .tup (ks.map kD)
/-- the fields that instances of the module's classes may have -/
def clsFields (n : String) : List Str := match n with
  | "Field" => ["p", "m", "shape", "nought", "one", "kept_first", "kept_logs"]
  | "Seeker" => ["rings", "k", "due", "board", "chosen", "counted", "most", "looked", "is_spent", "found"]
  | "Looker" => ["rings", "k", "due", "board", "wholes"]
  | "Desk" => ["rings", "held"]
  | _ => []
def KsOk (n : String) (ks : List Str) : Prop := ks.Nodup ∧ ∀ k ∈ ks, k ∈ clsFields n
/-- the module's class n stands at C -/
def ClsAt (K : PySem.W.Frag) (n : String) (C : Addr) : Prop := PySem.W.nsIn K mainGlobals (Str.ofString n) = some (some (.ref C))
/-- an exception object of the class C, at a -/
def ExT (C a : Addr) : HO := .ext fun h => ∃ (oe : Obj) (vs : Array Value), h.get? a = some oe ∧ L2N.Zn (.ref C) none oe ∧ oe.data = .fields vs
/-- .. that has its dict at dd -/
def ExTd (C a dd : Addr) : HO := .ext fun h => ∃ (oe : Obj) (vs : Array Value), h.get? a = some oe ∧ L2N.Zn (.ref C) (some dd) oe ∧ oe.data = .fields vs
def ClsN (K : PySem.W.Frag) (n : String) (v : Value) : Prop := ∃ C, v = .ref C ∧ ClsAt K n C
/-- a tuple whose object is known to have no dict, or that is the module's own -/
def XT (K : PySem.W.Frag) (F : Hp) (a : Addr) (vs : List V) : Prop :=
  (∃ o, F a = some (.frz o (.tup vs)) ∧ o.dict = none) ∨
    ∃ (o : Obj) (its : Array Value) (n : Nat), K.lookup a = some o ∧ o.cls = .type "tuple" ∧ o.dict = none ∧ o.data = .seq its n ∧ its.size ≤ sizeLine ∧ Vals vs its.toList
theorem XT.seq {K : PySem.W.Frag} {F : Hp} {a : Addr} {vs : List V} (h : XT K F a vs) : SqT K F a vs := by
  rcases h with ⟨o, e, _⟩ | ⟨o, its, n, h1, h2, _, h4, h5, h6⟩
  · exact .inl (.inr ⟨o, e⟩)
  · exact .inr ⟨o, its, n, h1, h2, h4, h5, h6⟩
theorem XT.up {K : PySem.W.Frag} {F F' : Hp} {a : Addr} {vs : List V} (s : ∀ a o, F a = some o → F' a = some o) (h : XT K F a vs) : XT K F' a vs := by
  rcases h with ⟨o, e, z⟩ | h
  · exact .inl ⟨o, s _ _ e, z⟩
  · exact .inr h
mutual
inductive Rep (K : PySem.W.Frag) (F : Hp) : D → V → Prop
  | xtp {a : Addr} {ds : List D} {vs : List V} : XT K F a vs → Reps K F ds vs → Rep K F (.xtp ds) (.ref a)
  | non : Rep K F .non .non
  | bl (b : Bool) : Rep K F (.bl b) (.bl b)
  | int (i : Int) : Rep K F (.int i) (.int i)
  | str (x : Str) : Rep K F (.str x) (.str x)
  | ty (n : String) : Rep K F (.ty n) (.ty n)
  /-- a pointer, and nothing of what stands there -/
  | ref {a : Addr} : Rep K F (.ref a) (.ref a)
  | exc {n : String} {a C : Addr} : ClsAt K n C → F a = some (ExT C a) → Rep K F (.exc n) (.ref a)
  | exp {i : Int} {a C dd : Addr} : ClsAt K "NoText" C → F a = some (ExTd C a dd) → F dd = some (.xd [("row", .int i)]) → Rep K F (.exp i) (.ref a)
  | cl {n : String} {C : Addr} : ClsAt K n C → Rep K F (.cl n) (.ref C)
  | tup {a : Addr} {ds : List D} {vs : List V} : F a = some (.tup vs) → Reps K F ds vs → Rep K F (.tup ds) (.ref a)
  | lst {a : Addr} {ds : List D} {vs : List V} : F a = some (.lst vs) → Reps K F ds vs → Rep K F (.lst ds) (.ref a)
  | scr {a : Addr} {ds : List D} {vs : List V} : SqL K F a vs → Reps K F ds vs → Rep K F (.scr ds) (.ref a)
  | dctK {a : Addr} {ds : List (D × D)} {kvs : List (Key × V)} : F a = some (.dK kvs) → RepK K F ds kvs → Rep K F (.dct .k ds) (.ref a)
  | dctT {a : Addr} {ds : List (D × D)} {kvs : List (List Key × V)} : F a = some (.dT kvs) → RepT K F ds kvs → Rep K F (.dct .t ds) (.ref a)
  | obj {n : String} {C dx a : Addr} {fs : List (Str × D)} {gs : List (Str × V)} : ClsAt K n C → F a = some (.ins C dx gs) → F dx = some (.own a) → KsOk n (fs.map (·.1)) → RepF K F fs gs → Rep K F (.obj n fs) (.ref a)
inductive RepF (K : PySem.W.Frag) (F : Hp) : List (Str × D) → List (Str × V) → Prop
  | nil : RepF K F [] []
  | cons {f : Str} {d : D} {v : V} {fs : List (Str × D)} {gs : List (Str × V)} : Rep K F d v → RepF K F fs gs → RepF K F ((f, d) :: fs) ((f, v) :: gs)
inductive Reps (K : PySem.W.Frag) (F : Hp) : List D → List V → Prop
  | nil : Reps K F [] []
  | cons {d : D} {v : V} {ds : List D} {vs : List V} : Rep K F d v → Reps K F ds vs → Reps K F (d :: ds) (v :: vs)
inductive RepK (K : PySem.W.Frag) (F : Hp) : List (D × D) → List (Key × V) → Prop
  | nil : RepK K F [] []
  | cons {k : Key} {d : D} {v : V} {ds : List (D × D)} {vs : List (Key × V)} : Rep K F d v → RepK K F ds vs → RepK K F ((kD k, d) :: ds) ((k, v) :: vs)
inductive RepT (K : PySem.W.Frag) (F : Hp) : List (D × D) → List (List Key × V) → Prop
  | nil : RepT K F [] []
  | cons {k : List Key} {d : D} {v : V} {ds : List (D × D)} {vs : List (List Key × V)} : Rep K F d v → RepT K F ds vs → RepT K F ((kT k, d) :: ds) ((k, v) :: vs)
end
theorem Rd.up {F F' : Hp} {a : Addr} {u : HO} (s : Same F F') (h : Rd F a u) : Rd F' a u := by
  rcases h with h | ⟨o, h⟩
  · exact .inl (s _ _ h)
  · exact .inr ⟨o, s _ _ h⟩
theorem SqL.up {K : PySem.W.Frag} {F F' : Hp} {a : Addr} {xs : List V} (s : Same F F') (h : SqL K F a xs) : SqL K F' a xs := by
  rcases h with h | h
  · exact .inl (Rd.up s h)
  · exact .inr h
theorem SqT.up {K : PySem.W.Frag} {F F' : Hp} {a : Addr} {xs : List V} (s : Same F F') (h : SqT K F a xs) : SqT K F' a xs := by
  rcases h with h | h
  · exact .inl (Rd.up s h)
  · exact .inr h
section
variable {K : PySem.W.Frag} {F F' : Hp}
mutual
theorem Rep.up (s : Same F F') : ∀ {d : D} {v : V}, Rep K F d v → Rep K F' d v
  | _, _, .non => .non
  | _, _, .bl b => .bl b
  | _, _, .int i => .int i
  | _, _, .str x => .str x
  | _, _, .ty x => .ty x
  | _, _, .ref => .ref
  | _, _, .exc h q => .exc h (s _ _ q)
  | _, _, .exp h q r => .exp h (s _ _ q) (s _ _ r)
  | _, _, .cl h => .cl h
  | _, _, .tup h r => .tup (s _ _ h) (Reps.up s r)
  | _, _, .lst h r => .lst (s _ _ h) (Reps.up s r)
  | _, _, .scr h r => .scr (SqL.up s h) (Reps.up s r)
  | _, _, .xtp h r => .xtp (XT.up s h) (Reps.up s r)
  | _, _, .dctK h r => .dctK (s _ _ h) (RepK.up s r)
  | _, _, .dctT h r => .dctT (s _ _ h) (RepT.up s r)
  | _, _, .obj c h q k r => .obj c (s _ _ h) (s _ _ q) k (RepF.up s r)
theorem RepF.up (s : Same F F') : ∀ {fs : List (Str × D)} {gs : List (Str × V)}, RepF K F fs gs → RepF K F' fs gs
  | _, _, .nil => .nil
  | _, _, .cons h r => .cons (Rep.up s h) (RepF.up s r)
theorem Reps.up (s : Same F F') : ∀ {ds : List D} {vs : List V}, Reps K F ds vs → Reps K F' ds vs
  | _, _, .nil => .nil
  | _, _, .cons h r => .cons (Rep.up s h) (Reps.up s r)
theorem RepK.up (s : Same F F') : ∀ {ds : List (D × D)} {vs : List (Key × V)}, RepK K F ds vs → RepK K F' ds vs
  | _, _, .nil => .nil
  | _, _, .cons h r => .cons (Rep.up s h) (RepK.up s r)
theorem RepT.up (s : Same F F') : ∀ {ds : List (D × D)} {vs : List (List Key × V)}, RepT K F ds vs → RepT K F' ds vs
  | _, _, .nil => .nil
  | _, _, .cons h r => .cons (Rep.up s h) (RepT.up s r)
end
end
/-- what stands at a heap: frozen, or a mutable object as it is now -/
inductive RepH (K : PySem.W.Frag) (F H : Hp) : D → V → Prop
  | rep {d : D} {v : V} : Rep K F d v → RepH K F H d v
  | lst {a : Addr} {ds : List D} {vs : List V} : H a = some (.lst vs) → Reps K F ds vs → RepH K F H (.lst ds) (.ref a)
  | dctK {a : Addr} {ds : List (D × D)} {kvs : List (Key × V)} : H a = some (.dK kvs) → RepK K F ds kvs → RepH K F H (.dct .k ds) (.ref a)
  | dctT {a : Addr} {ds : List (D × D)} {kvs : List (List Key × V)} : H a = some (.dT kvs) → RepT K F ds kvs → RepH K F H (.dct .t ds) (.ref a)
section
variable {K : PySem.W.Frag} {F H : Hp}
theorem RepH.lst_inv {ds : List D} {v : V} (h : RepH K F H (.lst ds) v) (s : Same F H) : ∃ a vs, v = .ref a ∧ H a = some (.lst vs) ∧ Reps K F ds vs := by
  cases h with
  | rep r => cases r with
    | lst e r => exact ⟨_, _, rfl, s _ _ e, r⟩
  | lst e r => exact ⟨_, _, rfl, e, r⟩
theorem RepH.tup_inv {ds : List D} {v : V} (h : RepH K F H (.tup ds) v) (s : Same F H) : ∃ a vs, v = .ref a ∧ H a = some (.tup vs) ∧ Reps K F ds vs := by
  cases h with
  | rep r => cases r with
    | tup e r => exact ⟨_, _, rfl, s _ _ e, r⟩
theorem RepH.scr_inv {ds : List D} {v : V} (h : RepH K F H (.scr ds) v) (s : Same F H) : ∃ a vs, v = .ref a ∧ SqL K H a vs ∧ Reps K F ds vs := by
  cases h with
  | rep r => cases r with
    | scr e r => exact ⟨_, _, rfl, SqL.up s e, r⟩
theorem RepH.xtp_inv {ds : List D} {v : V} (h : RepH K F H (.xtp ds) v) (s : Same F H) : ∃ a vs, v = .ref a ∧ XT K H a vs ∧ Reps K F ds vs := by
  cases h with
  | rep r => cases r with
    | xtp e r => exact ⟨_, _, rfl, XT.up s e, r⟩
theorem RepH.dK_inv {ds : List (D × D)} {v : V} (h : RepH K F H (.dct .k ds) v) (s : Same F H) : ∃ a kvs, v = .ref a ∧ H a = some (.dK kvs) ∧ RepK K F ds kvs := by
  cases h with
  | rep r => cases r with
    | dctK e r => exact ⟨_, _, rfl, s _ _ e, r⟩
  | dctK e r => exact ⟨_, _, rfl, e, r⟩
theorem RepH.dT_inv {ds : List (D × D)} {v : V} (h : RepH K F H (.dct .t ds) v) (s : Same F H) : ∃ a kvs, v = .ref a ∧ H a = some (.dT kvs) ∧ RepT K F ds kvs := by
  cases h with
  | rep r => cases r with
    | dctT e r => exact ⟨_, _, rfl, s _ _ e, r⟩
  | dctT e r => exact ⟨_, _, rfl, e, r⟩
theorem RepH.int_inv {i : Int} {v : V} (h : RepH K F H (.int i) v) : v = .int i := by cases h with | rep r => cases r; rfl
theorem RepH.bl_inv {i : Bool} {v : V} (h : RepH K F H (.bl i) v) : v = .bl i := by cases h with | rep r => cases r; rfl
theorem RepH.str_inv {i : Str} {v : V} (h : RepH K F H (.str i) v) : v = .str i := by cases h with | rep r => cases r; rfl
theorem RepH.non_inv {v : V} (h : RepH K F H .non v) : v = .non := by cases h with | rep r => cases r; rfl
end
inductive FsRel (K : PySem.W.Frag) (F H : Hp) : List (Str × FV) → List (Str × V) → List Addr → Prop
  | nil : FsRel K F H [] [] []
  | v {f : Str} {d : D} {x : V} {fs : List (Str × FV)} {gs : List (Str × V)} {fp : List Addr} : Rep K F d x → FsRel K F H fs gs fp → FsRel K F H ((f, .v d) :: fs) ((f, x) :: gs) fp
  | l {f : Str} {ds : List D} {a : Addr} {vs : List V} {fs : List (Str × FV)} {gs : List (Str × V)} {fp : List Addr} : H a = some (.lst vs) → Reps K F ds vs → FsRel K F H fs gs fp → FsRel K F H ((f, .l ds) :: fs) ((f, .ref a) :: gs) (a :: fp)
  | dK {f : Str} {ds : List (D × D)} {a : Addr} {kvs : List (Key × V)} {fs : List (Str × FV)} {gs : List (Str × V)} {fp : List Addr} : H a = some (.dK kvs) → RepK K F ds kvs → FsRel K F H fs gs fp → FsRel K F H ((f, .d .k ds) :: fs) ((f, .ref a) :: gs) (a :: fp)
  | dT {f : Str} {ds : List (D × D)} {a : Addr} {kvs : List (List Key × V)} {fs : List (Str × FV)} {gs : List (Str × V)} {fp : List Addr} : H a = some (.dT kvs) → RepT K F ds kvs → FsRel K F H fs gs fp → FsRel K F H ((f, .d .t ds) :: fs) ((f, .ref a) :: gs) (a :: fp)
inductive CellRel (K : PySem.W.Frag) (F H : Hp) : Cell → Addr → List Addr → Prop
  | lst {ds : List D} {a : Addr} {vs : List V} : H a = some (.lst vs) → Reps K F ds vs → CellRel K F H (.lst ds) a [a]
  | dK {ds : List (D × D)} {a : Addr} {kvs : List (Key × V)} : H a = some (.dK kvs) → RepK K F ds kvs → CellRel K F H (.dct .k ds) a [a]
  | dT {ds : List (D × D)} {a : Addr} {kvs : List (List Key × V)} : H a = some (.dT kvs) → RepT K F ds kvs → CellRel K F H (.dct .t ds) a [a]
  | ins {n : String} {C dx a : Addr} {fs : List (Str × FV)} {gs : List (Str × V)} {fp : List Addr} : ClsAt K n C → H a = some (.ins C dx gs) → H dx = some (.own a) → KsOk n (fs.map (·.1)) → FsRel K F H fs gs fp → CellRel K F H (.ins n fs) a (a :: dx :: fp)
section
variable {K : PySem.W.Frag} {F F' H H' : Hp}
theorem FsRel.up (s : Same F F') : ∀ {fs : List (Str × FV)} {gs : List (Str × V)} {fp : List Addr}, FsRel K F H fs gs fp → (∀ b ∈ fp, H' b = H b) → FsRel K F' H' fs gs fp
  | _, _, _, .nil, _ => .nil
  | _, _, _, .v r t, k => .v (Rep.up s r) (FsRel.up s t k)
  | _, _, _, .l e r t, k => .l ((k _ List.mem_cons_self).trans e) (Reps.up s r) (FsRel.up s t fun b hb => k b (List.mem_cons_of_mem _ hb))
  | _, _, _, .dK e r t, k => .dK ((k _ List.mem_cons_self).trans e) (RepK.up s r) (FsRel.up s t fun b hb => k b (List.mem_cons_of_mem _ hb))
  | _, _, _, .dT e r t, k => .dT ((k _ List.mem_cons_self).trans e) (RepT.up s r) (FsRel.up s t fun b hb => k b (List.mem_cons_of_mem _ hb))
theorem CellRel.up (s : Same F F') {c : Cell} {a : Addr} {fp : List Addr} (x : CellRel K F H c a fp) (k : ∀ b ∈ fp, H' b = H b) : CellRel K F' H' c a fp := by
  cases x with
  | lst e r => exact .lst ((k _ List.mem_cons_self).trans e) (Reps.up s r)
  | dK e r => exact .dK ((k _ List.mem_cons_self).trans e) (RepK.up s r)
  | dT e r => exact .dT ((k _ List.mem_cons_self).trans e) (RepT.up s r)
  | ins c e1 e2 ks r => exact .ins c ((k _ List.mem_cons_self).trans e1) ((k _ (List.mem_cons_of_mem _ List.mem_cons_self)).trans e2) ks (FsRel.up s r fun b hb => k b (List.mem_cons_of_mem _ (List.mem_cons_of_mem _ hb)))
theorem FsRel.there : ∀ {fs : List (Str × FV)} {gs : List (Str × V)} {fp : List Addr}, FsRel K F H fs gs fp → ∀ b ∈ fp, ∃ o, H b = some o
  | _, _, _, .nil, _, hb => nomatch hb
  | _, _, _, .v r t, b, hb => FsRel.there t b hb
  | _, _, _, .l e r t, b, hb => by
    rcases List.mem_cons.mp hb with rfl | hb
    · exact ⟨_, e⟩
    · exact FsRel.there t b hb
  | _, _, _, .dK e r t, b, hb => by
    rcases List.mem_cons.mp hb with rfl | hb
    · exact ⟨_, e⟩
    · exact FsRel.there t b hb
  | _, _, _, .dT e r t, b, hb => by
    rcases List.mem_cons.mp hb with rfl | hb
    · exact ⟨_, e⟩
    · exact FsRel.there t b hb
theorem CellRel.there {c : Cell} {a : Addr} {fp : List Addr} (x : CellRel K F H c a fp) : ∀ b ∈ fp, ∃ o, H b = some o := by
  intro b hb
  cases x with
  | lst e r => rw [List.mem_singleton.mp hb]; exact ⟨_, e⟩
  | dK e r => rw [List.mem_singleton.mp hb]; exact ⟨_, e⟩
  | dT e r => rw [List.mem_singleton.mp hb]; exact ⟨_, e⟩
  | ins c e1 e2 ks r =>
    rcases List.mem_cons.mp hb with rfl | hb
    · exact ⟨_, e1⟩
    · rcases List.mem_cons.mp hb with rfl | hb
      · exact ⟨_, e2⟩
      · exact FsRel.there r b hb
theorem CellRel.head {c : Cell} {a : Addr} {fp : List Addr} (x : CellRel K F H c a fp) : a ∈ fp := by
  cases x <;> exact List.mem_cons_self
end
structure Base where
  H : Hp
  F : Hp
  foot : List Addr
  home : Nat → Option Addr
structure Gh where
  F : Hp
  ow : Addr → Option Nat
def SlotRel (K : PySem.W.Frag) (B : Base) (g : Gh) (H : Hp) (i : Nat) (x : Option (Option V)) : Slot → Prop
  | .un => True
  | .v d => ∃ v, x = some (some v) ∧ Rep K g.F d v
  | .own c => ∃ a fp, x = some (some (.ref a)) ∧ CellRel K g.F H c a fp ∧ fp.Nodup ∧ ∀ b ∈ fp, g.ow b = some i
  | .bor c => ∃ a fp, x = some (some (.ref a)) ∧ B.home i = some a ∧ CellRel K g.F H c a fp ∧ fp.Nodup ∧ ∀ b ∈ fp, g.ow b = some i
/-- nothing is lost, and each tuple that is there is frozen -/
structure Dm (BH F H : Hp) : Prop where
  dom : ∀ a, H a = none → BH a = none
  tf : ∀ a xs, H a = some (.tup xs) → F a = some (.tup xs)
structure Rel (K : PySem.W.Frag) (B : Base) (g : Gh) (t : TSt) (σ : L2.St) (H : Hp) : Prop where
  base : Same B.F g.F
  sub : Same g.F H
  ff : ∀ a o, g.F a = some o → g.ow a = none
  old : ∀ a o, B.H a = some o → a ∉ B.foot → H a = some o ∧ g.ow a = none ∧ (B.F a = none → g.F a = none)
  ft : ∀ b ∈ B.foot, ∃ o, B.H b = some o
  dm : Dm B.H g.F H
  there : ∀ a i, g.ow a = some i → ∃ o, H a = some o
  len : t.length = σ.length
  slot : ∀ i s, t[i]? = some s → SlotRel K B g H i σ[i]? s
def ResRel (K : PySem.W.Frag) (B : Base) (g : Gh) (H : Hp) : R → V → Prop
  | .v d, v => Rep K g.F d v
  | .own c, v => ∃ a fp, v = .ref a ∧ CellRel K g.F H c a fp ∧ fp.Nodup ∧ ∀ b ∈ fp, g.ow b = none ∧ g.F b = none ∧ B.H b = none
section
variable {K : PySem.W.Frag} {B : Base} {g g' : Gh} {H H' : Hp} {t : TSt} {σ : L2.St}
theorem Rel.dom (r : Rel K B g t σ H) : ∀ a, H a = none → B.H a = none := r.dm.dom
theorem Rel.tf (r : Rel K B g t σ H) : ∀ a xs, H a = some (.tup xs) → g.F a = some (.tup xs) := r.dm.tf
theorem SlotRel.up {i : Nat} {x : Option (Option V)} {s : Slot} (h : SlotRel K B g H i x s) (sF : Same g.F g'.F) (k : ∀ b, g.ow b = some i → g'.ow b = some i ∧ H' b = H b) : SlotRel K B g' H' i x s := by
  cases s with
  | un => trivial
  | v d =>
    obtain ⟨v, e, r⟩ := h
    exact ⟨v, e, r.up sF⟩
  | own c =>
    obtain ⟨a, fp, e, r, n, o⟩ := h
    exact ⟨a, fp, e, r.up sF fun b hb => (k b (o b hb)).2, n, fun b hb => (k b (o b hb)).1⟩
  | bor c =>
    obtain ⟨a, fp, e, hm, r, n, o⟩ := h
    exact ⟨a, fp, e, hm, r.up sF fun b hb => (k b (o b hb)).2, n, fun b hb => (k b (o b hb)).1⟩
/-- a new frozen object -/
theorem Rel.newF {p : Addr} {o : HO} (r : Rel K B g t σ H) (hp : H p = none) : Same g.F (upd g.F p o) ∧ Rel K B ⟨upd g.F p o, g.ow⟩ t σ (upd H p o) := by
  have fp : g.F p = none := by
    cases q : g.F p with
    | none => rfl
    | some u => exact absurd (r.sub _ _ q) (by rw [hp]; exact nofun)
  have sF : Same g.F (upd g.F p o) := fun b u e => by
    rw [upd_ne (ne_of_none e fp)]; exact e
  have np : ∀ b i, g.ow b = some i → b ≠ p := fun b i e => by
    obtain ⟨u, hu⟩ := r.there b i e
    exact ne_of_none hu hp
  refine ⟨sF, ⟨fun b u e => sF _ _ (r.base _ _ e), fun b u e => ?_, fun b u e => ?_, fun b u e hb => ?_, r.ft, ⟨fun b e => ?_, fun b xs e => ?_⟩, fun b i e => ?_, r.len, fun i s e => ?_⟩⟩
  · have e' : upd g.F p o b = some u := e
    by_cases hb : b = p
    · subst hb; rw [upd_same] at e' ⊢; exact e'
    · rw [upd_ne hb] at e' ⊢; exact r.sub _ _ e'
  · by_cases hb : b = p
    · subst hb
      cases q : g.ow b with
      | none => rfl
      | some i => exact absurd rfl (np b i q)
    · have e' : upd g.F p o b = some u := e
      rw [upd_ne hb] at e'; exact r.ff _ _ e'
  · obtain ⟨h1, h2, h3⟩ := r.old b u e hb
    exact ⟨by rw [upd_ne (ne_of_none h1 hp)]; exact h1, h2, fun z => by show upd g.F p o b = none; rw [upd_ne (ne_of_none h1 hp)]; exact h3 z⟩
  · by_cases hb : b = p
    · subst hb; exact r.dom _ hp
    · rw [upd_ne hb] at e; exact r.dom _ e
  · show upd g.F p o b = _
    by_cases hb : b = p
    · subst hb; rw [upd_same] at e ⊢; exact e
    · rw [upd_ne hb] at e ⊢; exact r.tf _ _ e
  · obtain ⟨u, hu⟩ := r.there b i e
    exact ⟨u, by rw [upd_ne (np b i e)]; exact hu⟩
  · exact (r.slot i s e).up sF fun b q => ⟨q, upd_ne (np b i q)⟩
/-- a new object of nobody's -/
theorem Rel.newO {p : Addr} {o : HO} (r : Rel K B g t σ H) (hp : H p = none) (nt : ∀ xs, o ≠ .tup xs := by intro xs h; cases h) : Rel K B g t σ (upd H p o) ∧ g.ow p = none ∧ g.F p = none ∧ B.H p = none := by
  have fp : g.F p = none := by
    cases q : g.F p with
    | none => rfl
    | some u => exact absurd (r.sub _ _ q) (by rw [hp]; exact nofun)
  have np : ∀ b i, g.ow b = some i → b ≠ p := fun b i e => by
    obtain ⟨u, hu⟩ := r.there b i e
    exact ne_of_none hu hp
  refine ⟨⟨r.base, fun b u e => ?_, r.ff, fun b u e hb => ?_, r.ft, ⟨fun b e => ?_, fun b xs e => ?_⟩, fun b i e => ?_, r.len, fun i s e => ?_⟩, ?_, fp, r.dom _ hp⟩
  · rw [upd_ne (ne_of_none e fp)]; exact r.sub _ _ e
  · obtain ⟨h1, h2⟩ := r.old b u e hb
    exact ⟨by rw [upd_ne (ne_of_none h1 hp)]; exact h1, h2⟩
  · by_cases hb : b = p
    · subst hb; exact r.dom _ hp
    · rw [upd_ne hb] at e; exact r.dom _ e
  · by_cases hb : b = p
    · subst hb; rw [upd_same] at e; exact absurd (Option.some.inj e) (nt xs)
    · rw [upd_ne hb] at e; exact r.tf _ _ e
  · obtain ⟨u, hu⟩ := r.there b i e
    exact ⟨u, by rw [upd_ne (np b i e)]; exact hu⟩
  · exact (r.slot i s e).up (fun _ _ z => z) fun b q => ⟨q, upd_ne (np b i q)⟩
  · cases q : g.ow p with
    | none => rfl
    | some i => exact absurd rfl (np p i q)
/-- an object of nobody's is frozen as it stands -/
theorem Rel.freezeAt {p : Addr} {o : HO} (r : Rel K B g t σ H) (hp : H p = some o) (ho : g.ow p = none) (hf : g.F p = none) (hB : B.H p = none ∨ p ∈ B.foot) : Same g.F (upd g.F p o) ∧ Rel K B ⟨upd g.F p o, g.ow⟩ t σ H := by
  have sF : Same g.F (upd g.F p o) := fun b u e => by
    rw [upd_ne (ne_of_none e hf)]; exact e
  refine ⟨sF, ⟨fun b u e => sF _ _ (r.base _ _ e), fun b u e => ?_, fun b u e => ?_, fun b u e hb => ?_, r.ft, ⟨r.dom, fun b xs e => sF _ _ (r.tf _ _ e)⟩, r.there, r.len, fun i s e => (r.slot i s e).up sF fun b q => ⟨q, rfl⟩⟩⟩
  · have e' : upd g.F p o b = some u := e
    by_cases hb : b = p
    · subst hb; rw [upd_same] at e'; rw [← e']; exact hp
    · rw [upd_ne hb] at e'; exact r.sub _ _ e'
  · have e' : upd g.F p o b = some u := e
    by_cases hb : b = p
    · subst hb; exact ho
    · rw [upd_ne hb] at e'; exact r.ff _ _ e'
  · obtain ⟨h1, h2, h3⟩ := r.old b u e hb
    have ne : b ≠ p := by
      rintro rfl
      rcases hB with z | z
      · rw [z] at e; cases e
      · exact hb z
    exact ⟨h1, h2, fun z => by show upd g.F p o b = none; rw [upd_ne ne]; exact h3 z⟩
/-- the data of a cell that can be frozen -/
def Cell.d? : Cell → Option D
  | .lst l => some (.lst l)
  | .dct kk l => some (.dct kk l)
  | .ins n fs => some (.obj n (fsZ fs))
def R.d? : R → Option D
  | .v d => some d
  | .own c => c.d?
theorem freeze_fs : ∀ {fs : List (Str × FV)} {gs : List (Str × V)} {fp : List Addr} {g : Gh}, Rel K B g t σ H → FsRel K g.F H fs gs fp → fp.Nodup → (∀ b ∈ fp, g.ow b = none ∧ g.F b = none ∧ (B.H b = none ∨ b ∈ B.foot)) →
    ∃ F', Same g.F F' ∧ Rel K B ⟨F', g.ow⟩ t σ H ∧ RepF K F' (fsZ fs) gs ∧ ∀ b, b ∉ fp → F' b = g.F b
  | _, _, _, g, r, .nil, _, _ => ⟨g.F, fun _ _ z => z, r, .nil, fun _ _ => rfl⟩
  | _, _, _, g, r, .v x xs, nd, ho => by
    obtain ⟨F', s, r', q, e⟩ := freeze_fs r xs nd ho
    exact ⟨F', s, r', .cons (x.up s) q, e⟩
  | _, _, _, g, r, .l (a := a) h rs xs, nd, ho => by
    obtain ⟨n1, n2⟩ := List.nodup_cons.mp nd
    obtain ⟨h1, h2, h3⟩ := ho a List.mem_cons_self
    obtain ⟨s1, r1⟩ := r.freezeAt h h1 h2 h3
    obtain ⟨F', s, r', q, e⟩ := freeze_fs (g := ⟨upd g.F a _, g.ow⟩) r1 (xs.up s1 fun _ _ => rfl) n2 fun b hb => by
      obtain ⟨k1, k2, k3⟩ := ho b (List.mem_cons_of_mem _ hb)
      exact ⟨k1, (upd_ne fun z => n1 (by rw [← z]; exact hb)).trans k2, k3⟩
    refine ⟨F', s1.trans s, r', .cons (.lst (s _ _ upd_same) (rs.up (s1.trans s))) q, fun b hb => (e b fun z => hb (List.mem_cons_of_mem _ z)).trans (upd_ne fun z => hb (by rw [z]; exact List.mem_cons_self))⟩
  | _, _, _, g, r, .dK (a := a) h rs xs, nd, ho => by
    obtain ⟨n1, n2⟩ := List.nodup_cons.mp nd
    obtain ⟨h1, h2, h3⟩ := ho a List.mem_cons_self
    obtain ⟨s1, r1⟩ := r.freezeAt h h1 h2 h3
    obtain ⟨F', s, r', q, e⟩ := freeze_fs (g := ⟨upd g.F a _, g.ow⟩) r1 (xs.up s1 fun _ _ => rfl) n2 fun b hb => by
      obtain ⟨k1, k2, k3⟩ := ho b (List.mem_cons_of_mem _ hb)
      exact ⟨k1, (upd_ne fun z => n1 (by rw [← z]; exact hb)).trans k2, k3⟩
    refine ⟨F', s1.trans s, r', .cons (.dctK (s _ _ upd_same) (rs.up (s1.trans s))) q, fun b hb => (e b fun z => hb (List.mem_cons_of_mem _ z)).trans (upd_ne fun z => hb (by rw [z]; exact List.mem_cons_self))⟩
  | _, _, _, g, r, .dT (a := a) h rs xs, nd, ho => by
    obtain ⟨n1, n2⟩ := List.nodup_cons.mp nd
    obtain ⟨h1, h2, h3⟩ := ho a List.mem_cons_self
    obtain ⟨s1, r1⟩ := r.freezeAt h h1 h2 h3
    obtain ⟨F', s, r', q, e⟩ := freeze_fs (g := ⟨upd g.F a _, g.ow⟩) r1 (xs.up s1 fun _ _ => rfl) n2 fun b hb => by
      obtain ⟨k1, k2, k3⟩ := ho b (List.mem_cons_of_mem _ hb)
      exact ⟨k1, (upd_ne fun z => n1 (by rw [← z]; exact hb)).trans k2, k3⟩
    refine ⟨F', s1.trans s, r', .cons (.dctT (s _ _ upd_same) (rs.up (s1.trans s))) q, fun b hb => (e b fun z => hb (List.mem_cons_of_mem _ z)).trans (upd_ne fun z => hb (by rw [z]; exact List.mem_cons_self))⟩
theorem freeze_cell {c : Cell} {a : Addr} {fp : List Addr} {d : D} (r : Rel K B g t σ H) (x : CellRel K g.F H c a fp) (nd : fp.Nodup) (ho : ∀ b ∈ fp, g.ow b = none ∧ g.F b = none ∧ (B.H b = none ∨ b ∈ B.foot)) (hd : c.d? = some d) :
    ∃ F', Same g.F F' ∧ Rel K B ⟨F', g.ow⟩ t σ H ∧ Rep K F' d (.ref a) := by
  obtain ⟨h1, h2, h3⟩ := ho a x.head
  cases x with
  | lst e rs =>
    obtain ⟨sF, r'⟩ := r.freezeAt e h1 h2 h3
    cases hd
    exact ⟨_, sF, r', .lst upd_same (rs.up sF)⟩
  | dK e rs =>
    obtain ⟨sF, r'⟩ := r.freezeAt e h1 h2 h3
    cases hd
    exact ⟨_, sF, r', .dctK upd_same (rs.up sF)⟩
  | dT e rs =>
    obtain ⟨sF, r'⟩ := r.freezeAt e h1 h2 h3
    cases hd
    exact ⟨_, sF, r', .dctT upd_same (rs.up sF)⟩
  | @ins n C dx _ fs gs fp hc e1 e2 ks xs =>
    cases hd
    obtain ⟨n1, n2⟩ := List.nodup_cons.mp nd
    obtain ⟨n3, n4⟩ := List.nodup_cons.mp n2
    have ne : dx ≠ a := fun z => n1 (by rw [z]; exact List.mem_cons_self)
    obtain ⟨F1, s1, r1, q, e⟩ := freeze_fs r xs n4 fun b hb => ho b (List.mem_cons_of_mem _ (List.mem_cons_of_mem _ hb))
    obtain ⟨k1, k2, k3⟩ := ho dx (List.mem_cons_of_mem _ List.mem_cons_self)
    obtain ⟨s2, r2⟩ := r1.freezeAt (p := dx) e2 k1 ((e dx n3).trans k2) k3
    obtain ⟨s3, r3⟩ := r2.freezeAt (p := a) e1 h1 ((upd_ne ne.symm).trans ((e a fun z => n1 (List.mem_cons_of_mem _ z)).trans h2)) h3
    exact ⟨_, (s1.trans s2).trans s3, r3, .obj hc upd_same ((upd_ne ne).trans upd_same) (by unfold fsZ; rw [List.map_map]; exact ks) (q.up (Same.trans s2 s3))⟩
theorem ResRel.freeze {x : R} {v : V} {d : D} (r : Rel K B g t σ H) (h : ResRel K B g H x v) (hd : x.d? = some d) : ∃ F', Same g.F F' ∧ Rel K B ⟨F', g.ow⟩ t σ H ∧ Rep K F' d v := by
  cases x with
  | v e => cases hd; exact ⟨g.F, fun _ _ z => z, r, h⟩
  | own c =>
    obtain ⟨a, fp, rfl, x, nd, o⟩ := h
    exact freeze_cell r x nd (fun b hb => ⟨(o b hb).1, (o b hb).2.1, .inl (o b hb).2.2⟩) hd
/-- other owners alone -/
theorem Rel.owners {ow' : Addr → Option Nat} {t' : TSt} (r : Rel K B g t σ H) (h1 : ∀ a o, g.F a = some o → ow' a = none) (h2 : ∀ a o, B.H a = some o → a ∉ B.foot → ow' a = none) (h3 : ∀ a i, ow' a = some i → ∃ o, H a = some o)
    (hl : t'.length = σ.length) (hs : ∀ i s, t'[i]? = some s → SlotRel K B ⟨g.F, ow'⟩ H i σ[i]? s) : Rel K B ⟨g.F, ow'⟩ t' σ H :=
  ⟨r.base, r.sub, h1, fun a o e n => ⟨(r.old a o e n).1, h2 a o e n, (r.old a o e n).2.2⟩, r.ft, r.dm, h3, hl, hs⟩
theorem getElem?_set_cases {α : Type} {l : List α} {i j : Nat} {a b : α} (h : (l.set i a)[j]? = some b) : (j = i ∧ b = a ∧ i < l.length) ∨ (j ≠ i ∧ l[j]? = some b) := by
  by_cases e : j = i
  · subst e
    have hl : j < l.length := by
      have := (List.getElem?_eq_some_iff.mp h).1
      simpa using this
    rw [List.getElem?_set_self hl] at h
    exact .inl ⟨rfl, (Option.some.inj h).symm, hl⟩
  · rw [List.getElem?_set_ne (Ne.symm e)] at h
    exact .inr ⟨e, h⟩
theorem Rel.fNone {b : Addr} {i : Nat} (r : Rel K B g t σ H) (h : g.ow b = some i) : g.F b = none := by
  cases q : g.F b with
  | none => rfl
  | some u => have := r.ff b u q; rw [h] at this; cases this
theorem Rel.fresh {b : Addr} {i : Nat} (r : Rel K B g t σ H) (h : g.ow b = some i) : B.H b = none ∨ b ∈ B.foot := by
  cases q : B.H b with
  | none => exact .inl rfl
  | some u =>
    refine .inr (Classical.byContradiction fun z => ?_)
    have := (r.old b u q z).2.1
    rw [h] at this; cases this
/-- slot i's own cell is taken out of it -/
theorem Rel.disown {i : Nat} {s : Slot} (r : Rel K B g t σ H) (hb : ∀ c, t[i]? ≠ some (.bor c)) (hs : ∀ ow', SlotRel K B ⟨g.F, ow'⟩ H i σ[i]? s) :
    Rel K B ⟨g.F, fun a => if g.ow a = some i then none else g.ow a⟩ (t.set i s) σ H := by
  refine r.owners (fun a o e => ?_) (fun a o e n => ?_) (fun a j e => ?_) (by rw [List.length_set]; exact r.len) (fun j s' e => ?_)
  · rw [if_neg (by rw [r.ff a o e]; exact nofun)]; exact r.ff a o e
  · rw [if_neg (by rw [(r.old a o e n).2.1]; exact nofun)]; exact (r.old a o e n).2.1
  · split at e
    · cases e
    · exact r.there a j e
  · rcases getElem?_set_cases e with ⟨rfl, rfl, _⟩ | ⟨ne, e⟩
    · exact hs _
    · refine (r.slot j s' e).up (fun _ _ z => z) fun b q => ⟨?_, rfl⟩
      show (if g.ow b = some i then none else g.ow b) = some j
      rw [if_neg (by rw [q]; intro z; exact ne (Option.some.inj z))]; exact q
/-- a value is stored in slot i -/
theorem Rel.setV {i : Nat} {d : D} {v : V} (r : Rel K B g t σ H) (hi : i < t.length) (hb : ∀ c, t[i]? ≠ some (.bor c)) (h : Rep K g.F d v) :
    Rel K B g (t.set i (.v d)) (σ.set i (some v)) H := by
  refine ⟨r.base, r.sub, r.ff, r.old, r.ft, r.dm, r.there, by rw [List.length_set, List.length_set]; exact r.len, fun j s e => ?_⟩
  rcases getElem?_set_cases e with ⟨rfl, rfl, hl⟩ | ⟨ne, e⟩
  · exact ⟨v, by rw [List.getElem?_set_self (by rw [← r.len]; exact hi)], h⟩
  · rw [List.getElem?_set_ne (Ne.symm ne)]; exact r.slot j s e
theorem Rel.setUn {i : Nat} {x : Option V} (r : Rel K B g t σ H) : Rel K B g (t.set i .un) (σ.set i x) H := by
  refine ⟨r.base, r.sub, r.ff, r.old, r.ft, r.dm, r.there, by rw [List.length_set, List.length_set]; exact r.len, fun j s e => ?_⟩
  rcases getElem?_set_cases e with ⟨rfl, rfl, hl⟩ | ⟨ne, e⟩
  · trivial
  · rw [List.getElem?_set_ne (Ne.symm ne)]; exact r.slot j s e
/-- an object of nobody's is stored in slot i -/
theorem Rel.setO {i : Nat} {c : Cell} {v : V} (r : Rel K B g t σ H) (hi : i < t.length) (h : ResRel K B g H (.own c) v) :
    ∃ ow', Rel K B ⟨g.F, ow'⟩ (t.set i (.own c)) (σ.set i (some v)) H := by
  obtain ⟨a, fp, rfl, x, nd, o⟩ := h
  refine ⟨fun b => if b ∈ fp then some i else if g.ow b = some i then none else g.ow b, ⟨r.base, r.sub, fun b u e => ?_, fun b u e n => ⟨(r.old b u e n).1, ?_, (r.old b u e n).2.2⟩, r.ft, r.dm, fun b j e => ?_, by rw [List.length_set, List.length_set]; exact r.len, fun j s e => ?_⟩⟩
  · show (if b ∈ fp then some i else _) = none
    rw [if_neg (fun z => by rw [(o b z).2.1] at e; cases e), if_neg (by rw [r.ff b u e]; exact nofun)]; exact r.ff b u e
  · show (if b ∈ fp then some i else _) = none
    rw [if_neg (fun z => by rw [(o b z).2.2] at e; cases e), if_neg (by rw [(r.old b u e n).2.1]; exact nofun)]; exact (r.old b u e n).2.1
  · have e' : (if b ∈ fp then some i else if g.ow b = some i then none else g.ow b) = some j := e
    split at e'
    · rename_i hb; exact x.there b hb
    · split at e'
      · cases e'
      · exact r.there b j e'
  · rcases getElem?_set_cases e with ⟨rfl, rfl, hl⟩ | ⟨ne, e⟩
    · refine ⟨a, fp, by rw [List.getElem?_set_self (by rw [← r.len]; exact hi)], x, nd, fun b hb => ?_⟩
      show (if b ∈ fp then some j else _) = some j
      rw [if_pos hb]
    · rw [List.getElem?_set_ne (Ne.symm ne)]
      refine (r.slot j s e).up (fun _ _ z => z) fun b q => ⟨?_, rfl⟩
      show (if b ∈ fp then some i else if g.ow b = some i then none else g.ow b) = some j
      rw [if_neg (fun z => by rw [(o b z).1] at q; cases q), if_neg (by rw [q]; intro z; exact ne (Option.some.inj z))]; exact q
/-- slot i's own cell is frozen -/
theorem Rel.freezeSlot {i : Nat} {c : Cell} {d : D} (r : Rel K B g t σ H) (e : t[i]? = some (.own c)) (hd : c.d? = some d) :
    ∃ g' v, Same g.F g'.F ∧ Rel K B g' (t.set i (.v d)) σ H ∧ σ[i]? = some (some v) ∧ Rep K g'.F d v := by
  obtain ⟨a, fp, ea, x, nd, o⟩ := r.slot i _ e
  have r1 := r.disown (i := i) (s := .un) (fun c' z => by rw [e] at z; cases z) (fun _ => trivial)
  obtain ⟨F', sF, r2, rp⟩ := freeze_cell (g := ⟨g.F, fun a => if g.ow a = some i then none else g.ow a⟩) r1 x nd (fun b hb =>
    ⟨by show (if g.ow b = some i then none else g.ow b) = none; rw [if_pos (o b hb)], r.fNone (o b hb), r.fresh (o b hb)⟩) hd
  refine ⟨_, .ref a, sF, ⟨r2.base, r2.sub, r2.ff, r2.old, r2.ft, r2.dm, r2.there, by rw [List.length_set]; exact r.len, fun j s e' => ?_⟩, ea, rp⟩
  rcases getElem?_set_cases e' with ⟨rfl, rfl, hl⟩ | ⟨ne, e'⟩
  · exact ⟨_, ea, rp⟩
  · exact r2.slot j s (by rw [List.getElem?_set_ne (Ne.symm ne)]; exact e')
end
end TL
namespace TL
open PySem PySem.Spec PyProof.Rows L2
abbrev Pay := Option (List (Str × D))
/-- what is wanted of an exception: its class, its fields, the state -/
abbrev TX := String → Pay → TSt → Prop
abbrev noX : TX := fun _ _ _ => False
abbrev WE := TX → TSt → (R → TSt → Prop) → Prop
abbrev WT := TX → TSt → (Bool → TSt → Prop) → Prop
abbrev WA := TX → TSt → (List D → TSt → Prop) → Prop
structure TD where
  nx : TSt → Prop
  rt : R → TSt → Prop
  bk : TSt → Prop := fun _ => False
  ct : TSt → Prop := fun _ => False
abbrev WS := TX → TSt → TD → Prop
abbrev WG := D → TSt → (TSt → Prop) → Prop
inductive PayRel (K : PySem.W.Frag) (F : Hp) (H : Hp) : Pay → Option Addr → Prop
  | no : PayRel K F H none none
  | yes {a : Addr} {fs : List (Str × D)} {gs : List (Str × V)} : F a = some (.xd gs) → fs.map (·.1) = gs.map (·.1) → Reps K F (fs.map (·.2)) (gs.map (·.2)) → PayRel K F H (some fs) (some a)
def wxOf (K : PySem.W.Frag) (B : Base) (W : TX) : WX := fun cls d σ H => ∃ n, ClsN K n cls ∧ ∃ g t pay, Rel K B g t σ H ∧ PayRel K g.F H pay d ∧ W n pay t
def tOf (K : PySem.W.Frag) (B : Base) (m : TSt → (R → TSt → Prop) → Prop) : TE := fun σ H Q => ∃ g t P, Rel K B g t σ H ∧ m t P ∧
  ∀ r t', P r t' → ∀ g' v H', Same g.F g'.F → Rel K B g' t' σ H' → ResRel K B g' H' r v → Q v H'
def ttOf (K : PySem.W.Frag) (B : Base) (m : TSt → (Bool → TSt → Prop) → Prop) : TT := fun σ H Q => ∃ g t P, Rel K B g t σ H ∧ m t P ∧
  ∀ b t', P b t' → ∀ g' H', Same g.F g'.F → Rel K B g' t' σ H' → Q b H'
def taOf (K : PySem.W.Frag) (B : Base) (m : TSt → (List D → TSt → Prop) → Prop) : TA := fun σ H Q => ∃ g t P, Rel K B g t σ H ∧ m t P ∧
  ∀ ds t', P ds t' → ∀ g' vs H', Same g.F g'.F → Rel K B g' t' σ H' → Reps K g'.F ds vs → Q vs H'
def sOf (K : PySem.W.Frag) (B : Base) (m : TSt → TD → Prop) : TS := fun D σ H => ∃ g t P, Rel K B g t σ H ∧ m t P ∧
  (∀ t', P.nx t' → ∀ g' σ' H', Same g.F g'.F → Rel K B g' t' σ' H' → D.nx σ' H') ∧
  (∀ r t', P.rt r t' → ∀ g' σ' v H', Same g.F g'.F → Rel K B g' t' σ' H' → ResRel K B g' H' r v → D.rt v H') ∧
  (∀ t', P.bk t' → ∀ g' σ' H', Same g.F g'.F → Rel K B g' t' σ' H' → D.bk σ' H') ∧
  (∀ t', P.ct t' → ∀ g' σ' H', Same g.F g'.F → Rel K B g' t' σ' H' → D.ct σ' H')
/-- σ' is σ but for some slots -/
def Ag (gs : List Nat) (σ σ' : L2.St) : Prop := σ'.length = σ.length ∧ ∀ i, i ∉ gs → σ'[i]? = σ[i]?
theorem Ag.refl (gs : List Nat) (σ : L2.St) : Ag gs σ σ := ⟨rfl, fun _ _ => rfl⟩
theorem Ag.set {gs : List Nat} {σ : L2.St} {i : Nat} {x : Option V} (h : i ∈ gs) : Ag gs σ (σ.set i x) := ⟨List.length_set, fun j hj => List.getElem?_set_ne fun e => hj (by rw [← e]; exact h)⟩
theorem Ag.trans {gs hs : List Nat} {a b c : L2.St} (h : Ag gs a b) (k : Ag hs b c) : Ag (gs ++ hs) a c := ⟨k.1.trans h.1, fun i hi => (k.2 i fun z => hi (List.mem_append_right _ z)).trans (h.2 i fun z => hi (List.mem_append_left _ z))⟩
def gOf (K : PySem.W.Frag) (B : Base) (gs : List Nat) (m : WG) : TG := fun v σ H Q => ∃ g t d P, Rel K B g t σ H ∧ Rep K g.F d v ∧ m d t P ∧
  ∀ t', P t' → ∀ g' σ' H', Ag gs σ σ' → Same g.F g'.F → Rel K B g' t' σ' H' → Q σ' H'
def gsOf (K : PySem.W.Frag) (B : Base) (gs : List Nat) (m : List D → TSt → (TSt → Prop) → Prop) : TGs := fun vs σ H Q => ∃ g t ds P, Rel K B g t σ H ∧ Reps K g.F ds vs ∧ m ds t P ∧
  ∀ t', P t' → ∀ g' σ' H', Ag gs σ σ' → Same g.F g'.F → Rel K B g' t' σ' H' → Q σ' H'
def PET (B : Base) (X : Cx) (e : Expr) (w : WE) : Prop := ∀ W, L2N.Takes X (wxOf X.K B W) → PE X e (tOf X.K B (w W))
def PTT (B : Base) (X : Cx) (e : Expr) (w : WT) : Prop := ∀ W, L2N.Takes X (wxOf X.K B W) → PT X e (ttOf X.K B (w W))
def PWT (B : Base) (X : Cx) (e : Expr) (w : WT) : Prop := ∀ W, L2N.Takes X (wxOf X.K B W) → PW X e (ttOf X.K B (w W))
def PAT (B : Base) (X : Cx) (es : List Expr) (w : WA) : Prop := ∀ W, L2N.Takes X (wxOf X.K B W) → PA X es (taOf X.K B (w W))
def PST (B : Base) (X : Cx) (st : Stmt) (w : WS) : Prop := ∀ W, L2N.Takes X (wxOf X.K B W) → PS X st (sOf X.K B (w W))
def PSsT (B : Base) (X : Cx) (st : List Stmt) (w : WS) : Prop := ∀ W, L2N.Takes X (wxOf X.K B W) → PSs X st (sOf X.K B (w W))
def PGT (B : Base) (X : Cx) (e : Expr) (gs : List Nat) (w : WG) : Prop := PG X e (gOf X.K B gs w)
def PGsT (B : Base) (X : Cx) (es : List Expr) (gs : List Nat) (w : List D → TSt → (TSt → Prop) → Prop) : Prop := PGs X es (gsOf X.K B gs w)
theorem PE.imp {X : Cx} {e : Expr} {t t' : TE} (h : PE X e t) (i : ∀ σ H Q, t' σ H Q → t σ H Q) : PE X e t' := ⟨fun pins s σ H Q I q => h.run pins s σ H Q I (i σ H Q q)⟩
theorem PT.imp {X : Cx} {e : Expr} {t t' : TT} (h : PT X e t) (i : ∀ σ H Q, t' σ H Q → t σ H Q) : PT X e t' := ⟨fun pins s σ H Q I q => h.run pins s σ H Q I (i σ H Q q)⟩
theorem PW.imp {X : Cx} {e : Expr} {t t' : TT} (h : PW X e t) (i : ∀ σ H Q, t' σ H Q → t σ H Q) : PW X e t' := ⟨fun wh pins s σ H Q I q => h.run wh pins s σ H Q I (i σ H Q q)⟩
theorem PA.imp {X : Cx} {e : List Expr} {t t' : TA} (h : PA X e t) (i : ∀ σ H Q, t' σ H Q → t σ H Q) : PA X e t' := ⟨fun p pins s σ H Q I q => h.run p pins s σ H Q I (i σ H Q q)⟩
theorem PS.imp {X : Cx} {e : Stmt} {t t' : TS} (h : PS X e t) (i : ∀ D σ H, t' D σ H → t D σ H) : PS X e t' := ⟨fun pins s σ H D I q => h.run pins s σ H D I (i D σ H q)⟩
theorem PSs.imp {X : Cx} {e : List Stmt} {t t' : TS} (h : PSs X e t) (i : ∀ D σ H, t' D σ H → t D σ H) : PSs X e t' := ⟨fun pins s σ H D I q => h.run pins s σ H D I (i D σ H q)⟩
theorem PG.imp {X : Cx} {e : Expr} {t t' : TG} (h : PG X e t) (i : ∀ v σ H Q, t' v σ H Q → t v σ H Q) : PG X e t' := ⟨fun pins s σ H v u Q I r q => h.run pins s σ H v u Q I r (i v σ H Q q)⟩
theorem PGs.imp {X : Cx} {e : List Expr} {t t' : TGs} (h : PGs X e t) (i : ∀ v σ H Q, t' v σ H Q → t v σ H Q) : PGs X e t' := ⟨fun pins s σ H v u Q I r q => h.run pins s σ H v u Q I r (i v σ H Q q)⟩
theorem sRefl {H : Hp} : Same H H := fun _ _ z => z
def wVar (i : Nat) : WE := fun _ t Q => match t[i]? with
  | some (.v d) => Q (.v d) t
  | some (.own c) => match c.d? with
    | some d => Q (.v d) (t.set i (.v d))
    | none => False
  | _ => False
def wC (d : D) : WE := fun _ t Q => Q (.v d) t
/-- what a reading of a result as data is -/
def fz (r : R) (k : D → Prop) : Prop := match r.d? with
  | some d => k d
  | none => False
section
variable {B : Base} {X : Cx}
theorem T_var (i : Nat) {x : Str} {pos : Pos} (hN : X.N[i]? = some x := by rfl) (hv : Vis X.env.scope x := by first | exact Or.inl rfl | exact Or.inr (Or.inl rfl) | exact Or.inr (Or.inr rfl)) (hd : (x == ("__debug__" : Str)) = false := by rfl) (hcd : (x == ("__classdict__" : Str)) = false := by rfl) : PET B X (.Name x pos) (wVar i) := by
  refine fun W _ => PE.imp (pe_var hN hv hd hcd) fun σ H Q h => ?_
  obtain ⟨g, t, P, r, m, k⟩ := h
  unfold wVar at m
  split at m
  · rename_i d e
    obtain ⟨v, ev, rp⟩ := r.slot i _ e
    exact ⟨v, ev, k _ _ m g v H sRefl r rp⟩
  · rename_i c e
    split at m
    · rename_i d hd
      obtain ⟨g', v, sF, r', ev, rp⟩ := r.freezeSlot e hd
      exact ⟨v, ev, k _ _ m g' v H sF r' rp⟩
    · exact m.elim
  · exact m.elim
theorem T_c {e : Expr} {d : D} {v : V} (h : PE X e (tC v)) (r : ∀ F, Rep X.K F d v) : PET B X e (wC d) := by
  refine fun W _ => PE.imp h fun σ H Q h => ?_
  obtain ⟨g, t, P, r', m, k⟩ := h
  exact k _ _ m g v H sRefl r' (r _)
theorem T_int {i j pos} : PET B X (.Constant (.int i) j pos) (wC (.int i)) := T_c pe_int fun _ => .int _
theorem T_bl {i j pos} : PET B X (.Constant (.bool i) j pos) (wC (.bl i)) := T_c pe_bl fun _ => .bl _
theorem T_non {j pos} : PET B X (.Constant .none j pos) (wC .non) := T_c pe_non fun _ => .non
/-- a constant of the module -/
theorem T_glob {x : Str} {d : D} {v : V} {u : Value} {pos : Pos} (hg : Gl X x) (hm : X.mg x = some u) (r : RelV v u) (rp : ∀ F, Rep X.K F d v) (hd : (x == ("__debug__" : Str)) = false := by rfl) : PET B X (.Name x pos) (wC d) := T_c (pe_glob hg hm r hd) rp
end
def wBin (o : D → D → (R → Prop) → Prop) (a b : WE) : WE := fun W t Q => a W t fun r t1 => fz r fun x => b W t1 fun r' t2 => fz r' fun y => o x y fun z => Q z t2
/-- an operation on data, by what it does on values -/
def OpT (B : Base) (X : Cx) (f : Value → Value → Sem Value) (o : D → D → (R → Prop) → Prop) : Prop :=
  OpR X f fun x y H Q => ∃ g t σ dx dy P, Rel X.K B g t σ H ∧ RepH X.K g.F H dx x ∧ RepH X.K g.F H dy y ∧ o dx dy P ∧ ∀ r, P r → ∀ g' v H', Same g.F g'.F → Rel X.K B g' t σ H' → ResRel X.K B g' H' r v → Q v H'
section
variable {B : Base} {X : Cx} {a b : Expr} {wa wb : WE}
/-- the reading of two expressions in a row -/
theorem two {W : TX} {o : D → D → (R → Prop) → Prop} {r : R2} {σ : L2.St} {H : Hp} {Q : VK}
    (h : tOf X.K B (wBin o wa wb W) σ H Q)
    (ho : ∀ x y H Q g t dx dy P, Rel X.K B g t σ H → Rep X.K g.F dx x → Rep X.K g.F dy y → o dx dy P → (∀ r, P r → ∀ g' v H', Same g.F g'.F → Rel X.K B g' t σ H' → ResRel X.K B g' H' r v → Q v H') → r x y H Q) :
    tOp r (tOf X.K B (wa W)) (tOf X.K B (wb W)) σ H Q := by
  obtain ⟨g, t, P, rl, m, k⟩ := h
  refine ⟨g, t, _, rl, m, fun r1 t1 m1 g1 v1 H1 s1 rl1 rr1 => ?_⟩
  unfold fz at m1
  split at m1
  · rename_i dx hx
    obtain ⟨F2, s2, rl2, rp⟩ := rr1.freeze rl1 hx
    refine ⟨⟨F2, g1.ow⟩, t1, _, rl2, m1, fun r3 t3 m3 g3 v3 H3 s3 rl3 rr3 => ?_⟩
    split at m3
    · rename_i dy hy
      obtain ⟨F4, s4, rl4, rp4⟩ := rr3.freeze rl3 hy
      refine ho v1 v3 H3 Q ⟨F4, g3.ow⟩ t3 dx dy _ rl4 ((rp.up s3).up s4) rp4 m3 fun r5 m5 g5 v5 H5 s5 rl5 rr5 => ?_
      exact k _ _ m5 g5 v5 H5 (((s1.trans s2).trans (Same.trans s3 s4)).trans s5) rl5 rr5
    · exact m3.elim
  · exact m1.elim
theorem T_bin {op : Operator} {pos : Pos} {o : D → D → (R → Prop) → Prop} (ho : OpT B X (binaryOp op) o) (ha : PET B X a wa) (hb : PET B X b wb) : PET B X (.BinOp a op b pos) (wBin o wa wb) :=
  fun W tk => PE.imp (pe_op ho (ha W tk) (hb W tk)) fun σ H Q h => two h fun x y H Q g t dx dy P rl r1 r2 m k => ⟨g, t, σ, dx, dy, P, rl, .rep r1, .rep r2, m, k⟩
theorem T_cmp {op : CmpOp} {pos : Pos} {o : D → D → (R → Prop) → Prop} (ho : OpT B X (compareOp op) o) (ha : PET B X a wa) (hb : PET B X b wb) (hm : behindInMarks op b = false) : PET B X (.Compare a [op] [b] pos) (wBin o wa wb) :=
  fun W tk => PE.imp (pe_cmpR ho (ha W tk) (hb W tk) hm) fun σ H Q h => two h fun x y H Q g t dx dy P rl r1 r2 m k => ⟨g, t, σ, dx, dy, P, rl, .rep r1, .rep r2, m, k⟩
end
def rB (k : Bool → Prop) (r : R) : Prop := match r with
  | .v (.bl b) => k b
  | _ => False
/-- an expression whose value is True or False, as a test -/
def wTB (w : WE) : WT := fun W t Q => w W t fun r t1 => rB (fun b => Q b t1) r
section
variable {B : Base} {X : Cx} {a b : Expr} {wa wb : WE}
theorem rB_get {k : Bool → Prop} {r : R} (h : rB k r) : ∃ b, r = .v (.bl b) ∧ k b := by
  unfold rB at h
  split at h
  · exact ⟨_, rfl, h⟩
  · exact h.elim
theorem TT_cmp {op : CmpOp} {pos : Pos} {o : D → D → (R → Prop) → Prop} (ho : OpT B X (compareOp op) o) (ha : PET B X a wa) (hb : PET B X b wb) (hm : behindInMarks op b = false) : PTT B X (.Compare a [op] [b] pos) (wTB (wBin o wa wb)) := by
  refine fun W tk => PT.imp (pt_cmpR ho (ha W tk) (hb W tk) hm) fun σ H Q h => ?_
  obtain ⟨g, t, P, rl, m, k⟩ := h
  refine two (W := W) (o := o) ⟨g, t, _, rl, m, fun r1 t1 m1 g1 v1 H1 s1 rl1 rr1 => ?_⟩ fun x y H Q g t dx dy P rl r1 r2 m k => ⟨g, t, σ, dx, dy, P, rl, .rep r1, .rep r2, m, k⟩
  obtain ⟨b, rfl, m1⟩ := rB_get m1
  cases (show Rep X.K g1.F (.bl b) v1 from rr1)
  exact ⟨b, rfl, k _ _ m1 g1 H1 s1 rl1⟩
end
def Cell.p? : Cell → Option D
  | .lst l => some (.lst l)
  | .dct kk l => some (.dct kk l)
  | .ins _ _ => none
def peek (t : TSt) (i : Nat) : Option D := match t[i]? with
  | some (.v d) => some d
  | some (.own c) => c.p?
  | some (.bor c) => c.p?
  | _ => none
theorem cell_repH {K : PySem.W.Frag} {F H : Hp} {c : Cell} {a : Addr} {fp : List Addr} {d : D} (h : CellRel K F H c a fp) (e : c.p? = some d) : RepH K F H d (.ref a) := by
  cases h with
  | lst e' r => cases e; exact .lst e' r
  | dK e' r => cases e; exact .dctK e' r
  | dT e' r => cases e; exact .dctT e' r
  | ins _ _ _ _ _ => cases e
theorem peek_at {K : PySem.W.Frag} {B : Base} {g : Gh} {t : TSt} {σ : L2.St} {H : Hp} {i : Nat} {d : D} (rl : Rel K B g t σ H) (h : peek t i = some d) : ∃ v, σ[i]? = some (some v) ∧ RepH K g.F H d v := by
  unfold peek at h
  split at h
  · rename_i d' e
    cases h
    obtain ⟨v, ev, r⟩ := rl.slot i _ e
    exact ⟨v, ev, .rep r⟩
  · rename_i c e
    obtain ⟨a, fp, ev, cr, _⟩ := rl.slot i _ e
    exact ⟨_, ev, cell_repH cr h⟩
  · rename_i c e
    obtain ⟨a, fp, ev, _, cr, _⟩ := rl.slot i _ e
    exact ⟨_, ev, cell_repH cr h⟩
  · cases h
def pk (t : TSt) (i : Nat) (k : D → Prop) : Prop := match peek t i with
  | some d => k d
  | none => False
def wBinK (o : D → D → (R → Prop) → Prop) (a : WE) (i : Nat) : WE := fun W t Q => a W t fun r t1 => fz r fun x => pk t1 i fun y => o x y fun z => Q z t1
section
variable {B : Base} {X : Cx} {a b : Expr} {wa wb : WE}
theorem twoK {W : TX} {o : D → D → (R → Prop) → Prop} {r : R2} {σ : L2.St} {H : Hp} {Q : VK} {i : Nat}
    (h : tOf X.K B (wBinK o wa i W) σ H Q)
    (ho : ∀ x y H Q g t dx dy P, Rel X.K B g t σ H → RepH X.K g.F H dx x → RepH X.K g.F H dy y → o dx dy P → (∀ r, P r → ∀ g' v H', Same g.F g'.F → Rel X.K B g' t σ H' → ResRel X.K B g' H' r v → Q v H') → r x y H Q) :
    tOp r (tOf X.K B (wa W)) (tVar i) σ H Q := by
  obtain ⟨g, t, P, rl, m, k⟩ := h
  refine ⟨g, t, _, rl, m, fun r1 t1 m1 g1 v1 H1 s1 rl1 rr1 => ?_⟩
  unfold fz at m1
  split at m1
  · rename_i dx hx
    obtain ⟨F2, s2, rl2, rp⟩ := rr1.freeze rl1 hx
    unfold pk at m1
    split at m1
    · rename_i dy hy
      obtain ⟨u, hu, ry⟩ := peek_at rl2 hy
      refine ⟨u, hu, ho v1 u H1 Q ⟨F2, g1.ow⟩ t1 dx dy _ rl2 (.rep rp) ry m1 fun r5 m5 g5 v5 H5 s5 rl5 rr5 => ?_⟩
      exact k _ _ m5 g5 v5 H5 ((s1.trans s2).trans s5) rl5 rr5
    · exact m1.elim
  · exact m1.elim
theorem T_cmpK (i : Nat) {op : CmpOp} {pos pos' : Pos} {x : Str} {o : D → D → (R → Prop) → Prop} (ho : OpT B X (compareOp op) o) (ha : PET B X a wa) (hm : behindInMarks op (.Name x pos') = false) (hN : X.N[i]? = some x := by rfl) (hv : Vis X.env.scope x := by first | exact Or.inl rfl | exact Or.inr (Or.inl rfl) | exact Or.inr (Or.inr rfl)) (hd : (x == ("__debug__" : Str)) = false := by rfl) (hcd : (x == ("__classdict__" : Str)) = false := by rfl) : PET B X (.Compare a [op] [.Name x pos'] pos) (wBinK o wa i) :=
  fun W tk => PE.imp (pe_cmpR ho (ha W tk) (pe_var hN hv hd hcd) hm) fun σ H Q h => twoK h fun x y H Q g t dx dy P rl r1 r2 m k => ⟨g, t, σ, dx, dy, P, rl, r1, r2, m, k⟩
end
end TL
namespace TL
open PySem PySem.Spec PyProof.Rows L2
def truD (k : Bool → Prop) : D → Prop
  | .non => k false
  | .bl b => k b
  | .int i => k (i != 0)
  | .str x => x.length ≤ sizeLine ∧ k ((x.length : Int) != 0)
  | .tup l => k (!l.isEmpty)
  | .lst l => k (!l.isEmpty)
  | .scr l => k (!l.isEmpty)
  | _ => False
/-- any expression as a test -/
def wTru (w : WE) : WT := fun W t Q => w W t fun r t1 => fz r fun d => truD (fun b => Q b t1) d
theorem Reps.isEmpty {K : PySem.W.Frag} {F : Hp} {ds : List D} {vs : List V} (r : Reps K F ds vs) : vs.isEmpty = ds.isEmpty := by cases r <;> rfl
theorem Reps.length {K : PySem.W.Frag} {F : Hp} : ∀ {ds : List D} {vs : List V}, Reps K F ds vs → vs.length = ds.length
  | _, _, .nil => rfl
  | _, _, .cons _ r => congrArg (· + 1) (Reps.length r)
section
variable {B : Base} {X : Cx} {a b c e : Expr} {wa wb we : WE} {wc wd : WT} {pos : Pos} {rest : List Expr}
theorem truV_of {g : Gh} {t : TSt} {σ : L2.St} {H : Hp} {d : D} {v : V} {k : Bool → Prop} (rl : Rel X.K B g t σ H) (rp : Rep X.K g.F d v) (h : truD k d) : ∃ q, TruV X.K v H q ∧ k q := by
  cases rp with
  | non => exact ⟨_, rfl, h⟩
  | bl b => exact ⟨_, rfl, h⟩
  | int i => exact ⟨_, rfl, h⟩
  | str x => exact ⟨_, ⟨h.1, rfl⟩, h.2⟩
  | tup s r => exact ⟨_, .inr (.inl ⟨_, .inl (.inl (rl.sub _ _ s)), rfl⟩), by rw [r.isEmpty]; exact h⟩
  | lst s r => exact ⟨_, .inl ⟨_, .inl (.inl (rl.sub _ _ s)), rfl⟩, by rw [r.isEmpty]; exact h⟩
  | scr s r => exact ⟨_, .inl ⟨_, SqL.up rl.sub s, rfl⟩, by rw [r.isEmpty]; exact h⟩
  | ty _ => exact h.elim
  | ref => exact h.elim
  | exc _ _ => exact h.elim
  | exp _ _ _ => exact h.elim
  | xtp _ _ => exact h.elim
  | cl _ => exact h.elim
  | obj _ _ _ _ _ => exact h.elim
  | dctK _ _ => exact h.elim
  | dctT _ _ => exact h.elim
theorem TT_tru (ha : PET B X a wa) (he : ∀ whole, isTrue a X.env whole = (do let v ← whole; standAt a.pos; holding [v] (truthy v)) := by intro _; rfl) : PTT B X a (wTru wa) := by
  refine fun W tk => PT.imp (pt_truth (ha W tk) he) fun σ H Q h => ?_
  obtain ⟨g, t, P, rl, m, k⟩ := h
  refine ⟨g, t, _, rl, m, fun r1 t1 m1 g1 v1 H1 s1 rl1 rr1 => ?_⟩
  unfold fz at m1
  split at m1
  · rename_i dx hx
    obtain ⟨F2, s2, rl2, rp⟩ := rr1.freeze rl1 hx
    obtain ⟨q, e1, e2⟩ := truV_of rl2 rp m1
    exact ⟨q, e1, k _ _ e2 ⟨F2, g1.ow⟩ H1 (s1.trans s2) rl2⟩
  · exact m1.elim
def wAnd (c d : WT) : WT := fun W t Q => c W t fun b t1 => if b = true then d W t1 Q else Q false t1
def wOr (c d : WT) : WT := fun W t Q => c W t fun b t1 => if b = true then Q true t1 else d W t1 Q
def wNot (c : WT) : WT := fun W t Q => c W t fun b t1 => Q (!b) t1
theorem TW_and1 (ha : PTT B X a wc) : PWT B X (.BoolOp .And [a] pos) wc := fun W tk => pw_and1 (ha W tk)
theorem TW_or1 (ha : PTT B X a wc) : PWT B X (.BoolOp .Or [a] pos) wc := fun W tk => pw_or1 (ha W tk)
theorem TW_and (ha : PTT B X a wc) (hb : PWT B X (.BoolOp .And (b :: rest) pos) wd) : PWT B X (.BoolOp .And (a :: b :: rest) pos) (wAnd wc wd) := by
  refine fun W tk => PW.imp (pw_and (ha W tk) (hb W tk)) fun σ H Q h => ?_
  obtain ⟨g, t, P, rl, m, k⟩ := h
  refine ⟨g, t, _, rl, m, fun r1 t1 m1 g1 H1 s1 rl1 => ?_⟩
  cases r1 with
  | true => exact iteT ⟨g1, t1, P, rl1, (show wd W t1 P from m1), fun b t2 m2 g2 H2 s2 rl2 => k b t2 m2 g2 H2 (s1.trans s2) rl2⟩
  | false => exact iteF (k _ _ (show P false t1 from m1) g1 H1 s1 rl1)
theorem TW_or (ha : PTT B X a wc) (hb : PWT B X (.BoolOp .Or (b :: rest) pos) wd) : PWT B X (.BoolOp .Or (a :: b :: rest) pos) (wOr wc wd) := by
  refine fun W tk => PW.imp (pw_or (ha W tk) (hb W tk)) fun σ H Q h => ?_
  obtain ⟨g, t, P, rl, m, k⟩ := h
  refine ⟨g, t, _, rl, m, fun r1 t1 m1 g1 H1 s1 rl1 => ?_⟩
  cases r1 with
  | true => exact iteT (k _ _ (show P true t1 from m1) g1 H1 s1 rl1)
  | false => exact iteF ⟨g1, t1, P, rl1, (show wd W t1 P from m1), fun b t2 m2 g2 H2 s2 rl2 => k b t2 m2 g2 H2 (s1.trans s2) rl2⟩
theorem TT_w (h : PWT B X a wc) : PTT B X a wc := fun W tk => (h W tk).pt
theorem TT_not (ha : PTT B X a wc) : PTT B X (.UnaryOp .Not a pos) (wNot wc) := by
  refine fun W tk => PT.imp (pt_not (ha W tk)) fun σ H Q h => ?_
  obtain ⟨g, t, P, rl, m, k⟩ := h
  exact ⟨g, t, _, rl, m, fun r1 t1 m1 g1 H1 s1 rl1 => k _ _ m1 g1 H1 s1 rl1⟩
/-- .. as values: what is not the last is True or False -/
def wAndV (a b : WE) : WE := fun W t Q => a W t fun r t1 => rB (fun c => if c = true then b W t1 Q else Q (.v (.bl false)) t1) r
def wOrV (a b : WE) : WE := fun W t Q => a W t fun r t1 => rB (fun c => if c = true then Q (.v (.bl true)) t1 else b W t1 Q) r
theorem T_one {op : BoolOp} (ha : PET B X a wa) : PET B X (.BoolOp op [a] pos) wa := fun W tk => pe_one (ha W tk)
theorem T_and (ha : PET B X a wa) (hb : PET B X (.BoolOp .And (b :: rest) pos) wb) : PET B X (.BoolOp .And (a :: b :: rest) pos) (wAndV wa wb) := by
  refine fun W tk => PE.imp (pe_and (ha W tk) (hb W tk)) fun σ H Q h => ?_
  obtain ⟨g, t, P, rl, m, k⟩ := h
  refine ⟨g, t, _, rl, m, fun r1 t1 m1 g1 v1 H1 s1 rl1 rr1 => ?_⟩
  obtain ⟨b, rfl, m1⟩ := rB_get m1
  cases (show Rep X.K g1.F (.bl b) v1 from rr1)
  cases b with
  | true => exact ⟨true, rfl, iteT ⟨g1, t1, P, rl1, (show wb W t1 P from m1), fun r t2 m2 g2 v2 H2 s2 rl2 rr2 => k r t2 m2 g2 v2 H2 (s1.trans s2) rl2 rr2⟩⟩
  | false => exact ⟨false, rfl, iteF (k _ _ (show P (.v (.bl false)) t1 from m1) g1 _ H1 s1 rl1 (.bl false))⟩
/-- not of any value -/
def wNotT (a : WE) : WE := fun W t Q => a W t fun r t1 => fz r fun d => truD (fun c => Q (.v (.bl (!c))) t1) d
theorem T_notT (ha : PET B X a wa) : PET B X (.UnaryOp .Not a pos) (wNotT wa) := by
  refine fun W tk => PE.imp (pe_notT (ha W tk)) fun σ H Q h => ?_
  obtain ⟨g, t, P, rl, m, k⟩ := h
  refine ⟨g, t, _, rl, m, fun r1 t1 m1 g1 v1 H1 s1 rl1 rr1 => ?_⟩
  unfold fz at m1
  split at m1
  · rename_i dx hx
    obtain ⟨F2, s2, rl2, rp⟩ := rr1.freeze rl1 hx
    obtain ⟨q, e1, e2⟩ := truV_of rl2 rp m1
    exact ⟨q, e1, k _ _ e2 ⟨F2, g1.ow⟩ _ H1 (s1.trans s2) rl2 (.bl _)⟩
  · exact m1.elim
def wIte (c : WT) (a b : WE) : WE := fun W t Q => c W t fun k t1 => if k = true then a W t1 Q else b W t1 Q
theorem T_ite (hc : PTT B X c wc) (ha : PET B X a wa) (hb : PET B X b wb) : PET B X (.IfExp c a b pos) (wIte wc wa wb) := by
  refine fun W tk => PE.imp (pe_ifExp (hc W tk) (ha W tk) (hb W tk)) fun σ H Q h => ?_
  obtain ⟨g, t, P, rl, m, k⟩ := h
  refine ⟨g, t, _, rl, m, fun r1 t1 m1 g1 H1 s1 rl1 => ?_⟩
  cases r1 with
  | true => exact iteT ⟨g1, t1, P, rl1, (show wa W t1 P from m1), fun r t2 m2 g2 v2 H2 s2 rl2 rr2 => k r t2 m2 g2 v2 H2 (s1.trans s2) rl2 rr2⟩
  | false => exact iteF ⟨g1, t1, P, rl1, (show wb W t1 P from m1), fun r t2 m2 g2 v2 H2 s2 rl2 rr2 => k r t2 m2 g2 v2 H2 (s1.trans s2) rl2 rr2⟩
end
def wNext : WS := fun _ t D => D.nx t
def wSeq (a b : WS) : WS := fun W t D => a W t { D with nx := fun t1 => b W t1 D }
def wDrop (a : WE) : WS := fun W t D => a W t fun _ t1 => D.nx t1
def wRet (a : WE) : WS := fun W t D => a W t D.rt
def wBrk : WS := fun _ t D => D.bk t
def wCnt : WS := fun _ t D => D.ct t
def wIf (c : WT) (a b : WS) : WS := fun W t D => c W t fun k t1 => if k = true then a W t1 D else b W t1 D
def wNever : WS := fun _ _ _ => False
/-- the value goes into slot i -/
def stR (i : Nat) (r : R) (t : TSt) (k : TSt → Prop) : Prop := match t[i]? with
  | some (.bor _) => False
  | none => False
  | _ => match r with
    | .v d => k (t.set i (.v d))
    | .own c => k (t.set i (.own c))
def wSet (i : Nat) (a : WE) : WS := fun W t D => a W t fun r t1 => stR i r t1 D.nx
/-- name op= e -/
def wAug (i : Nat) (o : D → D → (R → Prop) → Prop) (a : WE) : WS := fun W t D => match t[i]? with
  | some (.v x) => a W t fun r t1 => fz r fun y => o x y fun z => stR i z t1 D.nx
  | _ => False
section
variable {B : Base} {X : Cx} {e c : Expr} {w : WE} {wc : WT} {st : Stmt} {sts sts' : List Stmt} {u v : WS} {pos : Pos}
theorem Rel.set {K : PySem.W.Frag} {g : Gh} {t : TSt} {σ : L2.St} {H : Hp} {i : Nat} {r : R} {x : V} {k : TSt → Prop} (rl : Rel K B g t σ H) (rr : ResRel K B g H r x) (h : stR i r t k) :
    ∃ ow' t', k t' ∧ Rel K B ⟨g.F, ow'⟩ t' (σ.set i (some x)) H := by
  have hi : i < t.length ∧ ∀ c, t[i]? ≠ some (.bor c) := by
    unfold stR at h
    split at h
    · exact h.elim
    · exact h.elim
    · rename_i h1 h2
      constructor
      · rcases Nat.lt_or_ge i t.length with z | z
        · exact z
        · exact absurd (List.getElem?_eq_none z) h2
      · intro c e; exact h1 c e
  cases r with
  | v d =>
    have h' : k (t.set i (.v d)) := by
      unfold stR at h
      split at h
      · exact h.elim
      · exact h.elim
      · exact h
    exact ⟨g.ow, _, h', rl.setV hi.1 hi.2 rr⟩
  | own c =>
    have h' : k (t.set i (.own c)) := by
      unfold stR at h
      split at h
      · exact h.elim
      · exact h.elim
      · exact h
    obtain ⟨ow', r'⟩ := rl.setO hi.1 rr
    exact ⟨ow', _, h', r'⟩
theorem S_nil : PSsT B X [] wNext := fun W tk => PSs.imp pss_nil fun D σ H h => by
  obtain ⟨g, t, P, rl, m, k, _⟩ := h
  exact k _ m g σ H sRefl rl
theorem S_one (h : PST B X st u) : PSsT B X [st] u := fun W tk => pss_one (h W tk)
theorem S_seq (h1 : PST B X st u) (h2 : PSsT B X sts v) : PSsT B X (st :: sts) (wSeq u v) := fun W tk => PSs.imp (pss_cons (h1 W tk) (h2 W tk)) fun D σ H h => by
  obtain ⟨g, t, P, rl, m, k1, k2, k3, k4⟩ := h
  refine ⟨g, t, _, rl, m, fun t1 m1 g1 σ1 H1 s1 rl1 => ?_, k2, k3, k4⟩
  exact ⟨g1, t1, P, rl1, m1, fun t2 m2 g2 σ2 H2 s2 rl2 => k1 t2 m2 g2 σ2 H2 (s1.trans s2) rl2, fun r t2 m2 g2 σ2 v2 H2 s2 rl2 rr2 => k2 r t2 m2 g2 σ2 v2 H2 (s1.trans s2) rl2 rr2,
    fun t2 m2 g2 σ2 H2 s2 rl2 => k3 t2 m2 g2 σ2 H2 (s1.trans s2) rl2, fun t2 m2 g2 σ2 H2 s2 rl2 => k4 t2 m2 g2 σ2 H2 (s1.trans s2) rl2⟩
theorem S_drop (h : PET B X e w) (hs : swapsWith e none pos.line X.env = pure false := by rfl) : PST B X (.Expr e pos) (wDrop w) := fun W tk => PS.imp (ps_expr (h W tk) hs) fun D σ H h => by
  obtain ⟨g, t, P, rl, m, k, _⟩ := h
  exact ⟨g, t, _, rl, m, fun r1 t1 m1 g1 v1 H1 s1 rl1 _ => k _ m1 g1 σ H1 s1 rl1⟩
theorem S_if (hc : PTT B X c wc) (ha : PSsT B X sts u) (hb : PSsT B X sts' v) : PST B X (.If c sts sts' pos) (wIf wc u v) := fun W tk => PS.imp (ps_if (hc W tk) (ha W tk) (hb W tk)) fun D σ H h => by
  obtain ⟨g, t, P, rl, m, k1, k2, k3, k4⟩ := h
  refine ⟨g, t, _, rl, m, fun b t1 m1 g1 H1 s1 rl1 => ?_⟩
  have kk : ∀ w : WS, w W t1 P → sOf X.K B (w W) D σ H1 := fun w m1 => ⟨g1, t1, P, rl1, m1, fun t2 m2 g2 σ2 H2 s2 rl2 => k1 t2 m2 g2 σ2 H2 (s1.trans s2) rl2, fun r t2 m2 g2 σ2 v2 H2 s2 rl2 rr2 => k2 r t2 m2 g2 σ2 v2 H2 (s1.trans s2) rl2 rr2,
    fun t2 m2 g2 σ2 H2 s2 rl2 => k3 t2 m2 g2 σ2 H2 (s1.trans s2) rl2, fun t2 m2 g2 σ2 H2 s2 rl2 => k4 t2 m2 g2 σ2 H2 (s1.trans s2) rl2⟩
  cases b with
  | true => exact iteT (kk u m1)
  | false => exact iteF (kk v m1)
theorem S_set (i : Nat) {x : Str} {pos' : Pos} (hN : X.N.Nodup) (h : PET B X e w) (hi : X.N[i]? = some x := by rfl) (hx : Loc X.env.scope x := by first | exact Or.inl rfl | exact Or.inr rfl) (hs : swapsWith e (some (.Name x pos')) pos.line X.env = pure false := by rfl)
    (hf : X.fn x = true ∨ X.env.scope.names.lookup x = some .local := by first | exact .inl rfl | exact .inr rfl) : PST B X (.Assign [.Name x pos'] e pos) (wSet i w) := fun W tk => PS.imp (ps_set hN hi hx (h W tk) hs hf) fun D σ H h => by
  obtain ⟨g, t, P, rl, m, k, _⟩ := h
  refine ⟨g, t, _, rl, m, fun r1 t1 m1 g1 v1 H1 s1 rl1 rr1 => ?_⟩
  obtain ⟨ow', t', m2, rl2⟩ := rl1.set rr1 m1
  exact k _ m2 ⟨g1.F, ow'⟩ _ H1 s1 rl2
theorem S_aug (i : Nat) {x : Str} {op : Operator} {pos' : Pos} {o : D → D → (R → Prop) → Prop} (hN : X.N.Nodup) (ho : OpT B X (inplaceOp op) o) (h : PET B X e w) (hi : X.N[i]? = some x := by rfl) (hx : Loc X.env.scope x := by first | exact Or.inl rfl | exact Or.inr rfl)
    (hf : X.fn x = true ∨ X.env.scope.names.lookup x = some .local := by first | exact .inl rfl | exact .inr rfl) : PST B X (.AugAssign (.Name x pos') op e pos) (wAug i o w) := fun W tk => PS.imp (ps_aug hN hi hx (h W tk) (ti := _) ho hf) fun D σ H h => by
  obtain ⟨g, t, P, rl, m, k, _⟩ := h
  unfold wAug at m
  split at m
  · rename_i dx e1
    obtain ⟨v, ev, rp⟩ := rl.slot i _ e1
    refine ⟨v, ev, g, t, _, rl, m, fun r1 t1 m1 g1 v1 H1 s1 rl1 rr1 => ?_⟩
    unfold fz at m1
    split at m1
    · rename_i dy hy
      obtain ⟨F2, s2, rl2, rp2⟩ := rr1.freeze rl1 hy
      refine ⟨⟨F2, g1.ow⟩, t1, σ, dx, dy, _, rl2, .rep ((rp.up s1).up s2), .rep rp2, m1, fun r3 m3 g3 v3 H3 s3 rl3 rr3 => ?_⟩
      obtain ⟨ow', t', m4, rl4⟩ := rl3.set rr3 m3
      exact k _ m4 ⟨g3.F, ow'⟩ _ H3 ((s1.trans s2).trans s3) rl4
    · exact m1.elim
  · exact m.elim
end
end TL
namespace TL
open PySem PySem.Spec PyProof.Rows L2
/-- the turns give the data ds one by one -/
structure Follows (K : PySem.W.Frag) (F0 : Hp) (J : It) (ds : List D) : Prop where
  go : ∀ (B : Base) (i : Nat) (g : Gh) (t : TSt) (σ : L2.St) (H : Hp), i < ds.length → Same F0 g.F → Rel K B g t σ H → J.go i H
  yld : ∀ (B : Base) (i : Nat) (d : D) (g : Gh) (t : TSt) (σ : L2.St) (H : Hp) (x : V) (H' : Hp), ds[i]? = some d → Same F0 g.F → Rel K B g t σ H → J.yld i H x H' → ∃ g', Same g.F g'.F ∧ Rel K B g' t σ H' ∧ Rep K g'.F d x
  stop : ∀ (B : Base) (i : Nat) (g : Gh) (t : TSt) (σ : L2.St) (H : Hp), ds.length ≤ i → Same F0 g.F → Rel K B g t σ H → J.stop i H
abbrev WI := TX → TSt → (List D → TSt → Prop) → Prop
def iOf (K : PySem.W.Frag) (B : Base) (m : TSt → (List D → TSt → Prop) → Prop) : TI := fun σ H R => ∃ g t P, Rel K B g t σ H ∧ m t P ∧
  ∀ ds t', P ds t' → ∀ g' H' J, Same g.F g'.F → Rel K B g' t' σ H' → Follows K g'.F J ds → R J H'
def PIT (B : Base) (X : Cx) (tg iter : Expr) (w : WI) : Prop := ∀ W, L2N.Takes X (wxOf X.K B W) → PI X tg iter (iOf X.K B (w W))
theorem PI.imp {X : Cx} {tg e : Expr} {t t' : TI} (h : PI X tg e t) (i : ∀ σ H Q, t' σ H Q → t σ H Q) : PI X tg e t' := ⟨fun pins s σ H Q I q => h.run pins s σ H Q I (i σ H Q q)⟩
/-- the items of a list or tuple -/
def signs (x : Str) : List D := x.cps.toList.map fun c => .str ⟨#[c]⟩
def itD (k : List D → Prop) : D → Prop
  | .tup l => k l
  | .lst l => k l
  | .scr l => k l
  | .xtp l => k l
  | .str x => k (signs x)
  | _ => False
def wItS (a : WE) : WI := fun W t Q => a W t fun r t1 => fz r fun d => itD (fun l => Q l t1) d
theorem Reps.get {K : PySem.W.Frag} {F : Hp} : ∀ {ds : List D} {vs : List V} {i : Nat} {d : D}, Reps K F ds vs → ds[i]? = some d → ∃ v, vs[i]? = some v ∧ Rep K F d v
  | _, _, _, _, .nil, e => by simp at e
  | _, _, 0, _, .cons r _, e => by simp at e; subst e; exact ⟨_, rfl, r⟩
  | _, _, i + 1, d, .cons _ t, e => by
    obtain ⟨u, h1, h2⟩ := Reps.get (i := i) (d := d) t (by simpa using e)
    exact ⟨u, by simpa using h1, h2⟩
section
variable {B : Base} {X : Cx} {tg e : Expr} {w : WE} {pos p : Pos}
theorem follows_list {K : PySem.W.Frag} {F0 : Hp} {a : Addr} {ds : List D} {vs : List V} (h : SqL K F0 a vs) (r : Reps K F0 ds vs) : Follows K F0 (Itl K a) ds where
  go := fun B i g t σ H hi s rl => by
    obtain ⟨v, hv, _⟩ := r.get (List.getElem?_eq_getElem hi)
    exact ⟨vs, v, SqL.up rl.sub (SqL.up s h), hv⟩
  yld := fun B i d g t σ H x H' hi s rl hy => by
    obtain ⟨rfl, hx⟩ := hy
    obtain ⟨v, hv, rv⟩ := r.get hi
    have := (hx vs (SqL.up rl.sub (SqL.up s h))).symm.trans hv
    cases this
    exact ⟨g, sRefl, rl, rv.up s⟩
  stop := fun B i g t σ H hi s rl => ⟨vs, SqL.up rl.sub (SqL.up s h), by rw [r.length]; exact hi⟩
theorem follows_tup {K : PySem.W.Frag} {F0 : Hp} {a : Addr} {ds : List D} {vs : List V} (h : SqT K F0 a vs) (r : Reps K F0 ds vs) : Follows K F0 (Itt K a) ds where
  go := fun B i g t σ H hi s rl => by
    obtain ⟨v, hv, _⟩ := r.get (List.getElem?_eq_getElem hi)
    exact ⟨vs, v, SqT.up rl.sub (SqT.up s h), hv⟩
  yld := fun B i d g t σ H x H' hi s rl hy => by
    obtain ⟨rfl, hx⟩ := hy
    obtain ⟨v, hv, rv⟩ := r.get hi
    have := (hx vs (SqT.up rl.sub (SqT.up s h))).symm.trans hv
    cases this
    exact ⟨g, sRefl, rl, rv.up s⟩
  stop := fun B i g t σ H hi s rl => ⟨vs, SqT.up rl.sub (SqT.up s h), by rw [r.length]; exact hi⟩
/-- the object at which a value stands, walked: a list, a tuple, a text -/
def iSeq (K : PySem.W.Frag) (te : TE) : TI := fun σ H R => te σ H fun x H1 => (∃ a xs, x = .ref a ∧ SqL K H1 a xs ∧ R (Itl K a) H1) ∨ (∃ a xs, x = .ref a ∧ SqT K H1 a xs ∧ R (Itt K a) H1) ∨ ∃ y, x = .str y ∧ R (Its y) H1
theorem fp_new {pins : List (Addr × Obj)} {σ : L2.St} {H : Hp} {s : Shared} (I : Inv X pins σ H s) : ∀ b ∈ [s.heap.objs.size], FpOk X pins H b := fun b hb => by
  rw [List.mem_singleton.mp hb]
  exact I.fpOk (Nat.le_refl _) (I.hok.fresh (Nat.le_refl _))
theorem pi_seq {te : TE} (h : PE X e te) : PI X tg e (iSeq X.K te) := by
  refine ⟨fun pins s σ H R I q => ?_⟩
  refine thn (h.run pins s σ H _ I q) ?_
  rintro v s1 ⟨x, H1, I1, r1, ⟨a, xs, rfl, hx, q1⟩ | ⟨a, xs, rfl, hx, q1⟩ | ⟨y, rfl, q1⟩⟩
  · cases r1
    obtain ⟨its, _, pl, _⟩ := I1.list hx
    exact wpAny_pyIter_list pl.isList ⟨_, _, _, _, H1, rfl, I1.kept (t' := s1.toks) fun b o z => Heap.get?_push_of_some _ z, turn_list a _, ⟨_, Heap.get?_push_size _ rfl, rfl, rfl⟩, fp_new I1, q1⟩
  · cases r1
    obtain ⟨its, _, pl, _⟩ := I1.tuple hx
    exact wpAny_pyIter_tuple (show s1.heap.IsTuple a its.toArray from pl) ⟨_, _, _, _, H1, rfl, I1.kept (t' := s1.toks) fun b o z => Heap.get?_push_of_some _ z, turn_tuple a _, ⟨_, Heap.get?_push_size _ rfl, rfl, rfl⟩, fp_new I1, q1⟩
  · obtain ⟨t, rfl⟩ := r1
    by_cases ha : y.cps.all (· < 128) = true
    · exact wpAny_pyIter_ascii ha (pi_one (tk := s1.toks) I1 _ (turn_str _ y t _ (.inl rfl)) ⟨_, Heap.get?_push_size _ rfl, rfl, rfl⟩ q1)
    · exact wpAny_pyIter_wide (by simpa using ha) (pi_one (tk := s1.toks) I1 _ (turn_str _ y t _ (.inr rfl)) ⟨_, Heap.get?_push_size _ rfl, rfl, rfl⟩ q1)
theorem follows_str {K : PySem.W.Frag} {F0 : Hp} {x : Str} : Follows K F0 (Its x) (signs x) where
  go := fun B i g t σ H hi s rl => by
    have h2 : i < x.cps.size := by simpa [signs] using hi
    exact h2
  yld := fun B i d g t σ H y H' hi s rl hy => by
    obtain ⟨rfl, c, hc, rfl⟩ := hy
    refine ⟨g, sRefl, rl, ?_⟩
    unfold signs at hi
    rw [List.getElem?_map, Array.getElem?_toList, hc] at hi
    cases hi
    exact .str _
  stop := fun B i g t σ H hi s rl => by
    have h2 : x.cps.size ≤ i := by simpa [signs] using hi
    exact h2
theorem IT_seq (h : PET B X e w) : PIT B X tg e (wItS w) := by
  refine fun W tk => PI.imp (pi_seq (h W tk)) fun σ H R q => ?_
  obtain ⟨g, t, P, rl, m, k⟩ := q
  refine ⟨g, t, _, rl, m, fun r1 t1 m1 g1 v1 H1 s1 rl1 rr1 => ?_⟩
  unfold fz at m1
  split at m1
  · rename_i dx hx
    obtain ⟨F2, s2, rl2, rp⟩ := rr1.freeze rl1 hx
    cases rp with
    | tup hs rs => exact .inr (.inl ⟨_, _, rfl, .inl (.inl (rl2.sub _ _ hs)), k _ _ m1 ⟨F2, g1.ow⟩ H1 _ (s1.trans s2) rl2 (follows_tup (.inl (.inl hs)) rs)⟩)
    | lst hs rs => exact .inl ⟨_, _, rfl, .inl (.inl (rl2.sub _ _ hs)), k _ _ m1 ⟨F2, g1.ow⟩ H1 _ (s1.trans s2) rl2 (follows_list (.inl (.inl hs)) rs)⟩
    | scr hs rs => exact .inl ⟨_, _, rfl, SqL.up rl2.sub hs, k _ _ m1 ⟨F2, g1.ow⟩ H1 _ (s1.trans s2) rl2 (follows_list hs rs)⟩
    | xtp hs rs => exact .inr (.inl ⟨_, _, rfl, (XT.up rl2.sub hs).seq, k _ _ m1 ⟨F2, g1.ow⟩ H1 _ (s1.trans s2) rl2 (follows_tup hs.seq rs)⟩)
    | str x => exact .inr (.inr ⟨x, rfl, k _ _ m1 ⟨F2, g1.ow⟩ H1 _ (s1.trans s2) rl2 follows_str⟩)
    | non => exact m1.elim
    | bl _ => exact m1.elim
    | int _ => exact m1.elim
    | ty _ => exact m1.elim
    | ref => exact m1.elim
    | exc _ _ => exact m1.elim
    | exp _ _ _ => exact m1.elim
    | cl _ => exact m1.elim
    | obj _ _ _ _ _ => exact m1.elim
    | dctK _ _ => exact m1.elim
    | dctT _ _ => exact m1.elim
  · exact m1.elim
end
def wNil : WA := fun _ t Q => Q [] t
def wCons (a : WE) (b : WA) : WA := fun W t Q => a W t fun r t1 => fz r fun d => b W t1 fun ds t2 => Q (d :: ds) t2
section
variable {B : Base} {X : Cx} {tg e : Expr} {es : List Expr} {w : WE} {wa : WA} {pos p : Pos}
theorem A_nil : PAT B X [] wNil := fun W tk => PA.imp pa_nil fun σ H Q q => by
  obtain ⟨g, t, P, rl, m, k⟩ := q
  exact k _ _ m g [] H sRefl rl .nil
theorem A_cons (h : PET B X e w) (h2 : PAT B X es wa) (hs : starEach (e :: es) X.env = (false, eval e X.env) :: starEach es X.env := by rfl) : PAT B X (e :: es) (wCons w wa) := fun W tk => PA.imp (pa_cons (h W tk) (h2 W tk) hs) fun σ H Q q => by
  obtain ⟨g, t, P, rl, m, k⟩ := q
  refine ⟨g, t, _, rl, m, fun r1 t1 m1 g1 v1 H1 s1 rl1 rr1 => ?_⟩
  unfold fz at m1
  split at m1
  · rename_i dx hx
    obtain ⟨F2, s2, rl2, rp⟩ := rr1.freeze rl1 hx
    refine ⟨⟨F2, g1.ow⟩, t1, _, rl2, m1, fun ds t3 m3 g3 vs H3 s3 rl3 rs3 => ?_⟩
    exact k _ _ m3 g3 _ H3 ((s1.trans s2).trans s3) rl3 (.cons (rp.up s3) rs3)
  · exact m1.elim
theorem Reps.one {K : PySem.W.Frag} {F : Hp} {d : D} {vs : List V} (h : Reps K F [d] vs) : ∃ v, vs = [v] ∧ Rep K F d v := by
  cases h with
  | cons a b => cases b; exact ⟨_, rfl, a⟩
theorem Reps.two {K : PySem.W.Frag} {F : Hp} {d e : D} {vs : List V} (h : Reps K F [d, e] vs) : ∃ v u, vs = [v, u] ∧ Rep K F d v ∧ Rep K F e u := by
  cases h with
  | cons a b => obtain ⟨u, rfl, r⟩ := b.one; exact ⟨_, _, rfl, a, r⟩
theorem Reps.three {K : PySem.W.Frag} {F : Hp} {d e f : D} {vs : List V} (h : Reps K F [d, e, f] vs) : ∃ v u w, vs = [v, u, w] ∧ Rep K F d v ∧ Rep K F e u ∧ Rep K F f w := by
  cases h with
  | cons a b => obtain ⟨u, w, rfl, r⟩ := b.two; exact ⟨_, _, _, rfl, a, r⟩
end
def small (i : Int) : Prop := -(2 ^ 62) ≤ i ∧ i < 2 ^ 62
def rangeD (lo c : Int) (n : Nat) : List D := (List.range n).map fun (i : Nat) => D.int (lo + (i : Int) * c)
theorem rangeD_len (lo c : Int) (n : Nat) : (rangeD lo c n).length = n := by simp [rangeD]
theorem rangeD_get {lo c : Int} {n i : Nat} {d : D} (h : (rangeD lo c n)[i]? = some d) : i < n ∧ d = .int (lo + (i : Int) * c) := by
  unfold rangeD at h
  rw [List.getElem?_map] at h
  cases q : (List.range n)[i]? with
  | none => rw [q] at h; cases h
  | some j =>
    rw [q] at h
    obtain ⟨h1, h2⟩ := List.getElem?_eq_some_iff.mp q
    rw [List.getElem_range] at h2
    rw [List.length_range] at h1
    subst h2
    exact ⟨h1, (Option.some.inj h).symm⟩
def wR1 (a : WA) : WI := fun W t Q => a W t fun ds t1 => match ds with
  | [.int j] => small j ∧ Q (rangeD 0 1 j.toNat) t1
  | _ => False
def wR2 (a : WA) : WI := fun W t Q => a W t fun ds t1 => match ds with
  | [.int i, .int j] => small i ∧ small j ∧ Q (rangeD i 1 (j - i).toNat) t1
  | _ => False
/-- a step below 0 or above, written -/
def wR3 (a : WA) : WI := fun W t Q => a W t fun ds t1 => match ds with
  | [.int i, .int j, .int c] => ∃ n, RgC i j c n ∧ Q (rangeD i c n) t1
  | _ => False
section
variable {B : Base} {X : Cx} {tg a b c : Expr} {wa : WA} {pos p : Pos}
theorem follows_rng {K : PySem.W.Frag} {F0 : Hp} {lo : Int} {n : Nat} : Follows K F0 (Itr lo n) (rangeD lo 1 n) where
  go := fun B i g t σ H hi s rl => by
    have h2 : i < n := by rw [rangeD_len] at hi; exact hi
    exact h2
  yld := fun B i d g t σ H y H' hi s rl hy => by
    obtain ⟨rfl, rfl⟩ := hy
    obtain ⟨h1, rfl⟩ := rangeD_get hi
    refine ⟨g, sRefl, rl, ?_⟩
    rw [Int.mul_one]
    exact .int _
  stop := fun B i g t σ H hi s rl => by
    have h2 : n ≤ i := by rw [rangeD_len] at hi; exact hi
    exact h2
theorem IT_r1 (hm : X.mg "range" = none) (h : PAT B X [a] wa) (hg : Gl X "range" := by rfl) (hs : starEach [a] X.env = [(false, eval a X.env)] := by rfl) : PIT B X tg (.Call (.Name "range" p) [a] [] pos) (wR1 wa) := by
  refine fun W tk => PI.imp (pi_range1 hg hm (h W tk) hs) fun σ H R q => ?_
  obtain ⟨g, t, P, rl, m, k⟩ := q
  refine ⟨g, t, _, rl, m, fun ds t1 m1 g1 vs H1 s1 rl1 rs1 => ?_⟩
  split at m1
  · rename_i j
    obtain ⟨v, rfl, r⟩ := rs1.one
    cases r
    exact ⟨j, rfl, m1.1.1, m1.1.2, k _ _ m1.2 g1 H1 _ s1 rl1 follows_rng⟩
  · exact m1.elim
end
end TL
namespace TL
open PySem PySem.Spec PyProof.Rows L2
def gN (i : Nat) : WG := fun d t k => stR i (.v d) t k
abbrev WGs := List D → TSt → (TSt → Prop) → Prop
def gsNil : WGs := fun ds t k => match ds with
  | [] => k t
  | _ => False
def gsCons (a : WG) (b : WGs) : WGs := fun ds t k => match ds with
  | d :: r => a d t fun t1 => b r t1 k
  | _ => False
def gT (n : Nat) (a : WGs) : WG := fun d t k => match d with
  | .tup l => l.length = n ∧ a l t k
  | _ => False
section
variable {B : Base} {X : Cx} {tg e : Expr} {es : List Expr} {gs hs : List Nat} {w : WE} {a : WG} {b : WGs} {pos p : Pos}
theorem takes_noX {K : PySem.W.Frag} : L2N.Takes X (wxOf K B noX) := fun u s' ⟨_, _, _, _, _, _, _, _, _, _, _, _, _, _, _, _, h⟩ => by
  obtain ⟨_, _, _, _, _, _, _, z⟩ := h
  exact z.elim
theorem G_name (i : Nat) {x : Str} (hN : X.N.Nodup) (hi : X.N[i]? = some x := by rfl) (hx : Loc X.env.scope x := by first | exact Or.inl rfl | exact Or.inr rfl) (hf : X.fn x = true ∨ X.env.scope.names.lookup x = some .local := by first | exact .inl rfl | exact .inr rfl) :
    PGT B X (.Name x pos) [i] (gN i) := PG.imp (pg_name hN hi hx hf) fun v σ H Q q => by
  obtain ⟨g, t, d, P, rl, rp, m, k⟩ := q
  obtain ⟨ow', t', m2, rl2⟩ := rl.set (r := .v d) rp m
  exact k _ m2 ⟨g.F, ow'⟩ _ H (.set List.mem_cons_self) sRefl rl2
theorem G_nil : PGsT B X [] [] gsNil := PGs.imp pgs_nil fun v σ H Q q => by
  obtain ⟨g, t, d, P, rl, rp, m, k⟩ := q
  unfold gsNil at m
  split at m
  · cases rp
    exact ⟨rfl, k _ m g σ H (.refl _ _) sRefl rl⟩
  · exact m.elim
theorem G_cons (h1 : PGT B X e gs a) (h2 : PGsT B X es hs b) (he : (assignEach (e :: es) X.env).map (·.2) = assign e X.env :: (assignEach es X.env).map (·.2) := by rfl) : PGsT B X (e :: es) (gs ++ hs) (gsCons a b) := PGs.imp (pgs_cons h1 h2 he) fun v σ H Q q => by
  obtain ⟨g, t, d, P, rl, rp, m, k⟩ := q
  unfold gsCons at m
  split at m
  · rename_i d1 dr
    cases rp with
    | cons r1 rr =>
      refine ⟨_, _, rfl, g, t, d1, _, rl, r1, m, fun t1 m1 g1 σ1 H1 a1 s1 rl1 => ?_⟩
      exact ⟨g1, t1, dr, P, rl1, rr.up s1, m1, fun t2 m2 g2 σ2 H2 a2 s2 rl2 => k t2 m2 g2 σ2 H2 (a1.trans a2) (s1.trans s2) rl2⟩
  · exact m.elim
theorem G_tup {k n : Nat} (h : PGsT B X es gs b) (hc : X.calm = true := by rfl) (hn : (assignEach es X.env).length = n := by rfl) (hst : (assignEach es X.env).findIdx? (·.1) = none := by rfl) : PGT B X (.Tuple es k pos) gs (gT n b) := PG.imp (pg_tup hc h hn hst) fun v σ H Q q => by
  obtain ⟨g, t, d, P, rl, rp, m, k⟩ := q
  unfold gT at m
  split at m
  · cases rp with
    | tup hs rs => exact ⟨_, _, rfl, .inl (.inl (rl.sub _ _ hs)), by rw [rs.length]; exact m.1, g, t, _, P, rl, rs, m.2, k⟩
  · exact m.elim
/-- a, b = e -/
def wAsg (a : WE) (g : WG) : WS := fun W t D => a W t fun r t1 => fz r fun d => g d t1 D.nx
theorem S_asg (h : PET B X e w) (hg : PGT B X tg gs a) (hs : swapsWithSole [tg] e pos.line X.env = pure false := by rfl) (hw : swappedStores [tg] e X.env = pure none := by rfl)
    (h1 : (assignEach [tg] X.env).map (·.2) = [assign tg X.env] := by rfl) : PST B X (.Assign [tg] e pos) (wAsg w a) := fun W tk => PS.imp (ps_asg (h W tk) hg hs hw h1) fun D σ H q => by
  obtain ⟨g, t, P, rl, m, k, _⟩ := q
  refine ⟨g, t, _, rl, m, fun r1 t1 m1 g1 v1 H1 s1 rl1 rr1 => ?_⟩
  unfold fz at m1
  split at m1
  · rename_i dx hx
    obtain ⟨F2, s2, rl2, rp⟩ := rr1.freeze rl1 hx
    exact ⟨⟨F2, g1.ow⟩, t1, dx, _, rl2, rp, m1, fun t3 m3 g3 σ3 H3 _ s3 rl3 => k t3 m3 g3 σ3 H3 ((s1.trans s2).trans s3) rl3⟩
  · exact m1.elim
end
section
variable {B : Base} {X : Cx}
/-- a, b = x, y (two different local names) -/
def wPar (i j : Nat) (a : WA) : WS := fun W t D => a W t fun ds t1 => match ds with
  | [d, e] => stR i (.v d) t1 fun t2 => stR j (.v e) t2 D.nx
  | _ => False
end
def wWhile (c : WT) (b : WS) : WS := fun W t D => ∃ I : Nat → TSt → Prop, (∃ m, I m t) ∧ ∀ m t, I m t → c W t fun k t1 =>
  if k = true then b W t1 ⟨fun t2 => ∃ m', m' < m ∧ I m' t2, D.rt, D.nx, fun t2 => ∃ m', m' < m ∧ I m' t2⟩ else D.nx t1
section
variable {B : Base} {X : Cx} {c : Expr} {body : List Stmt} {wc : WT} {wb : WS} {pos : Pos}
theorem S_while (hc : PTT B X c wc) (hb : PSsT B X body wb) (hp : PassesOwn (model X.prog X.w) X.A X.env X.xe := by first | exact PassesOwn.never | exact passes_of rfl) : PST B X (.While c body [] pos) (wWhile wc wb) := fun W tk => PS.imp (ps_while hp (hc W tk) (hb W tk)) fun D σ H q => by
  obtain ⟨g0, t0, P, rl0, ⟨I, ⟨m0, i0⟩, turn⟩, k1, k2, k3, k4⟩ := q
  refine ⟨fun m σ H => ∃ g t, Same g0.F g.F ∧ Rel X.K B g t σ H ∧ I m t, ⟨m0, g0, t0, sRefl, rl0, i0⟩, fun m σ H w => ?_⟩
  obtain ⟨g, t, s, rl, i⟩ := w
  refine ⟨g, t, _, rl, turn m t i, fun b t1 m1 g1 H1 s1 rl1 => ?_⟩
  cases b with
  | false => exact iteF (k1 _ (show P.nx t1 from m1) g1 _ H1 (s.trans s1) rl1)
  | true =>
    refine iteT ⟨fun σ' H' => ∃ m', m' < m ∧ ∃ g t, Same g0.F g.F ∧ Rel X.K B g t σ' H' ∧ I m' t, fun σ' H' h => h, g1, t1, _, rl1, m1, fun t2 m2 g2 σ2 H2 s2 rl2 => ?_, fun r t2 m2 g2 σ2 v2 H2 s2 rl2 rr2 => ?_, fun t2 m2 g2 σ2 H2 s2 rl2 => ?_, fun t2 m2 g2 σ2 H2 s2 rl2 => ?_⟩
    · obtain ⟨m', h1, h2⟩ := m2
      exact ⟨m', h1, g2, t2, (s.trans s1).trans s2, rl2, h2⟩
    · exact k2 _ _ m2 g2 σ2 v2 H2 ((s.trans s1).trans s2) rl2 rr2
    · exact k1 _ m2 g2 σ2 H2 ((s.trans s1).trans s2) rl2
    · obtain ⟨m', h1, h2⟩ := m2
      exact ⟨m', h1, g2, t2, (s.trans s1).trans s2, rl2, h2⟩
end
def forL (g : WG) (b : WS) (W : TX) : List D → TSt → TD → Prop
  | [], t, D => D.nx t
  | d :: ds, t, D => g d t fun t1 => b W t1 ⟨fun t2 => forL g b W ds t2 D, D.rt, D.nx, fun t2 => forL g b W ds t2 D⟩
def wFor (i : WI) (g : WG) (b : WS) : WS := fun W t D => i W t fun ds t1 => forL g b W ds t1 D
section
variable {B : Base} {X : Cx} {tg iter : Expr} {body : List Stmt} {gs : List Nat} {wi : WI} {wg : WG} {wb : WS} {pos : Pos}
theorem S_for (hi : PIT B X tg iter wi) (hg : PGT B X tg gs wg) (hb : PSsT B X body wb) (hp : PassesOwn (model X.prog X.w) X.A X.env X.xe := by first | exact PassesOwn.never | exact passes_of rfl) (hc : X.calm = true := by rfl)
    (hs : ∀ x, foldedSetIterable iter X.env x = pure x := by intro _; rfl) : PST B X (.For tg iter body [] pos) (wFor wi wg wb) := fun W tk => PS.imp (ps_for hp hc (hi W tk) hg (hb W tk) hs) fun D σ H q => by
  obtain ⟨g0, t0, P, rl0, m0, k1, k2, k3, k4⟩ := q
  refine ⟨g0, t0, _, rl0, m0, fun ds t1 m1 g1 H1 J s1 rl1 fl => ?_⟩
  refine ⟨fun i m σ H => i + m = ds.length ∧ ∃ g t, Same g1.F g.F ∧ Rel X.K B g t σ H ∧ forL wg wb W (ds.drop i) t P, ⟨ds.length, by omega, g1, t1, sRefl, rl1, m1⟩, fun i m σ H w => ?_⟩
  obtain ⟨em, g, t, s, rl, f⟩ := w
  by_cases hlt : i < ds.length
  · rw [List.drop_eq_getElem_cons hlt] at f
    refine .inr ⟨fl.go _ i g t σ H hlt s rl, fun σ' H' => ∃ g t, Same g1.F g.F ∧ Rel X.K B g t σ' H' ∧ forL wg wb W (ds.drop (i + 1)) t P, fun σ' H' h => ⟨m - 1, by omega, by omega, h⟩, fun x H' hy => ?_⟩
    obtain ⟨g2, s2, rl2, rp⟩ := fl.yld _ i ds[i] g t σ H x H' (List.getElem?_eq_getElem hlt) s rl hy
    refine ⟨g2, t, ds[i], _, rl2, rp, f, fun t3 m3 g3 σ3 H3 _ s3 rl3 => ?_⟩
    have ss : Same g1.F g3.F := (s.trans s2).trans s3
    refine ⟨g3, t3, _, rl3, m3, fun t4 m4 g4 σ4 H4 s4 rl4 => ⟨g4, t4, ss.trans s4, rl4, m4⟩, fun r t4 m4 g4 σ4 v4 H4 s4 rl4 rr4 => ?_, fun t4 m4 g4 σ4 H4 s4 rl4 => ?_, fun t4 m4 g4 σ4 H4 s4 rl4 => ⟨g4, t4, ss.trans s4, rl4, m4⟩⟩
    · exact k2 _ _ m4 g4 σ4 v4 H4 ((s1.trans ss).trans s4) rl4 rr4
    · exact k1 _ m4 g4 σ4 H4 ((s1.trans ss).trans s4) rl4
  · rw [List.drop_eq_nil_of_le (by omega)] at f
    exact .inl ⟨fl.stop _ i g t σ H (by omega) s rl, k1 _ f g σ H (s1.trans s) rl⟩
end
def wipeT (t : TSt) : List Nat → TSt
  | [] => t
  | v :: vs => (wipeT t vs).set v .un
def wYes : WT := fun _ t Q => Q true t
def lcL (g : WG) (c : WT) (e : WE) (vs : List Nat) : List D → List D → TSt → (List D → TSt → Prop) → Prop
  | [], acc, t, Q => Q acc t
  | d :: ds, acc, t, Q => g d t fun t1 => c noX t1 fun k t2 => if k = true then e noX t2 fun r t3 => fz r fun y => acc.length < sizeLine ∧ lcL g c e vs ds (acc ++ [y]) (wipeT t3 vs) Q else lcL g c e vs ds acc (wipeT t2 vs) Q
def wLc (i : WI) (g : WG) (c : WT) (e : WE) (vs : List Nat) : WE := fun W t Q => i W t fun ds t1 => lcL g c e vs ds [] (wipeT t1 vs) fun acc t2 => Q (.own (.lst acc)) t2
theorem wipeT_len (t : TSt) : ∀ vs : List Nat, (wipeT t vs).length = t.length
  | [] => rfl
  | v :: vs => by show ((wipeT t vs).set v .un).length = _; rw [List.length_set, wipeT_len t vs]
theorem wipeT_get {t : TSt} {i : Nat} {s : Slot} : ∀ {vs : List Nat}, (wipeT t vs)[i]? = some s → s = .un ∨ (i ∉ vs ∧ t[i]? = some s)
  | [], h => .inr ⟨by simp, h⟩
  | v :: vs, h => by
    rcases getElem?_set_cases (show ((wipeT t vs).set v .un)[i]? = some s from h) with ⟨rfl, rfl, _⟩ | ⟨ne, h⟩
    · exact .inl rfl
    · rcases wipeT_get h with z | ⟨z1, z2⟩
      · exact .inl z
      · exact .inr ⟨by simp [ne, z1], z2⟩
/-- the block's own names forgotten, both ways -/
theorem Rel.wiped {K : PySem.W.Frag} {B : Base} {g : Gh} {t : TSt} {σ σ' : L2.St} {H : Hp} {vs : List Nat} (rl : Rel K B g t σ H) (e : ∀ i, i ∉ vs → σ'[i]? = σ[i]?) (hl : σ'.length = σ.length) : Rel K B g (wipeT t vs) σ' H := by
  refine ⟨rl.base, rl.sub, rl.ff, rl.old, rl.ft, rl.dm, rl.there, by rw [wipeT_len, hl]; exact rl.len, fun i s h => ?_⟩
  rcases wipeT_get h with rfl | ⟨h1, h2⟩
  · trivial
  · rw [e i h1]; exact rl.slot i s h2
theorem Reps.append {K : PySem.W.Frag} {F : Hp} : ∀ {ds es : List D} {vs us : List V}, Reps K F ds vs → Reps K F es us → Reps K F (ds ++ es) (vs ++ us)
  | _, _, _, _, .nil, h => h
  | _, _, _, _, .cons a b, h => .cons a (Reps.append b h)
/-- an object of nobody's is written -/
theorem Rel.writeO {K : PySem.W.Frag} {B : Base} {g : Gh} {t : TSt} {σ : L2.St} {H : Hp} {p : Addr} {o u : HO} (rl : Rel K B g t σ H) (h : H p = some o) (h1 : g.ow p = none) (h2 : g.F p = none) (h3 : B.H p = none) (nt : ∀ xs, u ≠ .tup xs := by intro xs h; cases h) : Rel K B g t σ (upd H p u) := by
  have np : ∀ b i, g.ow b = some i → b ≠ p := fun b i e z => by rw [z, h1] at e; cases e
  refine ⟨rl.base, fun b w e => ?_, rl.ff, fun b w e n => ?_, rl.ft, ⟨fun b e => ?_, fun b xs e => ?_⟩, fun b i e => ?_, rl.len, fun i s e => ?_⟩
  · rw [upd_ne (ne_of_none e h2)]; exact rl.sub _ _ e
  · obtain ⟨z1, z2, z3⟩ := rl.old b w e n
    exact ⟨by rw [upd_ne (ne_of_none e h3)]; exact z1, z2, z3⟩
  · by_cases hb : b = p
    · subst hb; exact h3
    · rw [upd_ne hb] at e; exact rl.dom b e
  · by_cases hb : b = p
    · subst hb; rw [upd_same] at e; exact absurd (Option.some.inj e) (nt xs)
    · rw [upd_ne hb] at e; exact rl.tf _ _ e
  · obtain ⟨w, hw⟩ := rl.there b i e
    exact ⟨w, by rw [upd_ne (np b i e)]; exact hw⟩
  · exact (rl.slot i s e).up sRefl fun b q => ⟨q, upd_ne (np b i q)⟩
/-- one object more that stood at the entry -/
def Base.add (B : Base) (p : Addr) (o : HO) : Base := { B with H := upd B.H p o }
section
variable {K : PySem.W.Frag} {B : Base} {g : Gh} {t : TSt} {σ : L2.St} {H : Hp} {p : Addr} {o : HO}
theorem Rel.addB (rl : Rel K B g t σ H) (h : H p = some o) (h1 : g.ow p = none) (h2 : g.F p = none) (h3 : B.H p = none) : Rel K (B.add p o) g t σ H := by
  have nf : p ∉ B.foot := fun z => by obtain ⟨u, hu⟩ := rl.ft p z; rw [h3] at hu; cases hu
  refine ⟨rl.base, rl.sub, rl.ff, fun b u e n => ?_, fun b hb => ?_, ⟨fun b e => ?_, rl.tf⟩, rl.there, rl.len, fun i s e => ?_⟩
  · have e' : upd B.H p o b = some u := e
    by_cases hb : b = p
    · subst hb; rw [upd_same] at e'; rw [← e']; exact ⟨h, h1, fun _ => h2⟩
    · rw [upd_ne hb] at e'; exact rl.old b u e' n
  · obtain ⟨u, hu⟩ := rl.ft b hb
    exact ⟨u, by show upd B.H p o b = some u; rw [upd_ne (ne_of_none hu h3)]; exact hu⟩
  · show upd B.H p o b = none
    by_cases hb : b = p
    · subst hb; rw [h] at e; cases e
    · rw [upd_ne hb]; exact rl.dom b e
  · have := rl.slot i s e
    cases s <;> exact this
theorem Rel.subB (rl : Rel K (B.add p o) g t σ H) (h3 : B.H p = none) (hf : p ∉ B.foot) (hF : B.F p = none) (ft : ∀ b ∈ B.foot, ∃ o, B.H b = some o) : Rel K B g t σ H ∧ H p = some o ∧ g.ow p = none ∧ g.F p = none := by
  have hp := rl.old p o (show upd B.H p o p = some o from upd_same) hf
  have up : ∀ b u, B.H b = some u → upd B.H p o b = some u := fun b u e => by rw [upd_ne (ne_of_none e h3)]; exact e
  refine ⟨⟨rl.base, rl.sub, rl.ff, fun b u e n => rl.old b u (up b u e) n, ft, ⟨fun b e => ?_, rl.tf⟩, rl.there, rl.len, fun i s e => ?_⟩, hp.1, hp.2.1, hp.2.2 hF⟩
  · have e' : upd B.H p o b = none := rl.dom b e
    by_cases hb : b = p
    · subst hb; exact h3
    · rw [upd_ne hb] at e'; exact e'
  · have := rl.slot i s e
    cases s <;> exact this
end
theorem wipe_ag {gs vs : List Nat} {σ σ' : L2.St} (h : ∀ i, i ∈ gs → i ∈ vs) (a : Ag gs (wipe σ vs) σ') : wipe σ' vs = wipe σ vs := by
  apply List.ext_getElem?
  intro i
  by_cases hi : i ∈ vs
  · have z : ∀ (τ : L2.St) (us : List Nat), i ∈ us → i < τ.length → (wipe τ us)[i]? = some none := by
      intro τ us
      induction us with
      | nil => intro q; cases q
      | cons v us ih =>
        intro q hl
        show ((wipe τ us).set v none)[i]? = some none
        by_cases e : i = v
        · subst e; exact List.getElem?_set_self (by rw [wipe_length]; exact hl)
        · rw [List.getElem?_set_ne (Ne.symm e)]; exact ih ((List.mem_cons.mp q).resolve_left e) hl
    have hl : σ'.length = σ.length := by rw [a.1, wipe_length]
    by_cases hb : i < σ.length
    · rw [z σ vs hi hb, z σ' vs hi (by rw [hl]; exact hb)]
    · rw [List.getElem?_eq_none (by rw [wipe_length]; omega), List.getElem?_eq_none (by rw [wipe_length]; omega)]
  · rw [wipe_out hi, a.2 i fun q => hi (h i q)]
section
variable {B : Base} {X : Cx} {tg iter elt c : Expr} {gs : List Nat} {wi : WI} {wg : WG} {wc : WT} {we : WE} {scope : Scope} {own : List (Str × Nat)} {pos : Pos}
theorem wiped_un {t : TSt} {vs : List Nat} : ∀ j s, j ∈ vs → (wipeT t vs)[j]? = some s → s = .un := fun j s hj h => (wipeT_get h).elim id fun z => absurd hj z.1
/-- what a block asks, each turn over the ground with the new list in it -/
def tLcT (K : PySem.W.Frag) (wi : TI) (gs : List Nat) (wg : WG) (wc : WT) (we : WE) (vs : List Nat) : TE := fun σ H Q =>
  tLc wi (fun v σ H Q => ∃ B', gOf K B' gs wg v σ H Q) (fun σ H Q => ∃ B', ttOf K B' (wc noX) σ H Q) (fun σ H Q => ∃ B', tOf K B' (we noX) σ H Q) vs σ H Q
theorem lc_of {W : TX} {σ : L2.St} {H : Hp} {Q : VK} {vs : List Nat} (hgs : ∀ i, i ∈ gs → i ∈ vs) (q : tOf X.K B (wLc wi wg wc we vs W) σ H Q) : tLcT X.K (iOf X.K B (wi W)) gs wg wc we vs σ H Q := by
  obtain ⟨g0, t0, P, rl0, m0, k⟩ := q
  refine ⟨g0, t0, _, rl0, m0, fun ds t1 m1 g1 H1 J s1 rl1 fl D hD => ?_⟩
  have wl : ∀ σ : L2.St, (wipe σ vs).length = σ.length := fun σ => wipe_length σ vs
  obtain ⟨rlD, oD, fD, bD⟩ := rl1.newO (o := .lst []) hD
  have nfD : D ∉ B.foot := fun z => by obtain ⟨u, hu⟩ := rl1.ft D z; rw [bD] at hu; cases hu
  have bFD : B.F D = none := by
    cases q : B.F D with
    | none => rfl
    | some u => have := rl1.base _ _ q; rw [fD] at this; cases this
  refine ⟨fun i m H => i + m = ds.length ∧ ∃ g t acc vs', Same g1.F g.F ∧ Rel X.K B g t (wipe σ vs) H ∧ H D = some (.lst vs') ∧ Reps X.K g.F acc vs' ∧ g.ow D = none ∧ g.F D = none ∧ lcL wg wc we vs (ds.drop i) acc t (fun acc t2 => P (.own (.lst acc)) t2) ∧ ∀ j s, j ∈ vs → t[j]? = some s → s = .un,
    ⟨ds.length, by omega, g1, wipeT t1 vs, [], [], sRefl, rlD.wiped (fun i hi => wipe_out hi) (wl σ), upd_same, .nil, oD, fD, m1, wiped_un⟩, fun i m H w => ?_⟩
  obtain ⟨em, g, t, acc, vs', s, rl, eD, ra, oD, fD, f, un⟩ := w
  by_cases hlt : i < ds.length
  · rw [List.drop_eq_getElem_cons hlt] at f
    refine .inr ⟨fl.go _ i g t _ H hlt s rl, fun H' => ∃ g t acc vs', Same g1.F g.F ∧ Rel X.K B g t (wipe σ vs) H' ∧ H' D = some (.lst vs') ∧ Reps X.K g.F acc vs' ∧ g.ow D = none ∧ g.F D = none ∧ lcL wg wc we vs (ds.drop (i + 1)) acc t (fun acc t2 => P (.own (.lst acc)) t2) ∧ ∀ j s, j ∈ vs → t[j]? = some s → s = .un, fun H' h => ⟨m - 1, by omega, by omega, h⟩, fun x H' hy => ?_⟩
    have rB := rl.addB eD oD fD bD
    obtain ⟨g2, s2, rl2, rp⟩ := fl.yld _ i ds[i] g t _ H x H' (List.getElem?_eq_getElem hlt) s rB hy
    refine ⟨B.add D (.lst vs'), g2, t, ds[i], _, rl2, rp, f, fun t3 m3 g3 σ3 H3 a3 s3 rl3 => ?_⟩
    have ew := wipe_ag hgs a3
    refine ⟨ew, B.add D (.lst vs'), g3, t3, _, rl3, m3, fun b t4 m4 g4 H4 s4 rl4 => ?_⟩
    have ss : Same g.F g4.F := (s2.trans s3).trans s4
    cases b with
    | false =>
      refine iteF ?_
      obtain ⟨rl5, e5, o5, f5⟩ := rl4.subB bD nfD bFD rl1.ft
      refine ⟨g4, wipeT t4 vs, acc, vs', s.trans ss, ?_, e5, ra.up ss, o5, f5, m4, wiped_un⟩
      exact rl5.wiped (fun i hi => by rw [← ew, wipe_out hi]) (by rw [← ew, wl])
    | true =>
      refine iteT ⟨B.add D (.lst vs'), g4, t4, _, rl4, (show we noX t4 _ from m4), fun r t5 m5 g5 v5 H5 s5 rl5 rr5 => ?_⟩
      unfold fz at m5
      split at m5
      · rename_i y hy
        obtain ⟨F6, s6, rl6, rp6⟩ := rr5.freeze rl5 hy
        obtain ⟨rl7, e7, o7, f7⟩ := rl6.subB bD nfD bFD rl1.ft
        have s8 := (ss.trans s5).trans s6
        refine ⟨vs', e7, by rw [ra.length]; exact m5.1, ⟨F6, g5.ow⟩, wipeT t5 vs, acc ++ [y], vs' ++ [v5], s.trans s8, ?_, upd_same, ?_, o7, f7, m5.2, wiped_un⟩
        · exact (rl7.wiped (fun i hi => by rw [← ew, wipe_out hi]) (by rw [← ew, wl])).writeO e7 o7 f7 bD
        · exact ((ra.up s8)).append (.cons rp6 .nil)
      · exact m5.elim
  · rw [List.drop_eq_nil_of_le (by omega)] at f
    refine .inl ⟨fl.stop _ i g t _ H (by omega) s rl, ?_⟩
    refine k _ _ f g (.ref D) H (s1.trans s) ⟨rl.base, rl.sub, rl.ff, rl.old, rl.ft, rl.dm, rl.there, by rw [rl.len, wl], fun j s' h => ?_⟩ ⟨D, [D], rfl, .lst eD ra, by simp, fun b hb => ?_⟩
    · by_cases hj : j ∈ vs
      · rw [un j s' hj h]; trivial
      · rw [← wipe_out (σ := σ) hj]; exact rl.slot j s' h
    · rw [List.mem_singleton.mp hb]; exact ⟨oD, fD, bD⟩
theorem PG.ex {X : Cx} {e : Expr} {α : Type} {f : α → TG} (h : ∀ a, PG X e (f a)) : PG X e (fun v σ H Q => ∃ a, f a v σ H Q) := ⟨fun pins s σ H v u Q I r q => (h q.choose).run pins s σ H v u Q I r q.choose_spec⟩
theorem PE.ex {X : Cx} {e : Expr} {α : Type} {f : α → TE} (h : ∀ a, PE X e (f a)) : PE X e (fun σ H Q => ∃ a, f a σ H Q) := ⟨fun pins s σ H Q I q => (h q.choose).run pins s σ H Q I q.choose_spec⟩
theorem PTs.ex {X : Cx} {e : List Expr} {α : Type} {f : α → TT} (h : ∀ a, PTs X e (f a)) : PTs X e (fun σ H Q => ∃ a, f a σ H Q) := ⟨fun pins s σ H Q I q => (h q.choose).run pins s σ H Q I q.choose_spec⟩
theorem PTs.imp {X : Cx} {e : List Expr} {t t' : TT} (h : PTs X e t) (i : ∀ σ H Q, t' σ H Q → t σ H Q) : PTs X e t' := ⟨fun pins s σ H Q I q => h.run pins s σ H Q I (i σ H Q q)⟩
def PTsT (B : Base) (X : Cx) (ifs : List Expr) (w : WT) : Prop := ∀ W, L2N.Takes X (wxOf X.K B W) → PTs X ifs (ttOf X.K B (w W))
theorem C_nil : PTsT B X [] wYes := fun W tk => PTs.imp pts_nil fun σ H Q q => by
  obtain ⟨g, t, P, rl, m, k⟩ := q
  exact k _ _ m g H sRefl rl
theorem C_one (h : PTT B X c wc) : PTsT B X [c] wc := fun W tk => pts_one (h W tk)
theorem PIT.of (h : PIT B X tg iter wi) : PIT B X tg iter wi := h
theorem T_lc {ifs : List Expr} (own : List (Str × Nat)) (hN : X.N.Nodup) (hi : PIT B X tg iter wi) (ok : BlkOk X.N X.env.scope scope own)
    (hg : ∀ (B : Base) (s : Shared) (H : Hp) (C : Addr) (cl : List (Str × Addr)) (fp : List Addr), PGT B (X.blk s H scope (compEnvC scope cl C X.env) fp) tg gs wg)
    (ht : ∀ (B : Base) (s : Shared) (H : Hp) (C : Addr) (cl : List (Str × Addr)) (fp : List Addr), PTsT B (X.blk s H scope (compEnvC scope cl C X.env) fp) ifs wc)
    (he : ∀ (B : Base) (s : Shared) (H : Hp) (C : Addr) (cl : List (Str × Addr)) (fp : List Addr), PET B (X.blk s H scope (compEnvC scope cl C X.env) fp) elt we)
    (hgs : gs.all (fun i => (own.map (·.2)).contains i) = true := by rfl) (hc : X.calm = true := by rfl) (hs : ∀ x, foldedSetIterable iter X.env x = pure x := by intro _; rfl) :
    PET B X (.ListComp elt [⟨tg, iter, ifs, 0⟩] scope pos) (wLc wi wg wc we (own.map (·.2))) := fun W tk =>
  PE.imp (pe_lc hc hN (hi W tk) ok (fun s H C cl fp => PG.ex (f := fun B => gOf X.K B gs wg) fun B' => hg B' s H C cl fp) (fun s H C cl fp => PTs.ex (f := fun B => ttOf X.K B (wc noX)) fun B' => ht B' s H C cl fp noX takes_noX) (fun s H C cl fp => PE.ex (f := fun B => tOf X.K B (we noX)) fun B' => he B' s H C cl fp noX takes_noX) hs) fun σ H Q q =>
    lc_of (fun i hi => by simpa using List.all_eq_true.mp hgs i hi) q
theorem S_setLc {ifs : List Expr} (i : Nat) (own : List (Str × Nat)) {y : Str} {py spos : Pos} (hN : X.N.Nodup) (hi : PIT B X tg iter wi) (ok : BlkOk X.N X.env.scope scope own)
    (hg : ∀ (B : Base) (s : Shared) (H : Hp) (C : Addr) (cl : List (Str × Addr)) (fp : List Addr), PGT B (X.blk s H scope (compEnvC scope cl C X.env) fp) tg gs wg)
    (ht : ∀ (B : Base) (s : Shared) (H : Hp) (C : Addr) (cl : List (Str × Addr)) (fp : List Addr), PTsT B (X.blk s H scope (compEnvC scope cl C X.env) fp) ifs wc)
    (he : ∀ (B : Base) (s : Shared) (H : Hp) (C : Addr) (cl : List (Str × Addr)) (fp : List Addr), PET B (X.blk s H scope (compEnvC scope cl C X.env) fp) elt we)
    (hsw : swapsWith (.ListComp elt [⟨tg, iter, ifs, 0⟩] scope pos) (some (.Name y py)) spos.line X.env = pure true)
    (hy : X.N[i]? = some y := by rfl) (hyl : X.env.scope.names.lookup y = some .local := by rfl)
    (hgs : gs.all (fun i => (own.map (·.2)).contains i) = true := by rfl) (hc : X.calm = true := by rfl) (hs : ∀ x, foldedSetIterable iter X.env x = pure x := by intro _; rfl) :
    PST B X (.Assign [.Name y py] (.ListComp elt [⟨tg, iter, ifs, 0⟩] scope pos) spos) (wSet i (wLc wi wg wc we (own.map (·.2)))) := fun W tk =>
  PS.imp (ps_setLc (i := i) hc hN hy hyl hsw (hi W tk) ok (fun s H C cl fp => PG.ex (f := fun B => gOf X.K B gs wg) fun B' => hg B' s H C cl fp) (fun s H C cl fp => PTs.ex (f := fun B => ttOf X.K B (wc noX)) fun B' => ht B' s H C cl fp noX takes_noX) (fun s H C cl fp => PE.ex (f := fun B => tOf X.K B (we noX)) fun B' => he B' s H C cl fp noX takes_noX) hs) fun D σ H q => by
    obtain ⟨g, t, P, rl, m, k, _⟩ := q
    refine lc_of (W := W) (fun i hi => by simpa using List.all_eq_true.mp hgs i hi) ⟨g, t, _, rl, m, fun r1 t1 m1 g1 v1 H1 s1 rl1 rr1 => ?_⟩
    obtain ⟨ow', t', m2, rl2⟩ := rl1.set rr1 m1
    exact k _ m2 ⟨g1.F, ow'⟩ _ H1 s1 rl2
end
end TL
namespace TL
open PySem PySem.Spec PyProof.Rows L2
inductive Arg where
  | v (d : D) | ref (c : Cell)
/-- a def's promise, by value: from the arguments, what is wanted of the answer and the changed cells, of an exception and the cells -/
abbrev TSpec := List Arg → (R → List Cell → Prop) → (String → Pay → List Cell → Prop) → Prop
def outAt : List Arg → List Cell → Nat → Option Cell
  | .v _ :: as, cs, i + 1 => outAt as cs i
  | .ref _ :: _, c :: _, 0 => some c
  | .ref _ :: as, _ :: cs, i + 1 => outAt as cs i
  | _, _, _ => none
def InF (fp : Nat → List Addr) (b : Addr) : Prop := ∃ i, b ∈ fp i
structure ArgsRel (K : PySem.W.Frag) (F H : Hp) (args : List Arg) (vs : List V) (fp : Nat → List Addr) : Prop where
  len : vs.length = args.length
  val : ∀ (i : Nat) (d : D), args[i]? = some (.v d) → ∃ v, vs[i]? = some v ∧ Rep K F d v
  cel : ∀ (i : Nat) (c : Cell), args[i]? = some (.ref c) → ∃ a, vs[i]? = some (.ref a) ∧ CellRel K F H c a (fp i) ∧ (fp i).Nodup
  non : ∀ i : Nat, (∀ c : Cell, args[i]? ≠ some (.ref c)) → fp i = []
  dis : ∀ i j b, b ∈ fp i → b ∈ fp j → i = j
  fre : ∀ i b, b ∈ fp i → F b = none
  tf : ∀ a xs, H a = some (.tup xs) → F a = some (.tup xs)
structure Post (K : PySem.W.Frag) (F H : Hp) (args : List Arg) (vs : List V) (fp : Nat → List Addr) (outs : List Cell) (F' H' : Hp) (fp' : Nat → List Addr) : Prop where
  up : Same F F'
  sub : Same F' H'
  keep : ∀ a o, H a = some o → ¬ InF fp a → H' a = some o ∧ (F a = none → F' a = none)
  dm : Dm H F' H'
  out : ∀ (i : Nat) (c : Cell), args[i]? = some (.ref c) → ∃ a c', vs[i]? = some (.ref a) ∧ outAt args outs i = some c' ∧ CellRel K F' H' c' a (fp' i) ∧ (fp' i).Nodup
  non : ∀ i : Nat, (∀ c : Cell, args[i]? ≠ some (.ref c)) → fp' i = []
  dis : ∀ i j b, b ∈ fp' i → b ∈ fp' j → i = j
  new : ∀ i b, b ∈ fp' i → F' b = none ∧ (InF fp b ∨ H b = none)
theorem Post.dom {K : PySem.W.Frag} {F H : Hp} {args : List Arg} {vs : List V} {fp : Nat → List Addr} {outs : List Cell} {F' H' : Hp} {fp' : Nat → List Addr} (p : Post K F H args vs fp outs F' H' fp') : ∀ a, H' a = none → H a = none := p.dm.dom
def RetRel (K : PySem.W.Frag) (F' H' H : Hp) (fp' : Nat → List Addr) : R → V → Prop
  | .v d, v => Rep K F' d v
  | .own c, v => ∃ a f, v = .ref a ∧ CellRel K F' H' c a f ∧ f.Nodup ∧ ∀ b ∈ f, F' b = none ∧ H b = none ∧ ¬ InF fp' b
def toSp (K : PySem.W.Frag) (n : Nat) (ts : TSpec) : Sp := fun vs H Q E => vs.length = n ∧ ∃ F args fp PQ PX, Same F H ∧ ArgsRel K F H args vs fp ∧ ts args PQ PX ∧
  (∀ r outs, PQ r outs → ∀ v F' H' fp', Post K F H args vs fp outs F' H' fp' → RetRel K F' H' H fp' r v → Q v H') ∧
  (∀ n pay outs, PX n pay outs → ∀ cls, ClsN K n cls → ∀ d F' H' fp', Post K F H args vs fp outs F' H' fp' → PayRel K F' H' pay d → E cls d H')
abbrev AV := Sum D Nat
abbrev WAA := TX → TSt → (List AV → TSt → Prop) → Prop
inductive AVs (K : PySem.W.Frag) (F : Hp) (σ : L2.St) : List AV → List V → Prop
  | nil : AVs K F σ [] []
  | v {d : D} {v : V} {as : List AV} {vs : List V} : Rep K F d v → AVs K F σ as vs → AVs K F σ (.inl d :: as) (v :: vs)
  | r {i : Nat} {v : V} {as : List AV} {vs : List V} : σ[i]? = some (some v) → AVs K F σ as vs → AVs K F σ (.inr i :: as) (v :: vs)
def aaOf (K : PySem.W.Frag) (B : Base) (m : TSt → (List AV → TSt → Prop) → Prop) : TA := fun σ H Q => ∃ g t P, Rel K B g t σ H ∧ m t P ∧
  ∀ as t', P as t' → ∀ g' vs H', Same g.F g'.F → Rel K B g' t' σ H' → AVs K g'.F σ as vs → Q vs H'
def PAAT (B : Base) (X : Cx) (es : List Expr) (w : WAA) : Prop := ∀ W, L2N.Takes X (wxOf X.K B W) → PA X es (aaOf X.K B (w W))
def aNil : WAA := fun _ t Q => Q [] t
def aV (a : WE) (b : WAA) : WAA := fun W t Q => a W t fun r t1 => fz r fun d => b W t1 fun ds t2 => Q (.inl d :: ds) t2
def aR (i : Nat) (b : WAA) : WAA := fun W t Q => match t[i]? with
  | some (.own _) => b W t fun ds t2 => Q (.inr i :: ds) t2
  | some (.bor _) => b W t fun ds t2 => Q (.inr i :: ds) t2
  | _ => False
section
variable {B : Base} {X : Cx} {e : Expr} {es : List Expr} {w : WE} {wa : WAA} {pos p : Pos}
theorem AVs.up {K : PySem.W.Frag} {F F' : Hp} {σ : L2.St} (s : Same F F') : ∀ {as : List AV} {vs : List V}, AVs K F σ as vs → AVs K F' σ as vs
  | _, _, .nil => .nil
  | _, _, .v h t => .v (h.up s) (AVs.up s t)
  | _, _, .r h t => .r h (AVs.up s t)
theorem AA_nil : PAAT B X [] aNil := fun W tk => PA.imp pa_nil fun σ H Q q => by
  obtain ⟨g, t, P, rl, m, k⟩ := q
  exact k _ _ m g [] H sRefl rl .nil
theorem AA_v (h : PET B X e w) (h2 : PAAT B X es wa) (hs : starEach (e :: es) X.env = (false, eval e X.env) :: starEach es X.env := by rfl) : PAAT B X (e :: es) (aV w wa) := fun W tk => PA.imp (pa_cons (h W tk) (h2 W tk) hs) fun σ H Q q => by
  obtain ⟨g, t, P, rl, m, k⟩ := q
  refine ⟨g, t, _, rl, m, fun r1 t1 m1 g1 v1 H1 s1 rl1 rr1 => ?_⟩
  unfold fz at m1
  split at m1
  · rename_i dx hx
    obtain ⟨F2, s2, rl2, rp⟩ := rr1.freeze rl1 hx
    refine ⟨⟨F2, g1.ow⟩, t1, _, rl2, m1, fun ds t3 m3 g3 vs H3 s3 rl3 rs3 => ?_⟩
    exact k _ _ m3 g3 _ H3 ((s1.trans s2).trans s3) rl3 (.v (rp.up s3) rs3)
  · exact m1.elim
/-- a name whose object may be changed by the callee -/
theorem AA_r (i : Nat) {x : Str} (h2 : PAAT B X es wa) (hN : X.N[i]? = some x := by rfl) (hv : Vis X.env.scope x := by first | exact Or.inl rfl | exact Or.inr (Or.inl rfl) | exact Or.inr (Or.inr rfl)) (hd : (x == ("__debug__" : Str)) = false := by rfl) (hcd : (x == ("__classdict__" : Str)) = false := by rfl)
    (hs : starEach (.Name x pos :: es) X.env = (false, eval (.Name x pos) X.env) :: starEach es X.env := by rfl) : PAAT B X (.Name x pos :: es) (aR i wa) := by
  refine fun W tk => PA.imp (pa_cons (pe_var hN hv hd hcd) (h2 W tk) hs) fun σ H Q q => ?_
  obtain ⟨g, t, P, rl, m, k⟩ := q
  have hx : (∃ v, σ[i]? = some (some v)) ∧ wa W t fun ds t2 => P (.inr i :: ds) t2 := by
    unfold aR at m
    split at m
    · rename_i c e
      obtain ⟨a, _, ha, _⟩ := rl.slot i _ e
      exact ⟨⟨_, ha⟩, m⟩
    · rename_i c e
      obtain ⟨a, _, ha, _⟩ := rl.slot i _ e
      exact ⟨⟨_, ha⟩, m⟩
    · exact m.elim
  obtain ⟨⟨v, hx⟩, m⟩ := hx
  exact ⟨v, hx, g, t, _, rl, m, fun ds t3 m3 g3 vs H3 s3 rl3 rs3 => k _ _ m3 g3 _ H3 s3 rl3 (.r hx rs3)⟩
def resA : List AV → TSt → Option (List Arg)
  | [], _ => some []
  | .inl d :: as, t => (resA as t).map (Arg.v d :: ·)
  | .inr i :: as, t => match t[i]? with
    | some (.own c) => (resA as t).map (Arg.ref c :: ·)
    | some (.bor c) => (resA as t).map (Arg.ref c :: ·)
    | _ => none
def reSlot (c : Cell) : Slot → Slot
  | .own _ => .own c
  | .bor _ => .bor c
  | s => s
def putA : List AV → List Cell → TSt → TSt
  | .inl _ :: as, cs, t => putA as cs t
  | .inr i :: as, c :: cs, t => putA as cs (t.modify i (reSlot c))
  | _, _, t => t
def refsA (as : List AV) : List Nat := as.filterMap fun a => match a with
  | .inl _ => none
  | .inr i => some i
def wCall (ts : TSpec) (a : WAA) : WE := fun W t Q => a W t fun as t1 => (refsA as).Nodup ∧ ∃ args, resA as t1 = some args ∧
  ts args (fun r outs => Q r (putA as outs t1)) (fun cls pay outs => W cls pay (putA as outs t1))
/-- where the slot of an argument is -/
theorem resA_at {t : TSt} : ∀ {as : List AV} {args : List Arg}, resA as t = some args → args.length = as.length ∧
    (∀ (p : Nat) (d : D), args[p]? = some (.v d) → as[p]? = some (.inl d)) ∧ (∀ (p : Nat) (c : Cell), args[p]? = some (.ref c) → ∃ i, as[p]? = some (.inr i) ∧ (t[i]? = some (.own c) ∨ t[i]? = some (.bor c)))
  | [], _, h => by cases h; exact ⟨rfl, fun p d e => by simp at e, fun p c e => by simp at e⟩
  | .inl d :: as, args, h => by
    unfold resA at h
    cases q : resA as t with
    | none => rw [q] at h; cases h
    | some r =>
      rw [q] at h; cases h
      obtain ⟨h1, h2, h3⟩ := resA_at q
      refine ⟨by simp [h1], fun p e hp => ?_, fun p c hp => ?_⟩
      · cases p with
        | zero => simp at hp; simp [hp]
        | succ p => exact h2 p e (by simpa using hp)
      · cases p with
        | zero => simp at hp
        | succ p => exact h3 p c (by simpa using hp)
  | .inr i :: as, args, h => by
    have key : ∃ c r, resA as t = some r ∧ args = Arg.ref c :: r ∧ (t[i]? = some (.own c) ∨ t[i]? = some (.bor c)) := by
      unfold resA at h
      split at h
      · rename_i c e
        cases q : resA as t with
        | none => rw [q] at h; cases h
        | some r => rw [q] at h; cases h; exact ⟨c, r, rfl, rfl, .inl e⟩
      · rename_i c e
        cases q : resA as t with
        | none => rw [q] at h; cases h
        | some r => rw [q] at h; cases h; exact ⟨c, r, rfl, rfl, .inr e⟩
      · cases h
    obtain ⟨c, r, q, rfl, hc⟩ := key
    obtain ⟨h1, h2, h3⟩ := resA_at q
    refine ⟨by simp [h1], fun p e hp => ?_, fun p c' hp => ?_⟩
    · cases p with
      | zero => simp at hp
      | succ p => exact h2 p e (by simpa using hp)
    · cases p with
      | zero => simp at hp; subst hp; exact ⟨i, by simp, hc⟩
      | succ p => exact h3 p c' (by simpa using hp)
theorem getElem?_modify' {α : Type} {l : List α} {i j : Nat} {f : α → α} : (l.modify i f)[j]? = if i = j then (l[j]?).map f else l[j]? := by
  rw [List.getElem?_modify]
  split <;> simp
theorem mem_refsA {as : List AV} {i : Nat} : i ∈ refsA as ↔ ∃ p : Nat, as[p]? = some (Sum.inr i : AV) := by
  unfold refsA
  rw [List.mem_filterMap]
  constructor
  · rintro ⟨a, ha, h⟩
    cases a with
    | inl d => cases h
    | inr j => cases h; exact List.getElem?_of_mem ha
  · rintro ⟨p, hp⟩
    exact ⟨_, List.mem_of_getElem? hp, rfl⟩
/-- the slots behind a call -/
theorem putA_at : ∀ {as : List AV} {args : List Arg} {outs : List Cell} {t t0 : TSt}, resA as t0 = some args → (refsA as).Nodup → (∀ p i, as[p]? = some (.inr i) → outAt args outs p ≠ none) →
    (putA as outs t).length = t.length ∧ (∀ j, j ∉ refsA as → (putA as outs t)[j]? = t[j]?) ∧ (∀ p i c, as[p]? = some (.inr i) → outAt args outs p = some c → (putA as outs t)[i]? = (t[i]?).map (reSlot c))
  | [], _, _, _, _, _, _, _ => by
    refine ⟨rfl, fun j _ => rfl, fun p i c h => by simp at h⟩
  | .inl d :: as, args, outs, t, t0, h, nd, ho => by
    unfold resA at h
    cases q : resA as t0 with
    | none => rw [q] at h; cases h
    | some r =>
      rw [q] at h; cases h
      obtain ⟨h1, h2, h3⟩ := putA_at (t := t) q nd (fun p i e => ho (p + 1) i (by simpa using e))
      refine ⟨h1, h2, fun p i c hp hc => ?_⟩
      cases p with
      | zero => simp at hp
      | succ p => exact h3 p i c (by simpa using hp) hc
  | .inr j :: as, args, outs, t, t0, h, nd, ho => by
    have key : ∃ c r, resA as t0 = some r ∧ args = Arg.ref c :: r := by
      unfold resA at h
      split at h
      · rename_i c e
        cases q : resA as t0 with
        | none => rw [q] at h; cases h
        | some r => rw [q] at h; cases h; exact ⟨c, r, rfl, rfl⟩
      · rename_i c e
        cases q : resA as t0 with
        | none => rw [q] at h; cases h
        | some r => rw [q] at h; cases h; exact ⟨c, r, rfl, rfl⟩
      · cases h
    obtain ⟨c, r, q, rfl⟩ := key
    have nd' : j ∉ refsA as ∧ (refsA as).Nodup := by
      have : refsA (.inr j :: as) = j :: refsA as := rfl
      rw [this] at nd
      exact List.nodup_cons.mp nd
    cases outs with
    | nil => exact absurd rfl (ho 0 j (by simp))
    | cons o outs =>
      obtain ⟨h1, h2, h3⟩ := putA_at (t := t.modify j (reSlot o)) q nd'.2 (fun p i e => ho (p + 1) i (by simpa using e))
      refine ⟨h1.trans (List.length_modify ..), fun i hi => ?_, fun p i c' hp hc => ?_⟩
      · have hi' : i ≠ j ∧ i ∉ refsA as := by
          have : refsA (.inr j :: as) = j :: refsA as := rfl
          rw [this] at hi
          exact ⟨fun e => hi (by rw [e]; exact List.mem_cons_self), fun e => hi (List.mem_cons_of_mem _ e)⟩
        rw [show putA (.inr j :: as) (o :: outs) t = putA as outs (t.modify j (reSlot o)) from rfl, h2 i hi'.2, getElem?_modify', if_neg (fun e => hi'.1 e.symm)]
      · rw [show putA (.inr j :: as) (o :: outs) t = putA as outs (t.modify j (reSlot o)) from rfl]
        cases p with
        | zero =>
          simp at hp
          subst hp
          have : c' = o := (Option.some.inj hc).symm
          subst this
          rw [h2 j nd'.1, getElem?_modify', if_pos rfl]
        | succ p =>
          have hp' : as[p]? = some (.inr i) := by simpa using hp
          have ne : j ≠ i := fun e => nd'.1 (by rw [e]; exact mem_refsA.mpr ⟨p, hp'⟩)
          rw [h3 p i c' hp' hc, getElem?_modify', if_neg ne]
theorem AVs.len {K : PySem.W.Frag} {F : Hp} {σ : L2.St} : ∀ {as : List AV} {vs : List V}, AVs K F σ as vs → vs.length = as.length
  | _, _, .nil => rfl
  | _, _, .v _ t => congrArg (· + 1) t.len
  | _, _, .r _ t => congrArg (· + 1) t.len
theorem AVs.val {K : PySem.W.Frag} {F : Hp} {σ : L2.St} : ∀ {as : List AV} {vs : List V} {p : Nat} {d : D}, AVs K F σ as vs → as[p]? = some (.inl d) → ∃ v, vs[p]? = some v ∧ Rep K F d v
  | _, _, _, _, .nil, e => by simp at e
  | _, _, 0, _, .v h _, e => by cases e; exact ⟨_, rfl, h⟩
  | _, _, p + 1, _, .v _ t, e => by
    obtain ⟨v, h1, h2⟩ := AVs.val (p := p) t (by simpa using e)
    exact ⟨v, by simpa using h1, h2⟩
  | _, _, 0, _, .r _ _, e => by simp at e
  | _, _, p + 1, _, .r _ t, e => by
    obtain ⟨v, h1, h2⟩ := AVs.val (p := p) t (by simpa using e)
    exact ⟨v, by simpa using h1, h2⟩
theorem AVs.ref {K : PySem.W.Frag} {F : Hp} {σ : L2.St} : ∀ {as : List AV} {vs : List V} {p i : Nat}, AVs K F σ as vs → as[p]? = some (.inr i) → ∃ v, vs[p]? = some v ∧ σ[i]? = some (some v)
  | _, _, _, _, .nil, e => by simp at e
  | _, _, 0, _, .v h _, e => by simp at e
  | _, _, p + 1, _, .v _ t, e => by
    obtain ⟨v, h1, h2⟩ := AVs.ref (p := p) t (by simpa using e)
    exact ⟨v, by simpa using h1, h2⟩
  | _, _, 0, _, .r h _, e => by simp at e; subst e; exact ⟨_, rfl, h⟩
  | _, _, p + 1, _, .r _ t, e => by
    obtain ⟨v, h1, h2⟩ := AVs.ref (p := p) t (by simpa using e)
    exact ⟨v, by simpa using h1, h2⟩
/-- the footprint of an argument that may be changed -/
def FpAt (K : PySem.W.Frag) (B : Base) (g : Gh) (t : TSt) (σ : L2.St) (H : Hp) (as : List AV) (args : List Arg) (p : Nat) (l : List Addr) : Prop :=
  ∃ i c a, as[p]? = some (.inr i) ∧ args[p]? = some (.ref c) ∧ σ[i]? = some (some (.ref a)) ∧ CellRel K g.F H c a l ∧ l.Nodup ∧ (∀ b ∈ l, g.ow b = some i) ∧ (t[i]? = some (.own c) ∨ t[i]? = some (.bor c) ∧ B.home i = some a)
theorem two_refs {as : List AV} (nd : (refsA as).Nodup) : ∀ {p q i : Nat}, as[p]? = some (.inr i) → as[q]? = some (.inr i) → p = q := by
  induction as with
  | nil => intro p q i h; simp at h
  | cons x as ih =>
    intro p q i hp hq
    cases x with
    | inl d =>
      cases p with
      | zero => simp at hp
      | succ p => cases q with
        | zero => simp at hq
        | succ q => exact congrArg (· + 1) (ih nd (p := p) (q := q) (i := i) (by simpa using hp) (by simpa using hq))
    | inr j =>
      have nd' : j ∉ refsA as ∧ (refsA as).Nodup := List.nodup_cons.mp (show (j :: refsA as).Nodup from nd)
      cases p with
      | zero =>
        cases q with
        | zero => rfl
        | succ q =>
          simp at hp; subst hp
          exact absurd (mem_refsA.mpr ⟨q, by simpa using hq⟩) nd'.1
      | succ p =>
        cases q with
        | zero =>
          simp at hq; subst hq
          exact absurd (mem_refsA.mpr ⟨p, by simpa using hp⟩) nd'.1
        | succ q => exact congrArg (· + 1) (ih nd'.2 (p := p) (q := q) (i := i) (by simpa using hp) (by simpa using hq))
theorem refFn {α : Type} (P : Nat → List α → Prop) : ∃ fp : Nat → List α, (∀ p l, P p l → P p (fp p)) ∧ ∀ p, (∀ l, ¬ P p l) → fp p = [] := by
  refine ⟨fun p => Classical.epsilon fun l => P p l ∨ ((∀ l, ¬ P p l) ∧ l = []), fun p l h => ?_, fun p h => ?_⟩
  · rcases Classical.epsilon_spec (p := fun l => P p l ∨ ((∀ l, ¬ P p l) ∧ l = [])) ⟨l, .inl h⟩ with z | z
    · exact z
    · exact absurd h (z.1 l)
  · rcases Classical.epsilon_spec (p := fun l => P p l ∨ ((∀ l, ¬ P p l) ∧ l = [])) ⟨[], .inr ⟨h, rfl⟩⟩ with z | z
    · exact absurd z (h _)
    · exact z.2
theorem args_of {K : PySem.W.Frag} {g : Gh} {t : TSt} {σ : L2.St} {H : Hp} {as : List AV} {args : List Arg} {vs : List V} (rl : Rel K B g t σ H) (nd : (refsA as).Nodup) (hr : resA as t = some args) (av : AVs K g.F σ as vs) :
    ∃ fp, ArgsRel K g.F H args vs fp ∧ ∀ (p : Nat) (c : Cell), args[p]? = some (.ref c) → FpAt K B g t σ H as args p (fp p) := by
  obtain ⟨h1, h2, h3⟩ := resA_at hr
  obtain ⟨fp, f1, f2⟩ := refFn (FpAt K B g t σ H as args)
  have ref : ∀ (p : Nat) (c : Cell), args[p]? = some (.ref c) → FpAt K B g t σ H as args p (fp p) := fun p c hp => by
    obtain ⟨i, hi, hs⟩ := h3 p c hp
    rcases hs with hs | hs
    · obtain ⟨a, l, ha, cr, n, o⟩ := rl.slot i _ hs
      exact f1 p l ⟨i, c, a, hi, hp, ha, cr, n, o, .inl hs⟩
    · obtain ⟨a, l, ha, hm, cr, n, o⟩ := rl.slot i _ hs
      exact f1 p l ⟨i, c, a, hi, hp, ha, cr, n, o, .inr ⟨hs, hm⟩⟩
  have non : ∀ p : Nat, (∀ c : Cell, args[p]? ≠ some (.ref c)) → fp p = [] := fun p hp => f2 p fun l ⟨i, c, a, _, hc, _⟩ => hp c hc
  have inn : ∀ p b, b ∈ fp p → ∃ c, args[p]? = some (.ref c) := fun p b hb => by
    refine Classical.byContradiction fun z => ?_
    rw [non p fun c hc => z ⟨c, hc⟩] at hb
    cases hb
  refine ⟨fp, ⟨by rw [av.len, h1], fun p d hp => av.val (h2 p d hp), fun p c hp => ?_, non, fun p q b hb hb' => ?_, fun p b hb => ?_, rl.tf⟩, ref⟩
  · obtain ⟨i, c', a, hi, hc, ha, cr, n, o, _⟩ := ref p c hp
    rw [hp] at hc; cases hc
    obtain ⟨v, hv, hv'⟩ := av.ref hi
    rw [ha] at hv'; cases hv'
    exact ⟨a, hv, cr, n⟩
  · obtain ⟨c, hc⟩ := inn p b hb
    obtain ⟨c', hc'⟩ := inn q b hb'
    obtain ⟨i, _, _, hi, _, _, _, _, o, _⟩ := ref p c hc
    obtain ⟨j, _, _, hj, _, _, _, _, o', _⟩ := ref q c' hc'
    have e := (o b hb).symm.trans (o' b hb')
    cases e
    exact two_refs nd hi hj
  · obtain ⟨c, hc⟩ := inn p b hb
    obtain ⟨i, _, _, hi, _, _, _, _, o, _⟩ := ref p c hc
    exact rl.fNone (o b hb)
open Classical in
theorem ow_mk (P : Addr → Nat → Prop) (Pu : ∀ b i j, P b i → P b j → i = j) (I : Addr → Prop) (ow : Addr → Option Nat) : ∃ ow' : Addr → Option Nat, (∀ b i, P b i → ow' b = some i) ∧ (∀ b, (¬ ∃ i, P b i) → ¬ I b → ow' b = ow b) ∧
    (∀ b i, ow' b = some i → P b i ∨ (¬ I b ∧ ow b = some i ∧ ¬ ∃ i, P b i)) := by
  refine ⟨fun b => if h : ∃ i, P b i then some (Classical.choose h) else if I b then none else ow b, fun b i h => ?_, fun b h h' => ?_, fun b i h => ?_⟩
  · have hx : ∃ i, P b i := ⟨i, h⟩
    dsimp only
    rw [dif_pos hx]
    exact congrArg some (Pu b _ _ (Classical.choose_spec hx) h)
  · dsimp only
    rw [dif_neg h, if_neg h']
  · dsimp only at h
    split at h
    · rename_i hx
      cases h
      exact .inl (Classical.choose_spec hx)
    · rename_i hx
      split at h
      · cases h
      · rename_i hy
        exact .inr ⟨hy, h, hx⟩
/-- behind the call -/
theorem rel_post {K : PySem.W.Frag} {g : Gh} {t : TSt} {σ : L2.St} {H : Hp} {as : List AV} {args : List Arg} {vs : List V} {fp fp' : Nat → List Addr} {outs : List Cell} {F' H' : Hp} (rl : Rel K B g t σ H) (nd : (refsA as).Nodup) (hr : resA as t = some args) (av : AVs K g.F σ as vs)
    (hf : ∀ (p : Nat) (c : Cell), args[p]? = some (.ref c) → FpAt K B g t σ H as args p (fp p)) (ar : ArgsRel K g.F H args vs fp) (po : Post K g.F H args vs fp outs F' H' fp') :
    ∃ ow', Rel K B ⟨F', ow'⟩ (putA as outs t) σ H' ∧ ∀ b, ow' b ≠ none → (InF fp' b ∨ g.ow b ≠ none) := by
  obtain ⟨h1, h2, h3⟩ := resA_at hr
  have inn : ∀ p b, b ∈ fp p → ∃ c, args[p]? = some (.ref c) := fun p b hb => by
    refine Classical.byContradiction fun z => ?_
    rw [ar.non p fun c hc => z ⟨c, hc⟩] at hb
    cases hb
  have inn' : ∀ p b, b ∈ fp' p → ∃ c, args[p]? = some (.ref c) := fun p b hb => by
    refine Classical.byContradiction fun z => ?_
    rw [po.non p fun c hc => z ⟨c, hc⟩] at hb
    cases hb
  have ho : ∀ p i, as[p]? = some (.inr i) → outAt args outs p ≠ none := fun p i hp => by
    have hl : p < args.length := by rw [h1]; exact (List.getElem?_eq_some_iff.mp hp).1
    have : ∃ c, args[p]? = some (.ref c) := by
      cases q : args[p]? with
      | none => rw [List.getElem?_eq_none_iff] at q; omega
      | some x =>
        cases x with
        | v d => have := h2 p d q; rw [hp] at this; cases this
        | ref c => exact ⟨c, rfl⟩
    obtain ⟨c, hc⟩ := this
    obtain ⟨a, c', _, e, _⟩ := po.out p c hc
    rw [e]; exact nofun
  obtain ⟨p1, p2, p3⟩ := putA_at (outs := outs) (t := t) hr nd ho
  -- whose an address is now
  obtain ⟨P, hP⟩ : ∃ P : Addr → Nat → Prop, P = fun b i => ∃ p, as[p]? = some (.inr i) ∧ b ∈ fp' p := ⟨_, rfl⟩
  have Pu : ∀ b i j, P b i → P b j → i = j := fun b i j z z' => by
    rw [hP] at z z'
    obtain ⟨p, hp, hb⟩ := z
    obtain ⟨q, hq, hb'⟩ := z'
    have e := po.dis p q b hb hb'
    subst e
    rw [hp] at hq; cases hq; rfl
  obtain ⟨ow', owP, owN, owS⟩ := ow_mk P Pu (InF fp) g.ow
  have Pin : ∀ b i, P b i → InF fp' b := fun b i z => by
    rw [hP] at z
    obtain ⟨p, _, h⟩ := z
    exact ⟨p, h⟩
  have Pre : ∀ b, InF fp' b → ∃ i, P b i := fun b ⟨p, hb⟩ => by
    obtain ⟨c, hc⟩ := inn' p b hb
    obtain ⟨i, _, _, hi, _⟩ := hf p c hc
    rw [hP]; exact ⟨i, p, hi, hb⟩
  have fpo : ∀ b, InF fp b → ∃ i, g.ow b = some i ∧ i ∈ refsA as := fun b ⟨p, hb⟩ => by
    obtain ⟨c, hc⟩ := inn p b hb
    obtain ⟨i, _, _, hi, _, _, _, _, o, _⟩ := hf p c hc
    exact ⟨i, o b hb, mem_refsA.mpr ⟨p, hi⟩⟩
  have base : ∀ a o, B.H a = some o → a ∉ B.foot → ¬ InF fp a := fun a o e n hb => by
    obtain ⟨i, hi, _⟩ := fpo a hb
    rw [(rl.old a o e n).2.1] at hi; cases hi
  refine ⟨ow', ⟨fun a o e => po.up _ _ (rl.base _ _ e), po.sub, fun a o e => ?_, fun a o e n => ?_, rl.ft, ⟨fun a e => rl.dom a (po.dom a e), po.dm.tf⟩, fun a i e => ?_, by rw [p1]; exact rl.len, fun i s e => ?_⟩, fun b h => ?_⟩
  · have e' : F' a = some o := e
    show ow' a = none
    cases q : ow' a with
    | none => rfl
    | some i =>
      rcases owS a i q with z | ⟨hy, hg, hx⟩
      · obtain ⟨p, hb⟩ := Pin a i z
        rw [(po.new p a hb).1] at e'; cases e'
      · obtain ⟨u, hu⟩ := rl.there a i hg
        rw [(po.keep a u hu hy).2 (rl.fNone hg)] at e'; cases e'
  · obtain ⟨z1, z2, z3⟩ := rl.old a o e n
    have nf := base a o e n
    refine ⟨(po.keep a o z1 nf).1, ?_, fun z => (po.keep a o z1 nf).2 (z3 z)⟩
    show ow' a = none
    rw [owN a (fun ⟨i, hPi⟩ => ?_) nf]
    · exact z2
    · obtain ⟨p, hb⟩ := Pin a i hPi
      rcases (po.new p a hb).2 with w | w
      · exact nf w
      · rw [z1] at w; cases w
  · rcases owS a i e with z | ⟨hy, hg, hx⟩
    · obtain ⟨p, hb⟩ := Pin a i z
      obtain ⟨c, hc⟩ := inn' p a hb
      obtain ⟨a', c', _, _, cr, _⟩ := po.out p c hc
      exact cr.there a hb
    · obtain ⟨u, hu⟩ := rl.there a i hg
      exact ⟨u, (po.keep a u hu hy).1⟩
  · by_cases hi : i ∈ refsA as
    · obtain ⟨p, hp⟩ := mem_refsA.mp hi
      have hl : p < args.length := by rw [h1]; exact (List.getElem?_eq_some_iff.mp hp).1
      obtain ⟨c, hc⟩ : ∃ c, args[p]? = some (.ref c) := by
        cases q : args[p]? with
        | none => rw [List.getElem?_eq_none_iff] at q; omega
        | some x =>
          cases x with
          | v d => have := h2 p d q; rw [hp] at this; cases this
          | ref c => exact ⟨c, rfl⟩
      obtain ⟨i', c0, a, hi', hc', ha, _, _, _, hs⟩ := hf p c hc
      rw [hp] at hi'; cases hi'
      rw [hc] at hc'; cases hc'
      obtain ⟨a', c', hv, ho', cr, n'⟩ := po.out p c hc
      obtain ⟨v, hv2, hv3⟩ := av.ref hp
      rw [ha] at hv3; cases hv3
      rw [hv] at hv2; cases hv2
      have es := p3 p i c' hp ho'
      rw [e] at es
      have own : ∀ b ∈ fp' p, ow' b = some i := fun b hb => owP b i (by rw [hP]; exact ⟨p, hp, hb⟩)
      rcases hs with hs | ⟨hs, hm⟩
      · rw [hs] at es
        cases es
        exact ⟨_, fp' p, ha, cr, n', own⟩
      · rw [hs] at es
        cases es
        exact ⟨_, fp' p, ha, hm, cr, n', own⟩
    · rw [p2 i hi] at e
      refine (rl.slot i s e).up po.up fun b hb => ?_
      have nf : ¬ InF fp b := fun hx => by
        obtain ⟨j, hj, hj'⟩ := fpo b hx
        rw [hb] at hj; cases hj; exact hi hj'
      obtain ⟨u, hu⟩ := rl.there b i hb
      refine ⟨?_, ((po.keep b u hu nf).1).trans hu.symm⟩
      rw [← hb]
      refine owN b (fun ⟨j, z⟩ => ?_) nf
      obtain ⟨p, hx⟩ := Pin b j z
      rcases (po.new p b hx).2 with w | w
      · exact nf w
      · rw [hu] at w; cases w
  · cases q : ow' b with
    | none => exact absurd q h
    | some i =>
      rcases owS b i q with hP | ⟨_, hg, _⟩
      · exact .inl (Pin b i hP)
      · exact .inr (by rw [hg]; exact nofun)
def toSlot : Arg → Slot
  | .v d => .v d
  | .ref c => .bor c
def start0 (n : Nat) (args : List Arg) : TSt := args.map toSlot ++ List.replicate (n - args.length) .un
def outsOf : List Arg → TSt → Option (List Cell)
  | [], _ => some []
  | .v _ :: as, _ :: t => outsOf as t
  | .ref _ :: as, .bor c :: t => (outsOf as t).map (c :: ·)
  | _, _ => none
def retO (args : List Arg) (t : TSt) (k : List Cell → Prop) : Prop := match outsOf args t with
  | some outs => k outs
  | none => False
theorem outsOf_at : ∀ {args : List Arg} {t : TSt} {outs : List Cell}, outsOf args t = some outs → ∀ (i : Nat) (c : Cell), args[i]? = some (.ref c) → ∃ c', t[i]? = some (.bor c') ∧ outAt args outs i = some c'
  | [], _, _, _, i, c, hi => by simp at hi
  | .v _ :: as, [], _, h, i, c, hi => by cases h
  | .v _ :: as, s :: t, outs, h, i, c, hi => by
    cases i with
    | zero => simp at hi
    | succ i =>
      obtain ⟨c', h1, h2⟩ := outsOf_at (show outsOf as t = some outs from h) i c (by simpa using hi)
      exact ⟨c', by simpa using h1, h2⟩
  | .ref _ :: as, [], _, h, i, c, hi => by cases h
  | .ref _ :: as, .un :: t, _, h, i, c, hi => by cases h
  | .ref _ :: as, .v _ :: t, _, h, i, c, hi => by cases h
  | .ref _ :: as, .own _ :: t, _, h, i, c, hi => by cases h
  | .ref _ :: as, .bor o :: t, outs, h, i, c, hi => by
    have h' : (outsOf as t).map (o :: ·) = some outs := h
    cases q : outsOf as t with
    | none => rw [q] at h'; cases h'
    | some r =>
      rw [q] at h'; cases h'
      cases i with
      | zero => exact ⟨o, rfl, rfl⟩
      | succ i =>
        obtain ⟨c', h1, h2⟩ := outsOf_at q i c (by simpa using hi)
        exact ⟨c', by simpa using h1, h2⟩
end
end TL
namespace TL
open PySem PySem.Spec PyProof.Rows L2
section
variable {K : PySem.W.Frag} {F H : Hp} {args : List Arg} {vs : List V} {fp : Nat → List Addr}
def footOf (args : List Arg) (fp : Nat → List Addr) : List Addr := (List.range args.length).flatMap fp
def homeOf (vs : List V) (i : Nat) : Option Addr := match vs[i]? with
  | some (.ref a) => some a
  | _ => none
theorem mem_foot (ar : ArgsRel K F H args vs fp) {b : Addr} : b ∈ footOf args fp ↔ InF fp b := by
  unfold footOf InF
  rw [List.mem_flatMap]
  constructor
  · rintro ⟨i, _, h⟩; exact ⟨i, h⟩
  · rintro ⟨i, h⟩
    refine ⟨i, List.mem_range.mpr ?_, h⟩
    rcases Nat.lt_or_ge i args.length with z | z
    · exact z
    · rw [ar.non i (fun c hc => by rw [List.getElem?_eq_none z] at hc; cases hc)] at h
      cases h
def base0 (H F : Hp) (args : List Arg) (vs : List V) (fp : Nat → List Addr) : Base := ⟨H, F, footOf args fp, homeOf vs⟩
theorem start0_get {n i : Nat} {s : Slot} (h : (start0 n args)[i]? = some s) : (∃ a, args[i]? = some a ∧ s = toSlot a) ∨ (s = .un) := by
  unfold start0 at h
  by_cases hi : i < args.length
  · rw [List.getElem?_append_left (by rw [List.length_map]; exact hi), List.getElem?_map] at h
    cases q : args[i]? with
    | none => rw [q] at h; cases h
    | some a => rw [q] at h; exact .inl ⟨a, rfl, (Option.some.inj h).symm⟩
  · rw [List.getElem?_append_right (by rw [List.length_map]; omega)] at h
    rw [List.getElem?_replicate] at h
    split at h
    · exact .inr (Option.some.inj h).symm
    · cases h
theorem start_at {N : List Str} {i : Nat} {v : V} (h : vs[i]? = some v) : (L2.start N vs)[i]? = some (some v) := by
  have hi : i < vs.length := (List.getElem?_eq_some_iff.mp h).1
  unfold L2.start
  rw [List.getElem?_append_left (by rw [List.length_map]; exact hi), List.getElem?_map, h]
  rfl
theorem rel0 {N : List Str} (sF : Same F H) (ar : ArgsRel K F H args vs fp) (hn : args.length ≤ N.length) : ∃ ow, Rel K (base0 H F args vs fp) ⟨F, ow⟩ (start0 N.length args) (L2.start N vs) H := by
  obtain ⟨ow, o1, o2, o3⟩ := ow_mk (fun b i => b ∈ fp i) (fun b i j h h' => ar.dis i j b h h') (fun _ => False) (fun _ => none)
  have inn : ∀ i b, b ∈ fp i → ∃ o, H b = some o := fun i b hb => by
    have : ∃ c, args[i]? = some (.ref c) := by
      refine Classical.byContradiction fun z => ?_
      rw [ar.non i fun c hc => z ⟨c, hc⟩] at hb
      cases hb
    obtain ⟨c, hc⟩ := this
    obtain ⟨a, _, cr, _⟩ := ar.cel i c hc
    exact cr.there b hb
  have ow_none : ∀ b, ¬ InF fp b → ow b = none := fun b hb => (o2 b (fun ⟨i, h⟩ => hb ⟨i, h⟩) id)
  refine ⟨ow, ⟨sRefl, sF, fun a o e => ?_, fun a o e n => ⟨e, ow_none a fun z => n ((mem_foot ar).mpr z), fun z => z⟩, fun b hb => ?_, ⟨fun a e => e, ar.tf⟩, fun a i e => ?_, ?_, fun i s e => ?_⟩⟩
  · refine ow_none a fun ⟨i, h⟩ => ?_
    have e' : F a = some o := e
    rw [ar.fre i a h] at e'; cases e'
  · obtain ⟨i, h⟩ := (mem_foot ar).mp hb
    exact inn i b h
  · rcases o3 a i e with h | ⟨_, h, _⟩
    · exact inn i a h
    · cases h
  · unfold start0 L2.start
    rw [List.length_append, List.length_append, List.length_map, List.length_map, List.length_replicate, List.length_replicate, ar.len]
  · rcases start0_get e with ⟨a, ha, rfl⟩ | rfl
    · cases a with
      | v d =>
        obtain ⟨v, hv, r⟩ := ar.val i d ha
        exact ⟨v, start_at hv, r⟩
      | ref c =>
        obtain ⟨a, hv, cr, nd⟩ := ar.cel i c ha
        refine ⟨a, fp i, start_at hv, ?_, cr, nd, fun b hb => o1 b i hb⟩
        show homeOf vs i = some a
        unfold homeOf
        rw [hv]
    · trivial
theorem post_of {g : Gh} {t : TSt} {σ : L2.St} {H' : Hp} {outs : List Cell} (ar : ArgsRel K F H args vs fp) (rl : Rel K (base0 H F args vs fp) g t σ H') (ho : outsOf args t = some outs) :
    ∃ fp', Post K F H args vs fp outs g.F H' fp' ∧ ∀ b, InF fp' b → g.ow b ≠ none := by
  obtain ⟨fp', f1, f2⟩ := refFn (fun i (l : List Addr) => ∃ c c' a, args[i]? = some (Arg.ref c) ∧ vs[i]? = some (.ref a) ∧ outAt args outs i = some c' ∧ CellRel K g.F H' c' a l ∧ l.Nodup ∧ ∀ b ∈ l, g.ow b = some i)
  have ref : ∀ (i : Nat) (c : Cell), args[i]? = some (.ref c) → ∃ c c' a, args[i]? = some (Arg.ref c) ∧ vs[i]? = some (.ref a) ∧ outAt args outs i = some c' ∧ CellRel K g.F H' c' a (fp' i) ∧ (fp' i).Nodup ∧ ∀ b ∈ fp' i, g.ow b = some i := fun i c hc => by
    obtain ⟨c', h1, h2⟩ := outsOf_at ho i c hc
    obtain ⟨a, l, _, hm, cr, nd, o⟩ := rl.slot i _ h1
    obtain ⟨a', hv, _⟩ := ar.cel i c hc
    have hm' : homeOf vs i = some a := hm
    unfold homeOf at hm'
    rw [hv] at hm'
    cases hm'
    exact f1 i l ⟨c, c', a, hc, hv, h2, cr, nd, o⟩
  have non : ∀ i : Nat, (∀ c : Cell, args[i]? ≠ some (.ref c)) → fp' i = [] := fun i hi => f2 i fun l ⟨c, _, _, hc, _⟩ => hi c hc
  have inn : ∀ i b, b ∈ fp' i → g.ow b = some i := fun i b hb => by
    have : ∃ c, args[i]? = some (.ref c) := by
      refine Classical.byContradiction fun z => ?_
      rw [non i fun c hc => z ⟨c, hc⟩] at hb
      cases hb
    obtain ⟨c, hc⟩ := this
    obtain ⟨_, _, _, _, _, _, _, _, o⟩ := ref i c hc
    exact o b hb
  refine ⟨fp', ⟨rl.base, rl.sub, fun a o e n => ?_, rl.dm, fun i c hc => ?_, non, fun i j b h h' => ?_, fun i b hb => ⟨rl.fNone (inn i b hb), ?_⟩⟩, fun b ⟨i, h⟩ => by rw [inn i b h]; exact nofun⟩
  · obtain ⟨h1, _, h3⟩ := rl.old a o e fun z => n ((mem_foot ar).mp z)
    exact ⟨h1, h3⟩
  · obtain ⟨_, c', a, _, hv, h2, cr, nd, _⟩ := ref i c hc
    exact ⟨a, c', hv, h2, cr, nd⟩
  · have e := (inn i b h).symm.trans (inn j b h')
    exact Option.some.inj e
  · rcases rl.fresh (inn i b hb) with z | z
    · exact .inr z
    · exact .inl ((mem_foot ar).mp z)
theorem ret_of {g : Gh} {H' : Hp} {fp' : Nat → List Addr} {r : R} {v : V} (hf : ∀ b, InF fp' b → g.ow b ≠ none) (rr : ResRel K (base0 H F args vs fp) g H' r v) : RetRel K g.F H' H fp' r v := by
  cases r with
  | v d => exact rr
  | own c =>
    obtain ⟨a, l, e, cr, nd, o⟩ := rr
    exact ⟨a, l, e, cr, nd, fun b hb => ⟨(o b hb).2.1, (o b hb).2.2, fun z => hf b z (o b hb).1⟩⟩
end
/-- the wish about exceptions within a def, the ends of its body -/
def fnX (args : List Arg) (PX : String → Pay → List Cell → Prop) : TX := fun cls pay t => retO args t (PX cls pay)
def fnD (args : List Arg) (PQ : R → List Cell → Prop) : TD := ⟨fun t => retO args t (PQ (.v .non)), fun r t => retO args t (PQ r), fun _ => False, fun _ => False⟩
section
variable {P : Program} {w : World} {K : PySem.W.Frag} {mg : Str → Option Value} {base : Heap}
end
end TL
namespace TL
open PySem PySem.Spec PyProof.Rows L2
mutual
def D.py : D → PyData
  | .non => .none
  | .bl b => .bool b
  | .int i => .int i
  | .str x => .str x
  | .tup l => .tuple (D.pyL l)
  | .lst l => .list (D.pyL l)
  | .scr l => .list (D.pyL l)
  | .dct _ _ => .none
  | .ty _ => .none
  | .ref _ => .none
  | .exc _ => .none
  | .exp _ => .none
  | .xtp _ => .none
  | .cl _ => .none
  | .obj _ _ => .none
def D.pyL : List D → List PyData
  | [] => []
  | d :: ds => d.py :: D.pyL ds
end
mutual
/-- numbers, truths, None, texts, tuples and lists of such -/
def D.pl : D → Bool
  | .non => true
  | .bl _ => true
  | .int _ => true
  | .str _ => true
  | .tup l => D.plL l
  | .lst l => D.plL l
  | .scr l => D.plL l
  | .dct _ _ => false
  | .ty _ => false
  | .ref _ => false
  | .exc _ => false
  | .exp _ => false
  | .xtp _ => false
  | .cl _ => false
  | .obj _ _ => false
def D.plL : List D → Bool
  | [] => true
  | d :: ds => d.pl && D.plL ds
end
section
variable {K : PySem.W.Frag} {F H : Hp}
mutual
theorem Rep.dp (s : Same F H) : ∀ {d : D} {v : V}, Rep K F d v → d.pl = true → Dp K H v d.py
  | _, _, .non, _ => .non
  | _, _, .bl b, _ => .bl b
  | _, _, .int i, _ => .int i
  | _, _, .str x, _ => .str x
  | _, _, .ty _, h => by simp [D.pl] at h
  | _, _, .ref, h => by simp [D.pl] at h
  | _, _, .tup e r, h => .tup (.inl (.inl (s _ _ e))) (Reps.dp s r (by simpa [D.pl] using h))
  | _, _, .lst e r, h => .lst (.inl (.inl (s _ _ e))) (Reps.dp s r (by simpa [D.pl] using h))
  | _, _, .scr e r, h => .lst (SqL.up s e) (Reps.dp s r (by simpa [D.pl] using h))
  | _, _, .dctK _ _, h => by simp [D.pl] at h
  | _, _, .dctT _ _, h => by simp [D.pl] at h
  | _, _, .xtp _ _, h => by simp [D.pl] at h
theorem Reps.dp (s : Same F H) : ∀ {ds : List D} {vs : List V}, Reps K F ds vs → D.plL ds = true → DpAll K H vs (D.pyL ds)
  | _, _, .nil, _ => .nil
  | _, _, .cons a b, h => by
    simp only [D.plL, Bool.and_eq_true] at h
    exact .cons (Rep.dp s a h.1) (Reps.dp s b h.2)
end
theorem RepH.dp (s : Same F H) {d : D} {v : V} (h : RepH K F H d v) (e : d.pl = true) : Dp K H v d.py := by
  cases h with
  | rep r => exact r.dp s e
  | lst e' r => exact .lst (.inl (.inl e')) (r.dp s (by simpa [D.pl] using e))
  | dctK _ _ => simp [D.pl] at e
  | dctT _ _ => simp [D.pl] at e
mutual
theorem D.py_plain : ∀ d : D, d.pl = true → d.py.plain = true
  | .non, _ => rfl
  | .bl _, _ => rfl
  | .int _, _ => rfl
  | .str _, _ => rfl
  | .tup l, h => D.pyL_plain l (by simpa [D.pl] using h)
  | .lst l, h => D.pyL_plain l (by simpa [D.pl] using h)
  | .scr l, h => D.pyL_plain l (by simpa [D.pl] using h)
  | .dct _ _, h => by simp [D.pl] at h
  | .ty _, h => by simp [D.pl] at h
  | .ref _, h => by simp [D.pl] at h
theorem D.pyL_plain : ∀ ds : List D, D.plL ds = true → PyData.plainAll (D.pyL ds) = true
  | [], _ => rfl
  | d :: ds, h => by
    simp only [D.plL, Bool.and_eq_true] at h
    show (d.py.plain && PyData.plainAll (D.pyL ds)) = true
    rw [D.py_plain d h.1, D.pyL_plain ds h.2]
    rfl
end
end
abbrev Op2 := D → D → (R → Prop) → Prop
def mulOk (i j : Int) : Prop := i.natAbs < 2 ^ 250 ∧ j.natAbs < 2 ^ 250
def dAdd : Op2
  | .int i, .int j, Q => Q (.v (.int (i + j)))
  | .tup a, .tup b, Q => a.length + b.length ≤ sizeLine ∧ Q (.v (.tup (a ++ b)))
  | .lst a, .lst b, Q => a.length + b.length ≤ sizeLine ∧ Q (.own (.lst (a ++ b)))
  | .str a, .str b, Q => a.length + b.length ≤ sizeLine ∧ Q (.v (.str (a ++ b)))
  | _, _, _ => False
def dSub : Op2
  | .int i, .int j, Q => Q (.v (.int (i - j)))
  | _, _, _ => False
def dMul : Op2
  | .int i, .int j, Q => mulOk i j ∧ Q (.v (.int (i * j)))
  | .lst a, .int k, Q => small k ∧ a.length * k.toNat ≤ sizeLine ∧ Q (.own (.lst (List.replicate k.toNat a).flatten))
  | _, _, _ => False
/-- by a positive number -/
def dDiv : Op2
  | .int i, .int j, Q => (0 < j ∧ j.natAbs < 2 ^ 250) ∧ Q (.v (.int (i / j)))
  | _, _, _ => False
def dMod : Op2
  | .int i, .int j, Q => 0 < j ∧ Q (.v (.int (i % j)))
  | _, _, _ => False
def dPow : Op2
  | .int i, .int j, Q => CPow i j ∧ Q (.v (.int (i ^ j.toNat)))
  | _, _, _ => False
def dShl : Op2
  | .int i, .int j, Q => CPow i j ∧ Q (.v (.int (i * 2 ^ j.toNat)))
  | _, _, _ => False
def dShr : Op2
  | .int i, .int j, Q => 0 ≤ j ∧ Q (.v (.int (i / 2 ^ j.toNat)))
  | _, _, _ => False
def dAnd : Op2
  | .int i, .int j, Q => Q (.v (.int (Builtin.bitAnd i j)))
  | _, _, _ => False
def iAdd : Op2
  | .int i, .int j, Q => Q (.v (.int (i + j)))
  | _, _, _ => False
def iMul : Op2
  | .int i, .int j, Q => CMul i j ∧ Q (.v (.int (i * j)))
  | _, _, _ => False
def pyEq (x y : D) : Bool := PyData.eqv x.py y.py
def eqOk (x y : D) : Prop := x.pl = true ∧ y.pl = true ∧ min x.py.depth y.py.depth ≤ 64
def dEq : Op2 := fun x y Q => eqOk x y ∧ Q (.v (.bl (pyEq x y)))
def dNe : Op2 := fun x y Q => eqOk x y ∧ Q (.v (.bl (!pyEq x y)))
def dLt : Op2
  | .int i, .int j, Q => Q (.v (.bl (decide (i < j))))
  | .str a, .str b, Q => Q (.v (.bl (decide (a.cps.toList < b.cps.toList))))
  | _, _, _ => False
def dLe : Op2
  | .int i, .int j, Q => Q (.v (.bl (decide (i ≤ j))))
  | _, _, _ => False
def dGt : Op2
  | .int i, .int j, Q => Q (.v (.bl (decide (j < i))))
  | _, _, _ => False
def dGe : Op2
  | .int i, .int j, Q => Q (.v (.bl (decide (j ≤ i))))
  | _, _, _ => False
/-- in, not in: lists and tuples, texts -/
def memD (x : D) (l : List D) : Bool := l.any fun y => pyEq y x
def dIn : Op2
  | x, .tup l, Q => x.pl = true ∧ D.plL l = true ∧ x.py.depth ≤ 64 ∧ Q (.v (.bl (memD x l)))
  | x, .lst l, Q => x.pl = true ∧ D.plL l = true ∧ x.py.depth ≤ 64 ∧ Q (.v (.bl (memD x l)))
  | .str x, .str y, Q => Q (.v (.bl (!(Builtin.Str.occurrences y x 0 y.length 1).isEmpty)))
  | _, _, _ => False
def dNotIn : Op2
  | x, .tup l, Q => x.pl = true ∧ D.plL l = true ∧ x.py.depth ≤ 64 ∧ Q (.v (.bl (!memD x l)))
  | x, .lst l, Q => x.pl = true ∧ D.plL l = true ∧ x.py.depth ≤ 64 ∧ Q (.v (.bl (!memD x l)))
  | _, _, _ => False
def D.isNon : D → Bool
  | .non => true
  | _ => false
def dIs : Op2
  | x, .non, Q => Q (.v (.bl x.isNon))
  | _, _, _ => False
def dIsNot : Op2
  | x, .non, Q => Q (.v (.bl (!x.isNon)))
  | _, _, _ => False
section
variable {B : Base} {X : Cx}
/-- an operation whose answer is a number, a truth, a text: by its rule on values -/
theorem OpT.mk {f : Value → Value → Sem Value} {o : Op2} (h : ∀ (pins : List (Addr × Obj)) (s : Shared) (σ : L2.St) (H : Hp) (x y : V) (v u : Value) (Q : VK) (g : Gh) (t : TSt) (σ' : L2.St) (dx dy : D) (P : R → Prop), Inv X pins σ H s → RelV x v → RelV y u →
    Rel X.K B g t σ' H → RepH X.K g.F H dx x → RepH X.K g.F H dy y → o dx dy P → (∀ r, P r → ∀ g' v H', Same g.F g'.F → Rel X.K B g' t σ' H' → ResRel X.K B g' H' r v → Q v H') → wpAny (model X.prog X.w) X.A (f v u) (EP X pins σ Q) X.xe s) : OpT B X f o := by
  intro pins s σ H x y v u Q I rx ry hh
  obtain ⟨g, t, σ', dx, dy, P, rl, r1, r2, m, k⟩ := hh
  exact h pins s σ H x y v u Q g t σ' dx dy P I rx ry rl r1 r2 m k
/-- two whole numbers -/
theorem OpT.int2 {f : Value → Value → Sem Value} {o : Op2} {C : Int → Int → Prop} {c : Int → Int → V} {e : Int → Int → D} (h : OpR X f (rI C c)) (he : ∀ i j F, Rep X.K F (e i j) (c i j))
    (ho : ∀ x y Q, o x y Q → ∃ i j, x = .int i ∧ y = .int j ∧ C i j ∧ Q (.v (e i j))) : OpT B X f o := by
  refine .mk fun pins s σ H x y v u Q g t σ' dx dy P I rx ry rl r1 r2 m k => ?_
  obtain ⟨i, j, rfl, rfl, hc, hp⟩ := ho _ _ _ m
  exact h pins s σ H x y v u Q I rx ry ⟨i, j, r1.int_inv, r2.int_inv, hc, k _ hp g _ H sRefl rl (he i j _)⟩
theorem rI_of {f : Value → Value → Sem Value} {c : Int → Int → V} (h : OpR X f (rI0 c)) : OpR X f (rI (fun _ _ => True) c) := fun pins s σ H x y v u Q I rx ry ⟨i, j, e1, e2, _, q⟩ => h pins s σ H x y v u Q I rx ry ⟨i, j, e1, e2, q⟩
theorem O_sub : OpT B X (binaryOp .Sub) dSub := .int2 (rI_of op_sub) (e := fun i j => .int (i - j)) (fun _ _ _ => .int _) fun x y Q h => by
  unfold dSub at h
  split at h
  · exact ⟨_, _, rfl, rfl, trivial, h⟩
  · exact h.elim
theorem O_div : OpT B X (binaryOp .FloorDiv) dDiv := .int2 op_fdivW (e := fun i j => .int (i / j)) (fun _ _ _ => .int _) fun x y Q h => by
  unfold dDiv at h
  split at h
  · exact ⟨_, _, rfl, rfl, wide_div h.1.1 h.1.2 (by decide) (by decide), h.2⟩
  · exact h.elim
theorem O_mod : OpT B X (binaryOp .Mod) dMod := .int2 op_mod (e := fun i j => .int (i % j)) (fun _ _ _ => .int _) fun x y Q h => by
  unfold dMod at h
  split at h
  · exact ⟨_, _, rfl, rfl, h.1, h.2⟩
  · exact h.elim
theorem O_pow : OpT B X (binaryOp .Pow) dPow := .int2 op_pow (e := fun i j => .int (i ^ j.toNat)) (fun _ _ _ => .int _) fun x y Q h => by
  unfold dPow at h
  split at h
  · exact ⟨_, _, rfl, rfl, h.1, h.2⟩
  · exact h.elim
theorem O_and : OpT B X (binaryOp .BitAnd) dAnd := .int2 (rI_of op_and) (e := fun i j => .int (Builtin.bitAnd i j)) (fun _ _ _ => .int _) fun x y Q h => by
  unfold dAnd at h
  split at h
  · exact ⟨_, _, rfl, rfl, trivial, h⟩
  · exact h.elim
theorem O_le : OpT B X (compareOp .LtE) dLe := .int2 (rI_of op_le) (e := fun i j => .bl (decide (i ≤ j))) (fun _ _ _ => .bl _) fun x y Q h => by
  unfold dLe at h
  split at h
  · exact ⟨_, _, rfl, rfl, trivial, h⟩
  · exact h.elim
theorem O_gt : OpT B X (compareOp .Gt) dGt := .int2 (rI_of op_gt) (e := fun i j => .bl (decide (j < i))) (fun _ _ _ => .bl _) fun x y Q h => by
  unfold dGt at h
  split at h
  · exact ⟨_, _, rfl, rfl, trivial, h⟩
  · exact h.elim
theorem O_ge : OpT B X (compareOp .GtE) dGe := .int2 (rI_of op_ge) (e := fun i j => .bl (decide (j ≤ i))) (fun _ _ _ => .bl _) fun x y Q h => by
  unfold dGe at h
  split at h
  · exact ⟨_, _, rfl, rfl, trivial, h⟩
  · exact h.elim
theorem O_lt : OpT B X (compareOp .Lt) dLt := .mk fun pins s σ H x y v u Q g t σ' dx dy P I rx ry rl r1 r2 m k => by
  unfold dLt at m
  split at m
  · exact op_lt pins s σ H x y v u Q I rx ry ⟨_, _, r1.int_inv, r2.int_inv, k _ m g _ H sRefl rl (Rep.bl _)⟩
  · exact op_lt_str pins s σ H x y v u Q I rx ry ⟨_, _, r1.str_inv, r2.str_inv, k _ m g _ H sRefl rl (Rep.bl _)⟩
  · exact m.elim
theorem Rep.isNon {K : PySem.W.Frag} {F : Hp} {d : D} {v : V} (r : Rep K F d v) : d.isNon = decide (v = .non) := by cases r <;> rfl
theorem RepH.isNon {K : PySem.W.Frag} {F H : Hp} {d : D} {v : V} (r : RepH K F H d v) : d.isNon = decide (v = .non) := by
  cases r with
  | rep r => exact r.isNon
  | _ => rfl
theorem O_is : OpT B X (compareOp .Is) dIs := .mk fun pins s σ H x y v u Q g t σ' dx dy P I rx ry rl r1 r2 m k => by
  unfold dIs at m
  split at m
  · refine op_isN pins s σ H x y v u Q I rx ry ⟨r2.non_inv, ?_⟩
    rw [← r1.isNon]
    exact k _ m g _ H sRefl rl (Rep.bl _)
  · exact m.elim
theorem O_eq (hu : X.A.units + 66 < cLine) : OpT B X (compareOp .Eq) dEq := .mk fun pins s σ H x y v u Q g t σ' dx dy P I rx ry rl r1 r2 m k => by
  obtain ⟨⟨p1, p2, p3⟩, m⟩ := m
  obtain ⟨as, e1⟩ := Dp.reads I _ x v (r1.dp rl.sub p1) rx
  obtain ⟨bs, e2⟩ := Dp.reads I _ y u (r2.dp rl.sub p2) ry
  exact SeqAt.eq_plain e1 e2 (D.py_plain _ p1) (D.py_plain _ p2) (by omega) ⟨.bl _, H, I, rfl, k _ m g _ H sRefl rl (Rep.bl _)⟩
theorem O_ne (hu : X.A.units + 66 < cLine) : OpT B X (compareOp .NotEq) dNe := .mk fun pins s σ H x y v u Q g t σ' dx dy P I rx ry rl r1 r2 m k => by
  obtain ⟨⟨p1, p2, p3⟩, m⟩ := m
  obtain ⟨as, e1⟩ := Dp.reads I _ x v (r1.dp rl.sub p1) rx
  obtain ⟨bs, e2⟩ := Dp.reads I _ y u (r2.dp rl.sub p2) ry
  exact SeqAt.ne_plain e1 e2 (D.py_plain _ p1) (D.py_plain _ p2) (by omega) ⟨.bl _, H, I, rfl, k _ m g _ H sRefl rl (Rep.bl _)⟩
theorem any_py (x : D) : ∀ l : List D, ((D.pyL l).any fun y => PyData.eqv y x.py) = memD x l
  | [] => rfl
  | y :: l => by
    show (PyData.eqv y.py x.py || (D.pyL l).any fun y => PyData.eqv y x.py) = (pyEq y x || memD x l)
    rw [any_py x l]; rfl
theorem O_in (hu : X.A.units + 66 < cLine) : OpT B X (compareOp .In) dIn := .mk fun pins s σ H x y v u Q g t σ' dx dy P I rx ry rl r1 r2 m k => by
  unfold dIn at m
  split at m
  · rename_i l
    obtain ⟨p1, p2, p3, m⟩ := m
    obtain ⟨as, e1⟩ := Dp.reads I _ x v (r1.dp rl.sub p1) rx
    obtain ⟨bs, e2⟩ := Dp.reads I _ y u (r2.dp rl.sub (by simpa [D.pl] using p2)) ry
    refine SeqAt.in_tuple_data e2 e1 (D.pyL_plain _ p2) (D.py_plain _ p1) (by omega) ⟨.bl _, H, I, rfl, ?_⟩
    rw [any_py]
    exact k _ m g _ H sRefl rl (Rep.bl _)
  · rename_i l
    obtain ⟨p1, p2, p3, m⟩ := m
    obtain ⟨as, e1⟩ := Dp.reads I _ x v (r1.dp rl.sub p1) rx
    obtain ⟨bs, e2⟩ := Dp.reads I _ y u (r2.dp rl.sub (by simpa [D.pl] using p2)) ry
    refine SeqAt.in_list_data e2 e1 (D.pyL_plain _ p2) (D.py_plain _ p1) (by omega) ⟨.bl _, H, I, rfl, ?_⟩
    rw [any_py]
    exact k _ m g _ H sRefl rl (Rep.bl _)
  · exact op_in_str pins s σ H x y v u Q I rx ry ⟨_, _, r1.str_inv, r2.str_inv, k _ m g _ H sRefl rl (Rep.bl _)⟩
  · exact m.elim
/-- a result that is a new object of nobody's -/
theorem newOwn {K : PySem.W.Frag} {g : Gh} {t : TSt} {σ : L2.St} {H : Hp} {p : Addr} {ds : List D} {vs : List V} (rl : Rel K B g t σ H) (hp : H p = none) (r : Reps K g.F ds vs) : Rel K B g t σ (upd H p (.lst vs)) ∧ ResRel K B g (upd H p (.lst vs)) (.own (.lst ds)) (.ref p) := by
  obtain ⟨r1, o1, o2, o3⟩ := rl.newO (o := .lst vs) hp
  exact ⟨r1, p, [p], rfl, .lst upd_same r, by simp, fun b hb => by rw [List.mem_singleton.mp hb]; exact ⟨o1, o2, o3⟩⟩
theorem newTup {K : PySem.W.Frag} {g : Gh} {t : TSt} {σ : L2.St} {H : Hp} {p : Addr} {ds : List D} {vs : List V} (rl : Rel K B g t σ H) (hp : H p = none) (r : Reps K g.F ds vs) : ∃ g', Same g.F g'.F ∧ Rel K B g' t σ (upd H p (.tup vs)) ∧ Rep K g'.F (.tup ds) (.ref p) := by
  obtain ⟨s, r1⟩ := rl.newF (o := .tup vs) hp
  exact ⟨_, s, r1, .tup upd_same (r.up s)⟩
theorem Reps.nil_iff {K : PySem.W.Frag} {F : Hp} {ds : List D} {vs : List V} (r : Reps K F ds vs) : vs = [] ↔ ds = [] := by cases r <;> simp
theorem O_add : OpT B X (binaryOp .Add) dAdd := .mk fun pins s σ H x y v u Q g t σ' dx dy P I rx ry rl r1 r2 m k => by
  unfold dAdd at m
  split at m
  · exact op_add pins s σ H x y v u Q I rx ry ⟨_, _, r1.int_inv, r2.int_inv, k _ m g _ H sRefl rl (Rep.int _)⟩
  · obtain ⟨a, vs, rfl, ha, ra⟩ := r1.tup_inv rl.sub
    obtain ⟨b, ws, rfl, hb, rb⟩ := r2.tup_inv rl.sub
    refine op_catA pins s σ H _ _ v u Q I rx ry ⟨a, b, vs, ws, rfl, rfl, .of ha, .of hb, by rw [ra.length, rb.length]; exact m.1, fun z => ?_, fun z1 z2 => ?_, fun z1 z2 p hp => ?_⟩
    · cases ra with
      | nil =>
        cases r2 with
        | rep r2 => exact k _ m.2 g _ H sRefl rl r2
      | cons _ _ => cases z
    · cases rb with
      | nil =>
        cases r1 with
        | rep r1 => exact k _ m.2 g _ H sRefl rl (by rw [List.append_nil]; exact r1)
      | cons _ _ => cases z2
    · obtain ⟨g', s', rl', rr⟩ := newTup rl hp (ra.append rb)
      exact k _ m.2 g' _ _ s' rl' rr
  · obtain ⟨a, vs, rfl, ha, ra⟩ := r1.lst_inv rl.sub
    obtain ⟨b, ws, rfl, hb, rb⟩ := r2.lst_inv rl.sub
    refine op_cat pins s σ H _ _ v u Q I rx ry ⟨a, b, vs, ws, rfl, rfl, ha, hb, by rw [ra.length, rb.length]; exact m.1, fun p hp => ?_⟩
    obtain ⟨rl', rr⟩ := newOwn rl hp (ra.append rb)
    exact k _ m.2 g _ _ sRefl rl' rr
  · exact op_add_str pins s σ H x y v u Q I rx ry ⟨_, _, r1.str_inv, r2.str_inv, m.1, k _ m.2 g _ H sRefl rl (Rep.str _)⟩
  · exact m.elim
theorem Reps.rep {K : PySem.W.Frag} {F : Hp} {ds : List D} {vs : List V} (r : Reps K F ds vs) : ∀ k : Nat, Reps K F (List.replicate k ds).flatten (List.replicate k vs).flatten
  | 0 => .nil
  | k + 1 => by
    rw [List.replicate_succ, List.replicate_succ, List.flatten_cons, List.flatten_cons]
    exact r.append (Reps.rep r k)
theorem O_mul : OpT B X (binaryOp .Mult) dMul := .mk fun pins s σ H x y v u Q g t σ' dx dy P I rx ry rl r1 r2 m k => by
  unfold dMul at m
  split at m
  · exact op_mulW pins s σ H x y v u Q I rx ry ⟨_, _, r1.int_inv, r2.int_inv, wide_mul m.1.1 m.1.2 (by decide) (by decide) (by decide), k _ m.2 g _ H sRefl rl (Rep.int _)⟩
  · obtain ⟨a, vs, rfl, ha, ra⟩ := r1.lst_inv rl.sub
    obtain ⟨⟨h1, h2⟩, h3, m⟩ := m
    refine op_rep pins s σ H _ _ v u Q I rx ry ⟨a, _, vs, rfl, r2.int_inv, ha, by omega, by omega, by rw [ra.length]; exact h3, fun p hp => ?_⟩
    obtain ⟨rl', rr⟩ := newOwn rl hp (ra.rep _)
    exact k _ m g _ _ sRefl rl' rr
  · exact m.elim
/-- name += e -/
theorem I_add : OpT B X (inplaceOp .Add) iAdd := .mk fun pins s σ H x y v u Q g t σ' dx dy P I rx ry rl r1 r2 m k => by
  unfold iAdd at m
  split at m
  · exact iop_add pins s σ H x y v u Q I rx ry ⟨_, _, r1.int_inv, r2.int_inv, k _ m g _ H sRefl rl (Rep.int _)⟩
  · exact m.elim
theorem I_mul : OpT B X (inplaceOp .Mult) iMul := .mk fun pins s σ H x y v u Q g t σ' dx dy P I rx ry rl r1 r2 m k => by
  unfold iMul at m
  split at m
  · exact iop_mul pins s σ H x y v u Q I rx ry ⟨_, _, r1.int_inv, r2.int_inv, m.1, k _ m.2 g _ H sRefl rl (Rep.int _)⟩
  · exact m.elim
/-- -e -/
def wNeg (a : WE) : WE := fun W t Q => a W t fun r t1 => match r with
  | .v (.int i) => Q (.v (.int (-i))) t1
  | _ => False
def wTup (a : WA) : WE := fun W t Q => a W t fun ds t1 => ds.length ≤ sizeLine ∧ Q (.v (.tup ds)) t1
def wLst (a : WA) : WE := fun W t Q => a W t fun ds t1 => ds.length ≤ sizeLine ∧ Q (.own (.lst ds)) t1
theorem T_tup {es : List Expr} {wa : WA} {x1 : Nat} {pos : Pos} (h : PAT B X es wa) : PET B X (.Tuple es x1 pos) (wTup wa) := fun W tk => PE.imp (pe_tup (h W tk)) fun σ H Q q => by
  obtain ⟨g, t, P, rl, m, k⟩ := q
  refine ⟨g, t, _, rl, m, fun ds t1 m1 g1 vs H1 s1 rl1 rs1 => ⟨by rw [rs1.length]; exact m1.1, fun p hp => ?_⟩⟩
  obtain ⟨g', s', rl', rr⟩ := newTup rl1 hp rs1
  exact k _ _ m1.2 g' _ _ (s1.trans s') rl' rr
theorem T_lst {es : List Expr} {wa : WA} {pos : Pos} (h : PAT B X es wa) : PET B X (.List es pos) (wLst wa) := fun W tk => PE.imp (pe_lst (h W tk)) fun σ H Q q => by
  obtain ⟨g, t, P, rl, m, k⟩ := q
  refine ⟨g, t, _, rl, m, fun ds t1 m1 g1 vs H1 s1 rl1 rs1 => ⟨by rw [rs1.length]; exact m1.1, fun p hp => ?_⟩⟩
  obtain ⟨rl', rr⟩ := newOwn rl1 hp rs1
  exact k _ _ m1.2 g1 _ _ s1 rl' rr
end
end TL
namespace TL
open PySem PySem.Spec PyProof.Rows L2
inductive RepHs (K : PySem.W.Frag) (F H : Hp) : List D → List V → Prop
  | nil : RepHs K F H [] []
  | cons {d : D} {v : V} {ds : List D} {vs : List V} : RepH K F H d v → RepHs K F H ds vs → RepHs K F H (d :: ds) (v :: vs)
theorem Reps.toH {K : PySem.W.Frag} {F H : Hp} : ∀ {ds : List D} {vs : List V}, Reps K F ds vs → RepHs K F H ds vs
  | _, _, .nil => .nil
  | _, _, .cons a b => .cons (.rep a) b.toH
theorem RepHs.one {K : PySem.W.Frag} {F H : Hp} {d : D} {vs : List V} (h : RepHs K F H [d] vs) : ∃ v, vs = [v] ∧ RepH K F H d v := by
  cases h with
  | cons a b => cases b; exact ⟨_, rfl, a⟩
theorem RepHs.two {K : PySem.W.Frag} {F H : Hp} {d e : D} {vs : List V} (h : RepHs K F H [d, e] vs) : ∃ v u, vs = [v, u] ∧ RepH K F H d v ∧ RepH K F H e u := by
  cases h with
  | cons a b => obtain ⟨u, rfl, r⟩ := b.one; exact ⟨_, _, rfl, a, r⟩
theorem RepK.length {K : PySem.W.Frag} {F : Hp} : ∀ {ds : List (D × D)} {vs : List (Key × V)}, RepK K F ds vs → vs.length = ds.length
  | _, _, .nil => rfl
  | _, _, .cons _ r => congrArg (· + 1) (RepK.length r)
theorem RepT.length {K : PySem.W.Frag} {F : Hp} : ∀ {ds : List (D × D)} {vs : List (List Key × V)}, RepT K F ds vs → vs.length = ds.length
  | _, _, .nil => rfl
  | _, _, .cons _ r => congrArg (· + 1) (RepT.length r)
abbrev OpN := List D → (R → Prop) → Prop
/-- a call of a built-in, on data -/
def CallT (B : Base) (X : Cx) (f : Value) (o : OpN) : Prop :=
  CallR X f fun xs H Q => ∃ g t σ ds P, Rel X.K B g t σ H ∧ RepHs X.K g.F H ds xs ∧ o ds P ∧ ∀ r, P r → ∀ g' v H', Same g.F g'.F → Rel X.K B g' t σ H' → ResRel X.K B g' H' r v → Q v H'
def wBi (o : OpN) (a : WA) : WE := fun W t Q => a W t fun ds t1 => o ds fun r => Q r t1
/-- .. of one thing read where it stands -/
def wBiK (o : OpN) (i : Nat) : WE := fun _ t Q => pk t i fun d => o [d] fun r => Q r t
section
variable {B : Base} {X : Cx} {e : Expr} {es : List Expr} {wa : WA} {o : OpN} {x id T : String} {p pos : Pos}
theorem bi_of {W : TX} {f : Value} {σ : L2.St} {H : Hp} {Q : VK} (h : tOf X.K B (wBi o wa W) σ H Q) :
    tCB (fun xs H Q => ∃ g t σ ds P, Rel X.K B g t σ H ∧ RepHs X.K g.F H ds xs ∧ o ds P ∧ ∀ r, P r → ∀ g' v H', Same g.F g'.F → Rel X.K B g' t σ H' → ResRel X.K B g' H' r v → Q v H') (taOf X.K B (wa W)) σ H Q := by
  obtain ⟨g, t, P, rl, m, k⟩ := h
  refine ⟨g, t, _, rl, m, fun ds t1 m1 g1 vs H1 s1 rl1 rs1 => ?_⟩
  exact ⟨g1, t1, σ, ds, _, rl1, rs1.toH, m1, fun r m2 g2 v H2 s2 rl2 rr2 => k _ _ m2 g2 v H2 (s1.trans s2) rl2 rr2⟩
theorem T_bi {nm : Str} (ho : CallT B X (.builtin id) o) (hm : X.mg nm = none) (ha : PAT B X (e :: es) wa) (hv : bootBuiltins nm = some (.builtin id) := by decide +kernel) (hg : Gl X nm := by rfl) (hn : nm ≠ "__name__" := by decide) (hdb : (nm == ("__debug__" : Str)) = false := by rfl)
    (he : starEach (e :: es) X.env = (false, eval e X.env) :: starEach es X.env := by rfl) (hpl : (backTo pos (starEach es X.env)).any (·.1) = false := by rfl) : PET B X (.Call (.Name nm p) (e :: es) [] pos) (wBi o wa) :=
  fun W tk => PE.imp (pe_callB ho hg hm hv (ha W tk) hn hdb he hpl) fun σ H Q h => bi_of (f := .builtin id) h
theorem T_bty {nm : Str} (ho : CallT B X (.type T) o) (hm : X.mg nm = none) (ha : PAT B X (e :: es) wa) (hv : bootBuiltins nm = some (.type T) := by decide +kernel) (hg : Gl X nm := by rfl) (hn : nm ≠ "__name__" := by decide) (hdb : (nm == ("__debug__" : Str)) = false := by rfl)
    (he : starEach (e :: es) X.env = (false, eval e X.env) :: starEach es X.env := by rfl) (hpl : (backTo pos (starEach es X.env)).any (·.1) = false := by rfl) : PET B X (.Call (.Name nm p) (e :: es) [] pos) (wBi o wa) :=
  fun W tk => PE.imp (pe_callTy ho hg hm hv (ha W tk) hn hdb he hpl) fun σ H Q h => bi_of (f := .type T) h
theorem biK_of {W : TX} {i : Nat} {σ : L2.St} {H : Hp} {Q : VK} (h : tOf X.K B (wBiK o i W) σ H Q) :
    tCB (fun xs H Q => ∃ g t σ ds P, Rel X.K B g t σ H ∧ RepHs X.K g.F H ds xs ∧ o ds P ∧ ∀ r, P r → ∀ g' v H', Same g.F g'.F → Rel X.K B g' t σ H' → ResRel X.K B g' H' r v → Q v H') (tCons (tVar i) tNil) σ H Q := by
  obtain ⟨g, t, P, rl, m, k⟩ := h
  have m' : pk t i fun d => o [d] fun r => P r t := m
  unfold pk at m'
  split at m'
  · rename_i d hd
    obtain ⟨v, hv, rv⟩ := peek_at rl hd
    exact ⟨v, hv, g, t, σ, [d], _, rl, .cons rv .nil, m', fun r m2 g2 v H2 s2 rl2 rr2 => k _ _ m2 g2 v H2 s2 rl2 rr2⟩
  · exact m'.elim
theorem T_biK (i : Nat) {nm y : Str} {pos' : Pos} (ho : CallT B X (.builtin id) o) (hm : X.mg nm = none) (hv : bootBuiltins nm = some (.builtin id) := by decide +kernel) (hg : Gl X nm := by rfl) (hn : nm ≠ "__name__" := by decide) (hdb : (nm == ("__debug__" : Str)) = false := by rfl)
    (hN : X.N[i]? = some y := by rfl) (hy : Vis X.env.scope y := by first | exact Or.inl rfl | exact Or.inr (Or.inl rfl) | exact Or.inr (Or.inr rfl)) (hd : (y == ("__debug__" : Str)) = false := by rfl) (hcd : (y == ("__classdict__" : Str)) = false := by rfl)
    (he : starEach [.Name y pos'] X.env = (false, eval (.Name y pos') X.env) :: starEach [] X.env := by rfl) : PET B X (.Call (.Name nm p) [.Name y pos'] [] pos) (wBiK o i) :=
  fun W tk => PE.imp (pe_callB ho hg hm hv (pa_cons (pe_var hN hy hd hcd) pa_nil he) hn hdb he rfl) fun σ H Q h => biK_of h
theorem T_btyK (i : Nat) {nm y : Str} {pos' : Pos} (ho : CallT B X (.type T) o) (hm : X.mg nm = none) (hv : bootBuiltins nm = some (.type T) := by decide +kernel) (hg : Gl X nm := by rfl) (hn : nm ≠ "__name__" := by decide) (hdb : (nm == ("__debug__" : Str)) = false := by rfl)
    (hN : X.N[i]? = some y := by rfl) (hy : Vis X.env.scope y := by first | exact Or.inl rfl | exact Or.inr (Or.inl rfl) | exact Or.inr (Or.inr rfl)) (hd : (y == ("__debug__" : Str)) = false := by rfl) (hcd : (y == ("__classdict__" : Str)) = false := by rfl)
    (he : starEach [.Name y pos'] X.env = (false, eval (.Name y pos') X.env) :: starEach [] X.env := by rfl) : PET B X (.Call (.Name nm p) [.Name y pos'] [] pos) (wBiK o i) :=
  fun W tk => PE.imp (pe_callTy ho hg hm hv (pa_cons (pe_var hN hy hd hcd) pa_nil he) hn hdb he rfl) fun σ H Q h => biK_of h
/-- a built-in class as a value -/
theorem T_type {nm : Str} (n : String) (hm : X.mg nm = none) (hv : bootBuiltins nm = some (.type n) := by decide +kernel) (hg : Gl X nm := by rfl) (hn : nm ≠ "__name__" := by decide) (hdb : (nm == ("__debug__" : Str)) = false := by rfl) : PET B X (.Name nm pos) (wC (.ty n)) :=
  T_c (pe_bltn hg hm hv (show RelV (.ty n) (.type n) from rfl) hn hdb) fun _ => .ty n
theorem CallT.mk {f : Value} (h : ∀ (pins : List (Addr × Obj)) (s : Shared) (σ : L2.St) (H : Hp) (xs : List V) (us : List Value) (Q : VK) (g : Gh) (t : TSt) (σ' : L2.St) (ds : List D) (P : R → Prop), Inv X pins σ H s → Vals xs us →
    Rel X.K B g t σ' H → RepHs X.K g.F H ds xs → o ds P → (∀ r, P r → ∀ g' v H', Same g.F g'.F → Rel X.K B g' t σ' H' → ResRel X.K B g' H' r v → Q v H') → wpAny (model X.prog X.w) X.A (call f us) (EP X pins σ Q) X.xe s) : CallT B X f o := by
  intro pins s σ H xs us Q I rs hh
  obtain ⟨g, t, σ', ds, P, rl, r1, m, k⟩ := hh
  exact h pins s σ H xs us Q g t σ' ds P I rs rl r1 m k
end
def D.tyN : D → Option String
  | .non => some "NoneType"
  | .bl _ => some "bool"
  | .int _ => some "int"
  | .str _ => some "str"
  | .tup _ => some "tuple"
  | .lst _ => some "list"
  | .dct _ _ => some "dict"
  | _ => none
def isiD (d : D) (n : String) : Option Bool := d.tyN.bind fun m => kitB m n
def nIsi : OpN
  | [d, .ty n], Q => match isiD d n with
    | some b => Q (.v (.bl b))
    | none => False
  | _, _ => False
def nLen : OpN
  | [.tup l], Q => Q (.v (.int l.length))
  | [.lst l], Q => Q (.v (.int l.length))
  | [.scr l], Q => Q (.v (.int l.length))
  | [.str x], Q => x.length ≤ sizeLine ∧ Q (.v (.int x.length))
  | [.dct .k l], Q => Q (.v (.int l.length))
  | [.dct .t l], Q => Q (.v (.int l.length))
  | [.xtp l], Q => Q (.v (.int l.length))
  | _, _ => False
def nInt : OpN
  | [.int i], Q => Q (.v (.int i))
  | [.bl b], Q => Q (.v (.int (if b then 1 else 0)))
  | _, _ => False
def nAbs : OpN
  | [.int i], Q => Q (.v (.int (if i < 0 then -i else i)))
  | _, _ => False
def nMax2 : OpN
  | [.int i, .int j], Q => Q (.v (.int (if j > i then j else i)))
  | _, _ => False
def nMin2 : OpN
  | [.int i, .int j], Q => Q (.v (.int (if j < i then j else i)))
  | _, _ => False
/-- the whole numbers, the truths of a list of such -/
def D.ints : List D → Option (List Int)
  | [] => some []
  | .int i :: ds => (D.ints ds).map (i :: ·)
  | _ => none
def D.bls : List D → Option (List Bool)
  | [] => some []
  | .bl i :: ds => (D.bls ds).map (i :: ·)
  | _ => none
def onInts (l : List D) (k : List Int → Prop) : Prop := match D.ints l with
  | some ns => k ns
  | none => False
def onBls (l : List D) (k : List Bool → Prop) : Prop := match D.bls l with
  | some ns => k ns
  | none => False
def nSum : OpN
  | [.lst l], Q => onInts l fun ns => Q (.v (.int ns.sum))
  | _, _ => False
def nAll : OpN
  | [.lst l], Q => onBls l fun bs => Q (.v (.bl (bs.all id)))
  | _, _ => False
def nAny : OpN
  | [.lst l], Q => onBls l fun bs => Q (.v (.bl (bs.any id)))
  | _, _ => False
def nTuple : OpN
  | [.lst l], Q => Q (.v (.tup l))
  | [.tup l], Q => Q (.v (.tup l))
  | _, _ => False
def nList : OpN
  | [.lst l], Q => Q (.own (.lst l))
  | [.tup l], Q => Q (.own (.lst l))
  | [.scr l], Q => Q (.own (.lst l))
  | _, _ => False
theorem ints_some : ∀ {l : List D} {ns : List Int}, D.ints l = some ns → l = ns.map D.int
  | [], ns, h => by cases h; rfl
  | d :: l, ns, h => by
    cases d with
    | int i =>
      have h' : (D.ints l).map (i :: ·) = some ns := h
      cases q : D.ints l with
      | none => rw [q] at h'; cases h'
      | some r => rw [q] at h'; cases h'; rw [ints_some q]; rfl
    | _ => cases h
theorem ints_map : ∀ ns : List Int, D.ints (ns.map D.int) = some ns
  | [] => rfl
  | n :: ns => by show (D.ints (ns.map D.int)).map (n :: ·) = some (n :: ns); rw [ints_map ns]; rfl
theorem bls_some : ∀ {l : List D} {ns : List Bool}, D.bls l = some ns → l = ns.map D.bl
  | [], ns, h => by cases h; rfl
  | d :: l, ns, h => by
    cases d with
    | bl i =>
      have h' : (D.bls l).map (i :: ·) = some ns := h
      cases q : D.bls l with
      | none => rw [q] at h'; cases h'
      | some r => rw [q] at h'; cases h'; rw [bls_some q]; rfl
    | _ => cases h
theorem bls_map : ∀ ns : List Bool, D.bls (ns.map D.bl) = some ns
  | [] => rfl
  | n :: ns => by show (D.bls (ns.map D.bl)).map (n :: ·) = some (n :: ns); rw [bls_map ns]; rfl
theorem Reps.ints {K : PySem.W.Frag} {F : Hp} : ∀ {ns : List Int} {vs : List V}, Reps K F (ns.map D.int) vs → vs = ns.map V.int
  | [], _, h => by cases h; rfl
  | n :: ns, _, h => by
    cases h with
    | cons a b => cases a; rw [Reps.ints b]; rfl
theorem Reps.bls {K : PySem.W.Frag} {F : Hp} : ∀ {ns : List Bool} {vs : List V}, Reps K F (ns.map D.bl) vs → vs = ns.map V.bl
  | [], _, h => by cases h; rfl
  | n :: ns, _, h => by
    cases h with
    | cons a b => cases a; rw [Reps.bls b]; rfl
section
variable {B : Base} {X : Cx}
theorem N_len : CallT B X (.builtin "len") nLen := .mk fun pins s σ H xs us Q g t σ' ds P I rs rl r m k => by
  unfold nLen at m
  split at m
  · obtain ⟨v, rfl, r1⟩ := r.one
    obtain ⟨a, vs, rfl, ha, ra⟩ := r1.tup_inv rl.sub
    exact call_len_seq pins s σ H _ us Q I rs ⟨a, vs, rfl, .inr (.of ha), by rw [ra.length]; exact k _ m g _ H sRefl rl (Rep.int _)⟩
  · obtain ⟨v, rfl, r1⟩ := r.one
    obtain ⟨a, vs, rfl, ha, ra⟩ := r1.lst_inv rl.sub
    exact call_len_seq pins s σ H _ us Q I rs ⟨a, vs, rfl, .inl (.of ha), by rw [ra.length]; exact k _ m g _ H sRefl rl (Rep.int _)⟩
  · obtain ⟨v, rfl, r1⟩ := r.one
    obtain ⟨a, vs, rfl, ha, ra⟩ := r1.scr_inv rl.sub
    exact call_len_seq pins s σ H _ us Q I rs ⟨a, vs, rfl, .inl ha, by rw [ra.length]; exact k _ m g _ H sRefl rl (Rep.int _)⟩
  · obtain ⟨v, rfl, r1⟩ := r.one
    cases r1.str_inv
    exact call_len_str pins s σ H _ us Q I rs ⟨_, rfl, m.1, k _ m.2 g _ H sRefl rl (Rep.int _)⟩
  · obtain ⟨v, rfl, r1⟩ := r.one
    obtain ⟨a, kvs, rfl, ha, ra⟩ := r1.dK_inv rl.sub
    exact call_lenD pins s σ H _ us Q I rs ⟨a, kvs, rfl, ha, by rw [ra.length]; exact k _ m g _ H sRefl rl (Rep.int _)⟩
  · obtain ⟨v, rfl, r1⟩ := r.one
    obtain ⟨a, kvs, rfl, ha, ra⟩ := r1.dT_inv rl.sub
    exact call_len_dT pins s σ H _ us Q I rs ⟨a, kvs, rfl, ha, by rw [ra.length]; exact k _ m g _ H sRefl rl (Rep.int _)⟩
  · obtain ⟨v, rfl, r1⟩ := r.one
    obtain ⟨a, vs, rfl, ha, ra⟩ := r1.xtp_inv rl.sub
    exact call_len_seq pins s σ H _ us Q I rs ⟨a, vs, rfl, .inr ha.seq, by rw [ra.length]; exact k _ m g _ H sRefl rl (Rep.int _)⟩
  · exact m.elim
theorem N_int : CallT B X (.type "int") nInt := .mk fun pins s σ H xs us Q g t σ' ds P I rs rl r m k => by
  unfold nInt at m
  split at m
  · obtain ⟨v, rfl, r1⟩ := r.one
    cases r1.int_inv
    exact call_int1 pins s σ H _ us Q I rs (.inl ⟨_, rfl, k _ m g _ H sRefl rl (Rep.int _)⟩)
  · obtain ⟨v, rfl, r1⟩ := r.one
    cases r1.bl_inv
    exact call_int1 pins s σ H _ us Q I rs (.inr ⟨_, rfl, k _ m g _ H sRefl rl (Rep.int _)⟩)
  · exact m.elim
theorem N_abs : CallT B X (.builtin "abs") nAbs := .mk fun pins s σ H xs us Q g t σ' ds P I rs rl r m k => by
  unfold nAbs at m
  split at m
  · obtain ⟨v, rfl, r1⟩ := r.one
    cases r1.int_inv
    exact call_abs pins s σ H _ us Q I rs ⟨_, rfl, k _ m g _ H sRefl rl (Rep.int _)⟩
  · exact m.elim
theorem N_max2 (hc : X.calm = true := by rfl) : CallT B X (.builtin "max") nMax2 := .mk fun pins s σ H xs us Q g t σ' ds P I rs rl r m k => by
  unfold nMax2 at m
  split at m
  · obtain ⟨v, u, rfl, r1, r2⟩ := r.two
    cases r1.int_inv
    cases r2.int_inv
    exact call_max2 hc pins s σ H _ us Q I rs ⟨_, _, rfl, k _ m g _ H sRefl rl (Rep.int _)⟩
  · exact m.elim
theorem N_min2 (hc : X.calm = true := by rfl) : CallT B X (.builtin "min") nMin2 := .mk fun pins s σ H xs us Q g t σ' ds P I rs rl r m k => by
  unfold nMin2 at m
  split at m
  · obtain ⟨v, u, rfl, r1, r2⟩ := r.two
    cases r1.int_inv
    cases r2.int_inv
    exact call_min2 hc pins s σ H _ us Q I rs ⟨_, _, rfl, k _ m g _ H sRefl rl (Rep.int _)⟩
  · exact m.elim
theorem N_all (hc : X.calm = true := by rfl) : CallT B X (.builtin "all") nAll := .mk fun pins s σ H xs us Q g t σ' ds P I rs rl r m k => by
  unfold nAll at m
  split at m
  · obtain ⟨v, rfl, r1⟩ := r.one
    obtain ⟨a, vs, rfl, ha, ra⟩ := r1.lst_inv rl.sub
    unfold onBls at m
    split at m
    · rename_i ns hn
      rw [bls_some hn] at ra
      rw [ra.bls] at ha
      exact cr_all hc pins s σ H _ us Q I rs ⟨a, ns, rfl, .of ha, k _ m g _ H sRefl rl (Rep.bl _)⟩
    · exact m.elim
  · exact m.elim
theorem N_tuple : CallT B X (.type "tuple") nTuple := .mk fun pins s σ H xs us Q g t σ' ds P I rs rl r m k => by
  unfold nTuple at m
  split at m
  · obtain ⟨v, rfl, r1⟩ := r.one
    obtain ⟨a, vs, rfl, ha, ra⟩ := r1.lst_inv rl.sub
    refine call_tuple_of pins s σ H _ us Q I rs ⟨a, vs, rfl, .inl ⟨.of ha, fun p hp => ?_⟩⟩
    obtain ⟨g', s', rl', rr⟩ := newTup rl hp ra
    exact k _ m g' _ _ s' rl' rr
  · obtain ⟨v, rfl, r1⟩ := r.one
    obtain ⟨a, vs, rfl, ha, ra⟩ := r1.tup_inv rl.sub
    refine call_tuple_of pins s σ H _ us Q I rs ⟨a, vs, rfl, .inr ⟨.of ha, ?_⟩⟩
    cases r1 with
    | rep r1 => exact k _ m g _ H sRefl rl r1
  · exact m.elim
end
end TL
namespace TL
open PySem PySem.Spec PyProof.Rows L2
def D.key? : D → Option Key
  | .int i => some (.inl i)
  | .str x => some (.inr x)
  | _ => none
def D.keys? : List D → Option (List Key)
  | [] => some []
  | d :: ds => match d.key? with
    | some k => (D.keys? ds).map (k :: ·)
    | none => none
/-- the key of a dict of this kind -/
def D.isKey : KK → D → Bool
  | .k, d => d.key?.isSome
  | .t, .tup l => (D.keys? l).isSome
  | .t, _ => false
/-- one key is the other -/
def keq (a b : D) : Bool := match a, b with
  | .int i, .int j => decide (i = j)
  | .str x, .str y => decide (x = y)
  | .tup l, .tup m => decide (D.keys? l = D.keys? m)
  | _, _ => false
def lookD (l : List (D × D)) (k : D) : Option D := (l.find? fun p => keq p.1 k).map (·.2)
def putD (l : List (D × D)) (k v : D) : List (D × D) := if (l.any fun p => keq p.1 k) = true then l.map (fun p => if keq p.1 k = true then (p.1, v) else p) else l ++ [(k, v)]
theorem key_some {d : D} {k : Key} (h : d.key? = some k) : d = kD k := by
  cases d <;> cases h <;> rfl
theorem key_kD (k : Key) : (kD k).key? = some k := by cases k <;> rfl
theorem keys_some : ∀ {l : List D} {ks : List Key}, D.keys? l = some ks → l = ks.map kD
  | [], ks, h => by cases h; rfl
  | d :: l, ks, h => by
    unfold D.keys? at h
    split at h
    · rename_i k hk
      cases q : D.keys? l with
      | none => rw [q] at h; cases h
      | some r => rw [q] at h; cases h; rw [key_some hk, keys_some q]; rfl
    · cases h
theorem keys_kD : ∀ ks : List Key, D.keys? (ks.map kD) = some ks
  | [] => rfl
  | k :: ks => by
    show (match (kD k).key? with | some k => (D.keys? (ks.map kD)).map (k :: ·) | none => none) = some (k :: ks)
    rw [key_kD, keys_kD ks]; rfl
theorem keq_kD (a b : Key) : keq (kD a) (kD b) = decide (a = b) := by
  cases a with
  | inl i => cases b with
    | inl j => exact (decide_eq_decide.mpr ⟨fun e => by rw [e], fun e => Sum.inl.inj e⟩)
    | inr y => rfl
  | inr x => cases b with
    | inl j => rfl
    | inr y => exact (decide_eq_decide.mpr ⟨fun e => by rw [e], fun e => Sum.inr.inj e⟩)
theorem keq_kT (a b : List Key) : keq (kT a) (kT b) = decide (a = b) := by
  show decide (D.keys? (a.map kD) = D.keys? (b.map kD)) = _
  rw [keys_kD, keys_kD]
  exact decide_eq_decide.mpr ⟨fun e => Option.some.inj e, fun e => by rw [e]⟩
section
variable {K : PySem.W.Frag} {F H : Hp}
def LookRel (K : PySem.W.Frag) (F : Hp) (o : Option D) (r : Option V) : Prop := (o = none ∧ r = none) ∨ ∃ d v, o = some d ∧ r = some v ∧ Rep K F d v
theorem RepK.look (k : Key) : ∀ {ds : List (D × D)} {kvs : List (Key × V)}, RepK K F ds kvs → LookRel K F (lookD ds (kD k)) (valV kvs k)
  | _, _, .nil => .inl ⟨rfl, rfl⟩
  | _, _, .cons (k := k') (d := d) (v := v) (ds := ds) (vs := vs) h t => by
    have ih := RepK.look k t
    unfold lookD at ih ⊢
    rw [List.find?_cons]
    by_cases e : k' = k
    · rw [keq_kD, decide_eq_true e, valV_pos e]
      exact .inr ⟨d, v, rfl, rfl, h⟩
    · rw [keq_kD, decide_eq_false e, valV_neg e]
      exact ih
theorem RepT.look (k : List Key) : ∀ {ds : List (D × D)} {kvs : List (List Key × V)}, RepT K F ds kvs → LookRel K F (lookD ds (kT k)) (valV kvs k)
  | _, _, .nil => .inl ⟨rfl, rfl⟩
  | _, _, .cons (k := k') (d := d) (v := v) (ds := ds) (vs := vs) h t => by
    have ih := RepT.look k t
    unfold lookD at ih ⊢
    rw [List.find?_cons]
    by_cases e : k' = k
    · rw [keq_kT, decide_eq_true e, valV_pos e]
      exact .inr ⟨d, v, rfl, rfl, h⟩
    · rw [keq_kT, decide_eq_false e, valV_neg e]
      exact ih
theorem RepK.any (k : Key) : ∀ {ds : List (D × D)} {kvs : List (Key × V)}, RepK K F ds kvs → (kvs.any fun p => decide (p.1 = k)) = ds.any fun p => keq p.1 (kD k)
  | _, _, .nil => rfl
  | _, _, .cons h t => by rw [List.any_cons, List.any_cons, keq_kD, RepK.any k t]
theorem RepT.any (k : List Key) : ∀ {ds : List (D × D)} {kvs : List (List Key × V)}, RepT K F ds kvs → (kvs.any fun p => decide (p.1 = k)) = ds.any fun p => keq p.1 (kT k)
  | _, _, .nil => rfl
  | _, _, .cons h t => by rw [List.any_cons, List.any_cons, keq_kT, RepT.any k t]
theorem RepK.mapPut (k : Key) {d : D} {v : V} (r : Rep K F d v) : ∀ {ds : List (D × D)} {kvs : List (Key × V)}, RepK K F ds kvs → RepK K F (ds.map fun p => if keq p.1 (kD k) = true then (p.1, d) else p) (kvs.map fun p => if p.1 = k then (p.1, v) else p)
  | _, _, .nil => .nil
  | _, _, .cons (k := k') h t => by
    rw [List.map_cons, List.map_cons]
    show RepK K F ((if keq (kD k') (kD k) = true then _ else _) :: _) ((if k' = k then _ else _) :: _)
    rw [keq_kD]
    by_cases e : k' = k
    · rw [if_pos (decide_eq_true e), if_pos e]; exact .cons r (RepK.mapPut k r t)
    · rw [if_neg (by simpa using e), if_neg e]; exact .cons h (RepK.mapPut k r t)
theorem RepT.mapPut (k : List Key) {d : D} {v : V} (r : Rep K F d v) : ∀ {ds : List (D × D)} {kvs : List (List Key × V)}, RepT K F ds kvs → RepT K F (ds.map fun p => if keq p.1 (kT k) = true then (p.1, d) else p) (kvs.map fun p => if p.1 = k then (p.1, v) else p)
  | _, _, .nil => .nil
  | _, _, .cons (k := k') h t => by
    rw [List.map_cons, List.map_cons]
    show RepT K F ((if keq (kT k') (kT k) = true then _ else _) :: _) ((if k' = k then _ else _) :: _)
    rw [keq_kT]
    by_cases e : k' = k
    · rw [if_pos (decide_eq_true e), if_pos e]; exact .cons r (RepT.mapPut k r t)
    · rw [if_neg (by simpa using e), if_neg e]; exact .cons h (RepT.mapPut k r t)
theorem RepK.app : ∀ {ds es : List (D × D)} {vs us : List (Key × V)}, RepK K F ds vs → RepK K F es us → RepK K F (ds ++ es) (vs ++ us)
  | _, _, _, _, .nil, h => h
  | _, _, _, _, .cons a b, h => .cons a (RepK.app b h)
theorem RepT.app : ∀ {ds es : List (D × D)} {vs us : List (List Key × V)}, RepT K F ds vs → RepT K F es us → RepT K F (ds ++ es) (vs ++ us)
  | _, _, _, _, .nil, h => h
  | _, _, _, _, .cons a b, h => .cons a (RepT.app b h)
theorem RepK.put (k : Key) {d : D} {v : V} (r : Rep K F d v) {ds : List (D × D)} {kvs : List (Key × V)} (h : RepK K F ds kvs) : RepK K F (putD ds (kD k) d) (putK kvs k v) := by
  unfold putD putK
  rw [h.any k]
  split
  · exact h.mapPut k r
  · exact h.app (.cons r .nil)
theorem RepT.put (k : List Key) {d : D} {v : V} (r : Rep K F d v) {ds : List (D × D)} {kvs : List (List Key × V)} (h : RepT K F ds kvs) : RepT K F (putD ds (kT k) d) (putK kvs k v) := by
  unfold putD putK
  rw [h.any k]
  split
  · exact h.mapPut k r
  · exact h.app (.cons r .nil)
theorem Reps.keys : ∀ {ks : List Key} {vs : List V}, Reps K F (ks.map kD) vs → vs = ks.map kV
  | [], _, h => by cases h; rfl
  | k :: ks, _, h => by
    cases h with
    | cons a b =>
      rw [Reps.keys b]
      cases k with
      | inl i => cases a; rfl
      | inr x => cases a; rfl
theorem Rep.key {k : Key} {v : V} (h : Rep K F (kD k) v) : v = kV k := by
  cases k with
  | inl i => cases h; rfl
  | inr x => cases h; rfl
theorem RepH.key {k : Key} {v : V} (h : RepH K F H (kD k) v) : v = kV k := by
  cases k with
  | inl i => exact h.int_inv
  | inr x => exact h.str_inv
/-- what stands at a key -/
theorem dget_of {kk : KK} {ds : List (D × D)} {a v : V} {dk : D} (s : Same F H) (h : RepH K F H (.dct kk ds) a) (hk : RepH K F H dk v) (hi : D.isKey kk dk = true) : ∃ p o, a = .ref p ∧ DGet H p v o ∧ LookRel K F (lookD ds dk) o := by
  cases kk with
  | k =>
    obtain ⟨p, kvs, rfl, hp, r⟩ := h.dK_inv s
    have hi' : dk.key?.isSome = true := hi
    obtain ⟨k, hk'⟩ := Option.isSome_iff_exists.mp hi'
    rw [key_some hk'] at hk ⊢
    rw [hk.key]
    exact ⟨p, _, rfl, DGet.k hp, r.look k⟩
  | t =>
    obtain ⟨p, kvs, rfl, hp, r⟩ := h.dT_inv s
    cases dk with
    | tup l =>
      have hi' : (D.keys? l).isSome = true := hi
      obtain ⟨ks, hk'⟩ := Option.isSome_iff_exists.mp hi'
      rw [keys_some hk'] at hk ⊢
      obtain ⟨b, vs, rfl, hb, rb⟩ := hk.tup_inv s
      rw [rb.keys] at hb
      exact ⟨p, _, rfl, DGet.t hp hb, r.look ks⟩
    | _ => cases hi
end
end TL
namespace TL
open PySem PySem.Spec PyProof.Rows L2
def dGet : Op2
  | .tup l, .int i, Q => match atI l i with
    | some d => Q (.v d)
    | none => False
  | .lst l, .int i, Q => match atI l i with
    | some d => Q (.v d)
    | none => False
  | .scr l, .int i, Q => match atI l i with
    | some d => Q (.v d)
    | none => False
  | .str x, .int i, Q => x.length ≤ sizeLine ∧ match atI x.cps.toList i with
    | some c => Q (.v (.str ⟨#[c]⟩))
    | none => False
  | .dct kk l, k, Q => D.isKey kk k = true ∧ match lookD l k with
    | some d => Q (.v d)
    | none => False
  | _, _, _ => False
/-- a subscript, on data -/
def IxT (B : Base) (X : Cx) (o : Op2) : Prop :=
  IxR X fun x y H Q => ∃ g t σ dx dy P, Rel X.K B g t σ H ∧ RepH X.K g.F H dx x ∧ RepH X.K g.F H dy y ∧ o dx dy P ∧ ∀ r, P r → ∀ g' v H', Same g.F g'.F → Rel X.K B g' t σ H' → ResRel X.K B g' H' r v → Q v H'
theorem Reps.atI {K : PySem.W.Frag} {F : Hp} {ds : List D} {vs : List V} {i : Int} {d : D} (r : Reps K F ds vs) (h : L2.atI ds i = some d) : ∃ v, L2.atI vs i = some v ∧ Rep K F d v := by
  unfold L2.atI at h ⊢
  rw [r.length]
  cases q : ixN ds.length i with
  | none => rw [q] at h; cases h
  | some j => rw [q] at h; exact r.get h
section
variable {B : Base} {X : Cx} {a b e : Expr} {es : List Expr} {wa wb : WE} {wA : WA} {pos p : Pos}
theorem ix_dct (hu : X.A.units + 1 < cLine) : IxR X (fun x y H Q => ∃ a v, x = .ref a ∧ DGet H a y (some v) ∧ Q v H) := by
  intro value slice pins s σ H x y v u Q I rx ry h hs
  obtain ⟨a, z, rfl, hg, q⟩ := h
  cases rx
  exact tail_any (T := "dict") (dict_typeIs I hg) PySem.F.slot_dict_getitem.lookup (d_getItem hu I hg ry fun w' s3 I3 rw' => ⟨z, H, I3, rw', q⟩) hs
theorem X_get (hu : X.A.units + 1 < cLine) : IxT B X dGet := by
  intro value slice pins s σ H x y v u Q I rx ry hh hs
  obtain ⟨g, t, σ', dx, dy, P, rl, r1, r2, m, k⟩ := hh
  unfold dGet at m
  split at m
  · obtain ⟨a, vs, rfl, ha, ra⟩ := r1.tup_inv rl.sub
    split at m
    · rename_i d hd
      obtain ⟨z, hz, rz⟩ := ra.atI hd
      exact ix_tup value slice pins s σ H _ y v u Q I rx ry ⟨a, vs, _, z, rfl, r2.int_inv, .of ha, hz, k _ m g z H sRefl rl rz⟩ hs
    · exact m.elim
  · obtain ⟨a, vs, rfl, ha, ra⟩ := r1.lst_inv rl.sub
    split at m
    · rename_i d hd
      obtain ⟨z, hz, rz⟩ := ra.atI hd
      exact ix_list value slice pins s σ H _ y v u Q I rx ry ⟨a, vs, _, z, rfl, r2.int_inv, .of ha, hz, k _ m g z H sRefl rl rz⟩ hs
    · exact m.elim
  · obtain ⟨a, vs, rfl, ha, ra⟩ := r1.scr_inv rl.sub
    split at m
    · rename_i d hd
      obtain ⟨z, hz, rz⟩ := ra.atI hd
      exact ix_list value slice pins s σ H _ y v u Q I rx ry ⟨a, vs, _, z, rfl, r2.int_inv, ha, hz, k _ m g z H sRefl rl rz⟩ hs
    · exact m.elim
  · obtain ⟨hz, m⟩ := m
    split at m
    · rename_i c hc
      exact ix_str value slice pins s σ H _ y v u Q I rx ry ⟨_, _, c, r1.str_inv, r2.int_inv, hz, hc, k _ m g _ H sRefl rl (Rep.str _)⟩ hs
    · exact m.elim
  · obtain ⟨hk, m⟩ := m
    split at m
    · rename_i d hd
      obtain ⟨q, o, rfl, hg, lr⟩ := dget_of rl.sub r1 r2 hk
      rcases lr with ⟨z, _⟩ | ⟨d', z, e1, rfl, rz⟩
      · rw [z] at hd; cases hd
      · rw [hd] at e1; cases e1
        exact ix_dct hu value slice pins s σ H _ y v u Q I rx ry ⟨q, z, rfl, hg, k _ m g z H sRefl rl rz⟩ hs
    · exact m.elim
  · exact m.elim
theorem T_sub {o : Op2} (ho : IxT B X o) (ha : PET B X a wa) (hb : PET B X b wb) (hs : PlainIx b := by exact fun _ _ => rfl) : PET B X (.Subscript a b pos) (wBin o wa wb) :=
  fun W tk => PE.imp (pe_ix ho (ha W tk) (hb W tk) hs) fun σ H Q h => two h fun x y H Q g t dx dy P rl r1 r2 m k => ⟨g, t, σ, dx, dy, P, rl, .rep r1, .rep r2, m, k⟩
/-- an item of what slot i holds, read where it stands -/
def wSubK (o : Op2) (i : Nat) (b : WE) : WE := fun W t Q => pk t i fun _ => b W t fun r t1 => fz r fun y => pk t1 i fun x => o x y fun z => Q z t1
theorem T_subK (i : Nat) {x : Str} {pos' : Pos} {o : Op2} (ho : IxT B X o) (hb : PET B X b wb) (hN : X.N[i]? = some x := by rfl) (hv : Vis X.env.scope x := by first | exact Or.inl rfl | exact Or.inr (Or.inl rfl) | exact Or.inr (Or.inr rfl)) (hd : (x == ("__debug__" : Str)) = false := by rfl) (hcd : (x == ("__classdict__" : Str)) = false := by rfl)
    (hs : PlainIx b := by exact fun _ _ => rfl) : PET B X (.Subscript (.Name x pos') b pos) (wSubK o i wb) :=
  fun W tk => PE.imp (pe_ix ho (pe_var hN hv hd hcd) (hb W tk) hs) fun σ H Q h => by
    obtain ⟨g, t, P, rl, m, k⟩ := h
    have m' : pk t i fun _ => wb W t fun r t1 => fz r fun y => pk t1 i fun x => o x y fun z => P z t1 := m
    unfold pk at m'
    split at m'
    · rename_i d0 hd0
      obtain ⟨v, hv', _⟩ := peek_at rl hd0
      refine ⟨v, hv', g, t, _, rl, m', fun r1 t1 m1 g1 v1 H1 s1 rl1 rr1 => ?_⟩
      unfold fz at m1
      split at m1
      · rename_i dy hy
        obtain ⟨F2, s2, rl2, rp⟩ := rr1.freeze rl1 hy
        split at m1
        · rename_i dx hx
          obtain ⟨u, hu, rx⟩ := peek_at rl2 hx
          rw [hv'] at hu; cases hu
          exact ⟨⟨F2, g1.ow⟩, t1, σ, dx, dy, _, rl2, rx, .rep rp, m1, fun r m5 g5 v5 H5 s5 rl5 rr5 => k _ _ m5 g5 v5 H5 ((s1.trans s2).trans s5) rl5 rr5⟩
        · exact m1.elim
      · exact m1.elim
    · exact m'.elim
abbrev WO := TX → TSt → (Option Int → TSt → Prop) → Prop
def oNone : WO := fun _ t Q => Q none t
def oSome (a : WE) : WO := fun W t Q => a W t fun r t1 => match r with
  | .v (.int i) => Q (some i) t1
  | _ => False
def toOf (K : PySem.W.Frag) (B : Base) (m : TSt → (Option Int → TSt → Prop) → Prop) : TO := fun σ H Q => ∃ g t P, Rel K B g t σ H ∧ m t P ∧ ∀ o t', P o t' → ∀ g' H', Same g.F g'.F → Rel K B g' t' σ H' → Q o H'
def POT (B : Base) (X : Cx) (e : Option Expr) (w : WO) : Prop := ∀ W, L2N.Takes X (wxOf X.K B W) → PO X e (toOf X.K B (w W))
theorem PO.imp {e : Option Expr} {t t' : TO} (h : PO X e t) (i : ∀ σ H Q, t' σ H Q → t σ H Q) : PO X e t' := ⟨fun pins s σ H Q I q => h.run pins s σ H Q I (i σ H Q q)⟩
theorem P_none : POT B X none oNone := fun W tk => PO.imp po_none fun σ H Q q => by
  obtain ⟨g, t, P, rl, m, k⟩ := q
  exact k _ _ m g H sRefl rl
theorem P_some (h : PET B X e wa) : POT B X (some e) (oSome wa) := fun W tk => PO.imp (po_some (h W tk)) fun σ H Q q => by
  obtain ⟨g, t, P, rl, m, k⟩ := q
  refine ⟨g, t, _, rl, m, fun r1 t1 m1 g1 v1 H1 s1 rl1 rr1 => ?_⟩
  split at m1
  · cases (show Rep X.K g1.F (.int _) v1 from rr1)
    exact ⟨_, rfl, k _ _ m1 g1 H1 s1 rl1⟩
  · exact m1.elim
def cutD (xs : List D) (lo hi : Option Int) : List D := (xs.drop (HT.sIx xs.length 0 lo)).take (HT.sIx xs.length xs.length hi - HT.sIx xs.length 0 lo)
def dSl : D → Option Int → Option Int → (R → Prop) → Prop
  | .tup l, lo, hi, Q => Q (.v (.tup (cutD l lo hi)))
  | .lst l, lo, hi, Q => Q (.own (.lst (cutD l lo hi)))
  | .scr l, lo, hi, Q => Q (.own (.lst (cutD l lo hi)))
  | .str x, lo, hi, Q => x.length ≤ sizeLine ∧ Q (.v (.str (cutS x lo hi)))
  | _, _, _, _ => False
def wSl (a : WE) (lo hi : WO) : WE := fun W t Q => a W t fun r t1 => fz r fun d => lo W t1 fun l t2 => hi W t2 fun h t3 => dSl d l h fun z => Q z t3
theorem Reps.take {K : PySem.W.Frag} {F : Hp} : ∀ {ds : List D} {vs : List V} (n : Nat), Reps K F ds vs → Reps K F (ds.take n) (vs.take n)
  | _, _, 0, _ => .nil
  | _, _, _ + 1, .nil => .nil
  | _, _, n + 1, .cons r t => .cons r (Reps.take n t)
theorem Reps.drop {K : PySem.W.Frag} {F : Hp} : ∀ {ds : List D} {vs : List V} (n : Nat), Reps K F ds vs → Reps K F (ds.drop n) (vs.drop n)
  | _, _, 0, r => r
  | _, _, _ + 1, .nil => .nil
  | _, _, n + 1, .cons _ t => Reps.drop n t
theorem Reps.cut {K : PySem.W.Frag} {F : Hp} {ds : List D} {vs : List V} (r : Reps K F ds vs) (lo hi : Option Int) : Reps K F (cutD ds lo hi) (cutV vs lo hi) := by
  unfold cutD cutV
  rw [r.length]
  exact (r.drop _).take _
theorem cutD_all {ds : List D} {lo hi : Option Int} (h : HT.sIx ds.length 0 lo = 0 ∧ HT.sIx ds.length ds.length hi = ds.length) : cutD ds lo hi = ds := by
  unfold cutD
  rw [h.1, h.2]
  simp
theorem T_sl {lo hi : Option Expr} {wl wh : WO} {p2 : Pos} (ha : PET B X a wa) (hl : POT B X lo wl) (hh : POT B X hi wh) : PET B X (.Subscript a (.Slice lo hi none p2) pos) (wSl wa wl wh) := by
  refine fun W tk => PE.imp (pe_slice (SlR.or sl_tupA (SlR.or sl_list sl_str)) (ha W tk) (hl W tk) (hh W tk)) fun σ H Q h => ?_
  obtain ⟨g, t, P, rl, m, k⟩ := h
  refine ⟨g, t, _, rl, m, fun r1 t1 m1 g1 v1 H1 s1 rl1 rr1 => ?_⟩
  unfold fz at m1
  split at m1
  · rename_i d hd
    obtain ⟨F2, s2, rl2, rp⟩ := rr1.freeze rl1 hd
    refine ⟨⟨F2, g1.ow⟩, t1, _, rl2, m1, fun l t3 m3 g3 H3 s3 rl3 => ⟨g3, t3, _, rl3, m3, fun u t4 m4 g4 H4 s4 rl4 => ?_⟩⟩
    have rp4 := (rp.up s3).up s4
    have ss := ((s1.trans s2).trans s3).trans s4
    unfold dSl at m4
    split at m4
    · cases rp4 with
      | tup e r =>
        refine .inl ⟨_, _, rfl, .of (rl4.sub _ _ e), fun z => ?_, fun z q hq => ?_⟩
        · rw [r.length] at z
          rw [cutD_all z] at m4
          exact k _ _ m4 g4 _ H4 ss rl4 (Rep.tup e r)
        · obtain ⟨g5, s5, rl5, rr5⟩ := newTup rl4 hq (r.cut _ _)
          exact k _ _ m4 g5 _ _ (ss.trans s5) rl5 rr5
    · cases rp4 with
      | lst e r =>
        refine .inr (.inl ⟨_, _, rfl, .of (rl4.sub _ _ e), fun q hq => ?_⟩)
        obtain ⟨rl5, rr5⟩ := newOwn rl4 hq (r.cut _ _)
        exact k _ _ m4 g4 _ _ ss rl5 rr5
    · cases rp4 with
      | scr e r =>
        refine .inr (.inl ⟨_, _, rfl, SqL.up rl4.sub e, fun q hq => ?_⟩)
        obtain ⟨rl5, rr5⟩ := newOwn rl4 hq (r.cut _ _)
        exact k _ _ m4 g4 _ _ ss rl5 rr5
    · cases rp4
      exact .inr (.inr ⟨_, rfl, m4.1, k _ _ m4.2 g4 _ H4 ss rl4 (Rep.str _)⟩)
    · exact m4.elim
  · exact m1.elim
end
def cellAt (t : TSt) (i : Nat) : Option Cell := match t[i]? with
  | some (.own c) => some c
  | some (.bor c) => some c
  | _ => none
def setCell (t : TSt) (i : Nat) (c : Cell) : TSt := t.modify i (reSlot c)
theorem cell_at {K : PySem.W.Frag} {B : Base} {g : Gh} {t : TSt} {σ : L2.St} {H : Hp} {i : Nat} {c : Cell} (rl : Rel K B g t σ H) (h : cellAt t i = some c) :
    ∃ a fp, σ[i]? = some (some (.ref a)) ∧ CellRel K g.F H c a fp ∧ fp.Nodup ∧ (∀ b ∈ fp, g.ow b = some i) ∧
      ∀ c' fp' H', CellRel K g.F H' c' a fp' → fp'.Nodup → (∀ b ∈ fp', g.ow b = some i) → (∀ b, g.ow b ≠ some i → H' b = H b) → (∀ b, H' b = none → H b = none) → (∀ b xs, H' b = some (.tup xs) → H b = some (.tup xs)) → Rel K B g (setCell t i c') σ H' := by
  have key : ∃ a fp, σ[i]? = some (some (.ref a)) ∧ CellRel K g.F H c a fp ∧ fp.Nodup ∧ (∀ b ∈ fp, g.ow b = some i) ∧ (t[i]? = some (.own c) ∨ (t[i]? = some (.bor c) ∧ B.home i = some a)) := by
    unfold cellAt at h
    split at h
    · rename_i c0 e
      cases h
      obtain ⟨a, fp, h1, h2, h3, h4⟩ := rl.slot i _ e
      exact ⟨a, fp, h1, h2, h3, h4, .inl e⟩
    · rename_i c0 e
      cases h
      obtain ⟨a, fp, h1, hm, h2, h3, h4⟩ := rl.slot i _ e
      exact ⟨a, fp, h1, h2, h3, h4, .inr ⟨e, hm⟩⟩
    · cases h
  obtain ⟨a, fp, h1, h2, h3, h4, h5⟩ := key
  refine ⟨a, fp, h1, h2, h3, h4, fun c' fp' H' k1 k2 k3 k4 k5 k6 => ⟨rl.base, fun b o e => ?_, rl.ff, fun b o e n => ?_, rl.ft, ⟨fun b e => rl.dom b (k5 b e), fun b xs e => rl.tf b xs (k6 b xs e)⟩, fun b j e => ?_, by unfold setCell; rw [List.length_modify]; exact rl.len, fun j s e => ?_⟩⟩
  · rw [k4 b (by rw [rl.ff b o e]; exact nofun)]; exact rl.sub b o e
  · obtain ⟨z1, z2, z3⟩ := rl.old b o e n
    exact ⟨by rw [k4 b (by rw [z2]; exact nofun)]; exact z1, z2, z3⟩
  · cases q : H' b with
    | some o => exact ⟨o, rfl⟩
    | none =>
      obtain ⟨o, ho⟩ := rl.there b j e
      rw [k5 b q] at ho; cases ho
  · unfold setCell at e
    rw [getElem?_modify'] at e
    split at e
    · rename_i ij
      subst ij
      rcases h5 with h5 | ⟨h5, hm⟩
      · rw [h5] at e
        cases e
        exact ⟨a, fp', h1, k1, k2, k3⟩
      · rw [h5] at e
        cases e
        exact ⟨a, fp', h1, hm, k1, k2, k3⟩
    · rename_i ij
      refine (rl.slot j s e).up sRefl fun b q => ⟨q, k4 b ?_⟩
      rw [q]; intro z; exact ij (Option.some.inj z).symm
/-- .. a list, a dict -/
theorem cell_write {K : PySem.W.Frag} {B : Base} {g : Gh} {t : TSt} {σ : L2.St} {H : Hp} {i : Nat} {ds : List D} (rl : Rel K B g t σ H) (h : cellAt t i = some (.lst ds)) :
    ∃ a vs, σ[i]? = some (some (.ref a)) ∧ H a = some (.lst vs) ∧ Reps K g.F ds vs ∧ ∀ es us, Reps K g.F es us → Rel K B g (setCell t i (.lst es)) σ (upd H a (.lst us)) := by
  obtain ⟨a, fp, h1, h2, h3, h4, k⟩ := cell_at rl h
  cases h2 with
  | lst e r =>
    refine ⟨a, _, h1, e, r, fun es us re => k _ [a] _ (.lst upd_same re) h3 h4 (fun b hb => upd_ne fun z => hb (by rw [z]; exact h4 a List.mem_cons_self)) (fun b hb => ?_) fun b xs hb => ?_⟩
    · by_cases z : b = a
      · subst z; rw [upd_same] at hb; cases hb
      · rw [upd_ne z] at hb; exact hb
    · by_cases z : b = a
      · subst z; rw [upd_same] at hb; cases hb
      · rw [upd_ne z] at hb; exact hb
theorem cell_writeK {K : PySem.W.Frag} {B : Base} {g : Gh} {t : TSt} {σ : L2.St} {H : Hp} {i : Nat} {ds : List (D × D)} (rl : Rel K B g t σ H) (h : cellAt t i = some (.dct .k ds)) :
    ∃ a vs, σ[i]? = some (some (.ref a)) ∧ H a = some (.dK vs) ∧ RepK K g.F ds vs ∧ ∀ es us, RepK K g.F es us → Rel K B g (setCell t i (.dct .k es)) σ (upd H a (.dK us)) := by
  obtain ⟨a, fp, h1, h2, h3, h4, k⟩ := cell_at rl h
  cases h2 with
  | dK e r =>
    refine ⟨a, _, h1, e, r, fun es us re => k _ [a] _ (.dK upd_same re) h3 h4 (fun b hb => upd_ne fun z => hb (by rw [z]; exact h4 a List.mem_cons_self)) (fun b hb => ?_) fun b xs hb => ?_⟩
    · by_cases z : b = a
      · subst z; rw [upd_same] at hb; cases hb
      · rw [upd_ne z] at hb; exact hb
    · by_cases z : b = a
      · subst z; rw [upd_same] at hb; cases hb
      · rw [upd_ne z] at hb; exact hb
theorem cell_writeT {K : PySem.W.Frag} {B : Base} {g : Gh} {t : TSt} {σ : L2.St} {H : Hp} {i : Nat} {ds : List (D × D)} (rl : Rel K B g t σ H) (h : cellAt t i = some (.dct .t ds)) :
    ∃ a vs, σ[i]? = some (some (.ref a)) ∧ H a = some (.dT vs) ∧ RepT K g.F ds vs ∧ ∀ es us, RepT K g.F es us → Rel K B g (setCell t i (.dct .t es)) σ (upd H a (.dT us)) := by
  obtain ⟨a, fp, h1, h2, h3, h4, k⟩ := cell_at rl h
  cases h2 with
  | dT e r =>
    refine ⟨a, _, h1, e, r, fun es us re => k _ [a] _ (.dT upd_same re) h3 h4 (fun b hb => upd_ne fun z => hb (by rw [z]; exact h4 a List.mem_cons_self)) (fun b hb => ?_) fun b xs hb => ?_⟩
    · by_cases z : b = a
      · subst z; rw [upd_same] at hb; cases hb
      · rw [upd_ne z] at hb; exact hb
    · by_cases z : b = a
      · subst z; rw [upd_same] at hb; cases hb
      · rw [upd_ne z] at hb; exact hb
end TL
namespace TL
open PySem PySem.Spec PyProof.Rows L2
def onLst (t : TSt) (i : Nat) (k : List D → Prop) : Prop := match cellAt t i with
  | some (.lst l) => k l
  | _ => False
def wApp (i : Nat) (a : WA) : WE := fun W t Q => onLst t i fun _ => a W t fun ds t1 => match ds with
  | [d] => onLst t1 i fun l => l.length < sizeLine ∧ Q (.v .non) (setCell t1 i (.lst (l ++ [d])))
  | _ => False
def wExt (i : Nat) (a : WA) : WE := fun W t Q => onLst t i fun _ => a W t fun ds t1 => match ds with
  | [.lst m] => onLst t1 i fun l => l.length + m.length ≤ sizeLine ∧ Q (.v .non) (setCell t1 i (.lst (l ++ m)))
  | _ => False
def wPop (i : Nat) : WE := fun _ t Q => onLst t i fun l => match l[l.length - 1]? with
  | some d => Q (.v d) (setCell t i (.lst l.dropLast))
  | none => False
theorem onLst_get {t : TSt} {i : Nat} {k : List D → Prop} (h : onLst t i k) : ∃ l, cellAt t i = some (.lst l) ∧ k l := by
  unfold onLst at h
  split at h
  · exact ⟨_, by assumption, h⟩
  · exact h.elim
section
variable {B : Base} {X : Cx} {e v : Expr} {wa we wv : WE} {wA : WA} {pos pos' apos cpos : Pos} {x : Str}
theorem T_app (i : Nat) (ha : PAT B X [e] wA) (hN : X.N[i]? = some x := by rfl) (hv : Vis X.env.scope x := by first | exact Or.inl rfl | exact Or.inr (Or.inl rfl) | exact Or.inr (Or.inr rfl)) (hd : (x == ("__debug__" : Str)) = false := by rfl) (hcd : (x == ("__classdict__" : Str)) = false := by rfl)
    (hbase : attributeBase (.Name x pos') "append" X.env (eval (.Name x pos') X.env) = eval (.Name x pos') X.env := by rfl)
    (hfew : ((backTo cpos (starEach [e] X.env)).all (fun x => !x.1) && (backToKw cpos (keywordEach [] X.env)).all (fun x => x.1.isSome) && decide (([e] : List Expr).length + ([] : List Keyword).length + (if ([] : List Keyword).isEmpty then 0 else 1) < 30)) = true := by rfl)
    (hline : (apos.endLine == cpos.line) = true := by rfl) (hs : starEach [e] X.env = (false, eval e X.env) :: starEach [] X.env := by rfl) :
    PET B X (.Call (.Attribute (.Name x pos') "append" apos) [e] [] cpos) (wApp i wA) := by
  refine fun W tk => PE.imp (pe_bm PySem.F.plainAttrs_list PySem.F.slot_list_append PySem.F.type_list_append mt_append (pe_var hN hv hd hcd) (ha W tk) hbase hfew hline hs rfl) fun σ H Q h => ?_
  obtain ⟨g, t, P, rl, m, k⟩ := h
  obtain ⟨l0, hc0, m⟩ := onLst_get m
  obtain ⟨a, vs0, hσ, hH0, _, _⟩ := cell_write rl hc0
  refine ⟨.ref a, hσ, .inl ⟨rfl, _, .of hH0⟩, g, t, _, rl, m, fun ds t1 m1 g1 vs H1 s1 rl1 rs1 => ?_⟩
  split at m1
  · rename_i d
    obtain ⟨l, hc, hz, m1⟩ := onLst_get m1
    obtain ⟨a', ws, hσ', hH, rw', put⟩ := cell_write rl1 hc
    rw [hσ] at hσ'; cases hσ'
    obtain ⟨y, rfl, ry⟩ := rs1.one
    exact ⟨a, ws, y, rfl, rfl, hH, by rw [rw'.length]; exact hz, k _ _ m1 g1 _ _ s1 (put _ _ (rw'.append (.cons ry .nil))) Rep.non⟩
  · exact m1.elim
theorem T_ext (i : Nat) (ha : PAT B X [e] wA) (hN : X.N[i]? = some x := by rfl) (hv : Vis X.env.scope x := by first | exact Or.inl rfl | exact Or.inr (Or.inl rfl) | exact Or.inr (Or.inr rfl)) (hd : (x == ("__debug__" : Str)) = false := by rfl) (hcd : (x == ("__classdict__" : Str)) = false := by rfl)
    (hbase : attributeBase (.Name x pos') "extend" X.env (eval (.Name x pos') X.env) = eval (.Name x pos') X.env := by rfl)
    (hfew : ((backTo cpos (starEach [e] X.env)).all (fun x => !x.1) && (backToKw cpos (keywordEach [] X.env)).all (fun x => x.1.isSome) && decide (([e] : List Expr).length + ([] : List Keyword).length + (if ([] : List Keyword).isEmpty then 0 else 1) < 30)) = true := by rfl)
    (hline : (apos.endLine == cpos.line) = true := by rfl) (hs : starEach [e] X.env = (false, eval e X.env) :: starEach [] X.env := by rfl) :
    PET B X (.Call (.Attribute (.Name x pos') "extend" apos) [e] [] cpos) (wExt i wA) := by
  refine fun W tk => PE.imp (pe_bm PySem.F.plainAttrs_list PySem.F.slot_list_extend PySem.F.type_list_extend mt_extend (pe_var hN hv hd hcd) (ha W tk) hbase hfew hline hs rfl) fun σ H Q h => ?_
  obtain ⟨g, t, P, rl, m, k⟩ := h
  obtain ⟨l0, hc0, m⟩ := onLst_get m
  obtain ⟨a, vs0, hσ, hH0, _, _⟩ := cell_write rl hc0
  refine ⟨.ref a, hσ, .inl ⟨rfl, _, .of hH0⟩, g, t, _, rl, m, fun ds t1 m1 g1 vs H1 s1 rl1 rs1 => ?_⟩
  split at m1
  · rename_i d
    obtain ⟨l, hc, hz, m1⟩ := onLst_get m1
    obtain ⟨a', ws, hσ', hH, rw', put⟩ := cell_write rl1 hc
    rw [hσ] at hσ'; cases hσ'
    obtain ⟨y, rfl, ry⟩ := rs1.one
    cases ry with
    | lst eb rb => exact ⟨a, _, ws, _, rfl, rfl, hH, rl1.sub _ _ eb, by rw [rw'.length, rb.length]; exact hz, k _ _ m1 g1 _ _ s1 (put _ _ (rw'.append rb)) Rep.non⟩
  · exact m1.elim
theorem Reps.dropLast {K : PySem.W.Frag} {F : Hp} {ds : List D} {vs : List V} (r : Reps K F ds vs) : Reps K F ds.dropLast vs.dropLast := by
  rw [List.dropLast_eq_take, List.dropLast_eq_take, r.length]
  exact r.take _
def putC (t : TSt) (i : Nat) (key d : D) (k : TSt → Prop) : Prop := match cellAt t i with
  | some (.dct kk l) => D.isKey kk key = true ∧ l.length < sizeLine ∧ k (setCell t i (.dct kk (putD l key d)))
  | some (.lst l) => match key with
    | .int n => match ixN l.length n with
      | some j => k (setCell t i (.lst (l.set j d)))
      | none => False
    | _ => False
  | _ => False
/-- o[key] = v: v first, then the key -/
def wPut (i : Nat) (key val : WE) : WS := fun W t D => val W t fun r t1 => fz r fun d => (cellAt t1 i).isSome = true ∧ key W t1 fun r' t2 => fz r' fun k => putC t2 i k d D.nx
theorem put_of {g : Gh} {t : TSt} {σ : L2.St} {H : Hp} {K : PySem.W.Frag} {i : Nat} {key d : D} {kv v : V} {k : TSt → Prop} (rl : Rel K B g t σ H) (rk : Rep K g.F key kv) (rv : Rep K g.F d v) (m : putC t i key d k) :
    ∃ a, σ[i]? = some (some (.ref a)) ∧ ∃ H' t', ((DPut H a kv v H') ∨ rSetL (.ref a) kv v H (fun H'' => H'' = H')) ∧ k t' ∧ Rel K B g t' σ H' := by
  unfold putC at m
  split at m
  · rename_i kk l hc
    obtain ⟨h1, h2, m⟩ := m
    cases kk with
    | k =>
      obtain ⟨a, vs, hσ, hH, r, put⟩ := cell_writeK rl hc
      have hi' : key.key?.isSome = true := h1
      obtain ⟨ky, hk'⟩ := Option.isSome_iff_exists.mp hi'
      rw [key_some hk'] at rk m
      rw [rk.key]
      exact ⟨a, hσ, _, _, .inl (DPut.k hH (by rw [r.length]; exact h2)), m, put _ _ (r.put ky rv)⟩
    | t =>
      obtain ⟨a, vs, hσ, hH, r, put⟩ := cell_writeT rl hc
      cases key with
      | tup l =>
        have hi' : (D.keys? l).isSome = true := h1
        obtain ⟨ks, hk'⟩ := Option.isSome_iff_exists.mp hi'
        rw [keys_some hk'] at rk m
        cases rk with
        | tup eb rb =>
          rw [rb.keys] at eb
          exact ⟨a, hσ, _, _, .inl (DPut.t hH (rl.sub _ _ eb) (by rw [r.length]; exact h2)), m, put _ _ (r.put ks rv)⟩
      | _ => cases h1
  · rename_i l hc
    obtain ⟨a, vs, hσ, hH, r, put⟩ := cell_write rl hc
    split at m
    · rename_i n
      split at m
      · rename_i j hj
        cases rk
        refine ⟨a, hσ, _, _, .inr ⟨a, vs, n, j, rfl, rfl, hH, by rw [r.length]; exact hj, rfl⟩, m, put _ _ ?_⟩
        exact Reps.set rv r
      · exact m.elim
    · exact m.elim
  · exact m.elim
where
  Reps.set {K : PySem.W.Frag} {F : Hp} {d : D} {v : V} (h : Rep K F d v) : ∀ {ds : List D} {vs : List V} {j : Nat}, Reps K F ds vs → Reps K F (ds.set j d) (vs.set j v)
  | _, _, _, .nil => .nil
  | _, _, 0, .cons _ t => .cons h t
  | _, _, j + 1, .cons a t => .cons a (Reps.set h t)
/-- the store of an item, a dict's or a list's -/
def rSetA : TSet := fun o i v H Q => (∃ a H', o = .ref a ∧ DPut H a i v H' ∧ Q H') ∨ rSetL o i v H Q
theorem set_any (hu : X.A.units + 1 < cLine) : PSet X rSetA := by
  intro pins s σ H o i v ov iv u Q I ro ri rv h
  rcases h with ⟨a, H', rfl, g, q⟩ | h
  · cases ro
    exact d_setItem hu I g ri rv fun s' I' => ⟨H', I', q⟩
  · exact set_list pins s σ H o i v ov iv u Q I ro ri rv h
theorem S_put (i : Nat) {key : Expr} {wk : WE} {px tpos : Pos} (hu : X.A.units + 1 < cLine) (hval : PET B X e we) (hk : PET B X key wk) (hN : X.N[i]? = some x := by rfl) (hv : Vis X.env.scope x := by first | exact Or.inl rfl | exact Or.inr (Or.inl rfl) | exact Or.inr (Or.inr rfl)) (hd : (x == ("__debug__" : Str)) = false := by rfl) (hcd : (x == ("__classdict__" : Str)) = false := by rfl)
    (ha : ∀ v, assign (.Subscript (.Name x px) key tpos) X.env v = (do
      let ov ← holding [v] (eval (.Name x px) X.env)
      let iv ← holding [v, ov] (eval key X.env)
      standAt tpos
      holding [v, ov, iv] (setItem ov iv v)
      release [v, ov, iv] []) := by intro _; rfl)
    (hs : swapsWithSole [.Subscript (.Name x px) key tpos] e pos.line X.env = pure false := by rfl) (hw : swappedStores [.Subscript (.Name x px) key tpos] e X.env = pure none := by rfl)
    (h1 : (assignEach [.Subscript (.Name x px) key tpos] X.env).map (·.2) = [assign (.Subscript (.Name x px) key tpos) X.env] := by rfl) : PST B X (.Assign [.Subscript (.Name x px) key tpos] e pos) (wPut i wk we) := by
  refine fun W tk => PS.imp (ps_asg (hval W tk) (pg_sub (pe_var hN hv hd hcd) (hk W tk) (set_any hu) ha) hs hw h1) fun D σ H q => ?_
  obtain ⟨g, t, P, rl, m, k, _⟩ := q
  refine ⟨g, t, _, rl, m, fun r1 t1 m1 g1 v1 H1 s1 rl1 rr1 => ?_⟩
  unfold fz at m1
  split at m1
  · rename_i d hd'
    obtain ⟨F2, s2, rl2, rp⟩ := rr1.freeze rl1 hd'
    obtain ⟨hc, m1⟩ := m1
    obtain ⟨c, hc⟩ := Option.isSome_iff_exists.mp hc
    obtain ⟨v, _, hx, _⟩ := cell_at rl2 hc
    refine ⟨.ref v, hx, ⟨F2, g1.ow⟩, t1, _, rl2, m1, fun r3 t3 m3 g3 v3 H3 s3 rl3 rr3 => ?_⟩
    split at m3
    · rename_i ky hky
      obtain ⟨F4, s4, rl4, rp4⟩ := rr3.freeze rl3 hky
      obtain ⟨a, hσ, H', t', hp, m5, rl5⟩ := put_of rl4 rp4 ((rp.up s3).up s4) m3
      rw [hx] at hσ; cases hσ
      have fin := k _ m5 ⟨F4, g3.ow⟩ _ H' (((s1.trans s2).trans s3).trans s4) rl5
      rcases hp with hp | ⟨p, xs, kk, j, e1, e2, e3, e4, rfl⟩
      · exact .inl ⟨_, H', rfl, hp, fin⟩
      · exact .inr ⟨p, xs, kk, j, e1, e2, e3, e4, fin⟩
    · exact m3.elim
  · exact m1.elim
def getC (t : TSt) (i : Nat) (key : D) (k : D → Prop) : Prop := match cellAt t i with
  | some (.lst l) => match key with
    | .int n => match L2.atI l n with
      | some d => k d
      | none => False
    | _ => False
  | some (.dct kk l) => D.isKey kk key = true ∧ match lookD l key with
    | some d => k d
    | none => False
  | _ => False
/-- o[key] op= val -/
def wAugS (i : Nat) (o : Op2) (key val : WE) : WS := fun W t D => (cellAt t i).isSome = true ∧ key W t fun r t1 => fz r fun k => getC t1 i k fun x => val W t1 fun r' t2 => fz r' fun y => o x y fun z => fz z fun d => putC t2 i k d D.nx
def wDnew (kk : KK) : WE := fun _ t Q => Q (.own (.dct kk [])) t
abbrev WK := TX → TSt → (List (D × D) → TSt → Prop) → Prop
def kNil : WK := fun _ t Q => Q [] t
def kCons (a b : WE) (c : WK) : WK := fun W t Q => a W t fun r t1 => fz r fun k => b W t1 fun r' t2 => fz r' fun v => c W t2 fun ps t3 => Q ((k, v) :: ps) t3
inductive RepP (K : PySem.W.Frag) (F : Hp) : List (D × D) → List (V × V) → Prop
  | nil : RepP K F [] []
  | cons {k d : D} {u v : V} {ds : List (D × D)} {vs : List (V × V)} : Rep K F k u → Rep K F d v → RepP K F ds vs → RepP K F ((k, d) :: ds) ((u, v) :: vs)
def wPairs : List (WE × WE) → WK
  | [] => kNil
  | (a, b) :: r => kCons a b (wPairs r)
def mergeD (l more : List (D × D)) : List (D × D) := more.foldl (fun acc kv => putD acc kv.1 kv.2) l
def wDisp (ws : List (WE × WE)) : WE := fun _ t Q => wPairs ws noX t fun ps t1 => ps.length ≤ 15 ∧ (ps.all fun p => D.isKey .k p.1) = true ∧ Q (.own (.dct .k (mergeD [] ps))) t1
theorem RepP.keys {K : PySem.W.Frag} {F : Hp} : ∀ {ps : List (D × D)} {vs : List (V × V)}, RepP K F ps vs → (ps.all fun p => D.isKey .k p.1) = true → ∃ kvs : List (Key × V), vs = kvs.map (fun kv => (kV kv.1, kv.2)) ∧ RepK K F ps kvs
  | _, _, .nil, _ => ⟨[], rfl, .nil⟩
  | _, _, .cons (k := k) (v := v) hk hv t, h => by
    rw [List.all_cons, Bool.and_eq_true] at h
    obtain ⟨kvs, rfl, r⟩ := RepP.keys t h.2
    have hi : k.key?.isSome = true := h.1
    obtain ⟨ky, hy⟩ := Option.isSome_iff_exists.mp hi
    rw [key_some hy] at hk ⊢
    exact ⟨(ky, v) :: kvs, by rw [List.map_cons, hk.key], .cons hv r⟩
theorem RepP.length {K : PySem.W.Frag} {F : Hp} : ∀ {ps : List (D × D)} {vs : List (V × V)}, RepP K F ps vs → vs.length = ps.length
  | _, _, .nil => rfl
  | _, _, .cons _ _ t => congrArg (· + 1) t.length
/-- k in d, k not in d, the dict where it stands -/
def nInD (neg : Bool) : Op2 := fun k c Q => match c with
  | .dct kk l => D.isKey kk k = true ∧ Q (.v (.bl (xor neg (lookD l k).isSome)))
  | _ => False
theorem O_inD (hu : X.A.units + 1 < cLine) : OpT B X (compareOp .In) (nInD false) := .mk fun pins s σ H y x u v Q g t σ' dy dx P I ry rx rl r2 r1 m k => by
  unfold nInD at m
  split at m
  · rename_i kk l
    obtain ⟨hk, m⟩ := m
    obtain ⟨p, o, rfl, hg, lr⟩ := dget_of rl.sub r1 r2 hk
    cases rx
    refine d_in hu I hg ry fun s3 I3 => ⟨.bl o.isSome, H, I3, rfl, ?_⟩
    have e : (lookD l dy).isSome = o.isSome := by
      rcases lr with ⟨e1, e2⟩ | ⟨d', z, e1, e2, _⟩ <;> rw [e1, e2] <;> rfl
    rw [e, Bool.false_xor] at m
    exact k _ m g _ H sRefl rl (Rep.bl _)
  · exact m.elim
end
end TL
namespace TL
open PySem PySem.Spec PyProof.Rows L2
def wCh (o o' : Op2) (a b c : WE) : WE := fun W t Q => a W t fun r t1 => fz r fun x => b W t1 fun r' t2 => fz r' fun y => o x y fun z => rB (fun k => if k = true then c W t2 fun r'' t3 => fz r'' fun w => o' y w fun z' => Q z' t3 else Q (.v (.bl false)) t2) z
def dInA : Op2 := fun x c Q => match c with
  | .dct kk l => D.isKey kk x = true ∧ Q (.v (.bl (lookD l x).isSome))
  | _ => dIn x c Q
def dNotInA : Op2 := fun x c Q => match c with
  | .dct kk l => D.isKey kk x = true ∧ Q (.v (.bl (!(lookD l x).isSome)))
  | _ => dNotIn x c Q
section
variable {B : Base} {X : Cx} {a b c e : Expr} {es : List Expr} {wa wb wc : WE} {wA : WAA} {pos p : Pos}
theorem O_inA (hu : X.A.units + 66 < cLine) : OpT B X (compareOp .In) dInA := fun pins s σ H x y v u Q I rx ry hh => by
  obtain ⟨g, t, σ', dx, dy, P, rl, r1, r2, m, k⟩ := hh
  unfold dInA at m
  split at m
  · exact O_inD (B := B) (by omega) pins s σ H x y v u Q I rx ry ⟨g, t, σ', dx, _, P, rl, r1, r2, (by unfold nInD; simpa using m), k⟩
  · exact O_in (B := B) hu pins s σ H x y v u Q I rx ry ⟨g, t, σ', dx, _, P, rl, r1, r2, m, k⟩
end
structure Cal (P : Program) (w : World) (K : PySem.W.Frag) (mg : Str → Option Value) (base : Heap) (k : Nat) (x : Str) (n : Nat) (ts : TSpec) : Prop where
  ex : ∃ f fd ps, ps.length = n ∧ FnOk P w K mg base (L2N.CX P w) k f fd ps (toSp K n ts) ∧ mg x = some (.ref f) ∧ PySem.W.keepIn K (.ref f) = true ∧ Binds K fd ps []
  hl : ∀ args PQ PX, ts args PQ PX → args.length = n
section
variable {B : Base} {X : Cx} {e : Expr} {es : List Expr} {wA : WAA} {pos p : Pos} {P : Program} {w : World} {K : PySem.W.Frag} {mg : Str → Option Value} {base : Heap}
theorem Cal.mono {j k n : Nat} {x : Str} {ts : TSpec} (c : Cal P w K mg base j x n ts) (h : j ≤ k) : Cal P w K mg base k x n ts := by
  obtain ⟨f, fd, ps, h1, F, h2⟩ := c.ex
  exact ⟨⟨f, fd, ps, h1, F.mono h, h2⟩, c.hl⟩
/-- what the text's top has of a def -/
structure Def (K : PySem.W.Frag) (mg : Str → Option Value) (x : Str) (st : Stmt) (ps : List Str) : Prop where
  ex : ∃ f fd, Fun K x x st f fd ∧ mg x = some (.ref f) ∧ Binds K fd ps []
/-- the law's own promise: True of every script -/
def spLaw : TSpec := fun args PQ _ => ∃ ns : List Int, args = [.v (.scr (ns.map D.int))] ∧ ns.length ≤ 63 ∧ PQ (.v (.bl true)) []
theorem Reps.ofInts {F : Hp} : ∀ ns : List Int, Reps K F (ns.map D.int) (ns.map V.int)
  | [] => .nil
  | n :: ns => .cons (.int n) (Reps.ofInts ns)
theorem law_sp {H : Hp} {a : Addr} {ns : List Int} (hl : ns.length ≤ 63) (hS : SqL K H a (ns.map V.int)) : toSp K 1 spLaw [.ref a] H (fun v _ => v = .bl true) fun _ _ _ => False := by
  refine ⟨rfl, H, [.v (.scr (ns.map D.int))], fun _ => [], fun r outs => r = .v (.bl true) ∧ outs = [], fun _ _ _ => False, sRefl, ⟨rfl, fun i d hi => ?_, fun i c hi => ?_, fun _ _ => rfl, fun _ _ _ h => (nomatch h), fun _ _ h => (nomatch h), fun _ _ h => h⟩, ⟨ns, rfl, hl, rfl, rfl⟩, fun r outs hq v F' H' fp' po rr => ?_, fun _ _ _ h => h.elim⟩
  · cases i with
    | zero => cases hi; exact ⟨.ref a, rfl, .scr hS (Reps.ofInts ns)⟩
    | succ i => cases hi
  · cases i with
    | zero => cases hi
    | succ i => cases hi
  · obtain ⟨rfl, rfl⟩ := hq
    cases (show Rep K F' (.bl true) v from rr)
    rfl
theorem law_cx {H : Hp} {s : Shared} {e : Value} {s' : Shared} (h : L2N.CX P w [] H s (fun _ _ _ => False) e s') : False := by
  obtain ⟨_, _, _, _, _, _, _, _, _, _, _, _, z⟩ := h
  exact z
end
end TL
namespace TL
open PySem PySem.Spec PyProof.Rows L2
theorem depth_int (i : Int) : (PyData.int i).depth = 0 := by simp [PyData.depth]
theorem depth_bool (b : Bool) : (PyData.bool b).depth = 0 := by simp [PyData.depth]
theorem isi_int_int (i : Int) : isiD (.int i) "int" = some true := by
  have h : kitB "int" "int" = some true := by decide +kernel
  exact h
theorem isi_int_bool (i : Int) : isiD (.int i) "bool" = some false := by
  have h : kitB "int" "bool" = some false := by decide +kernel
  exact h
theorem isi_int_tuple (i : Int) : isiD (.int i) "tuple" = some false := by
  have h : kitB "int" "tuple" = some false := by decide +kernel
  exact h
theorem isi_int_list (i : Int) : isiD (.int i) "list" = some false := by
  have h : kitB "int" "list" = some false := by decide +kernel
  exact h
theorem isi_int_str (i : Int) : isiD (.int i) "str" = some false := by
  have h : kitB "int" "str" = some false := by decide +kernel
  exact h
theorem isi_int_dict (i : Int) : isiD (.int i) "dict" = some false := by
  have h : kitB "int" "dict" = some false := by decide +kernel
  exact h
theorem isi_bl_int (i : Bool) : isiD (.bl i) "int" = some true := by
  have h : kitB "bool" "int" = some true := by decide +kernel
  exact h
theorem isi_bl_bool (i : Bool) : isiD (.bl i) "bool" = some true := by
  have h : kitB "bool" "bool" = some true := by decide +kernel
  exact h
theorem isi_bl_tuple (i : Bool) : isiD (.bl i) "tuple" = some false := by
  have h : kitB "bool" "tuple" = some false := by decide +kernel
  exact h
theorem isi_bl_list (i : Bool) : isiD (.bl i) "list" = some false := by
  have h : kitB "bool" "list" = some false := by decide +kernel
  exact h
theorem isi_bl_str (i : Bool) : isiD (.bl i) "str" = some false := by
  have h : kitB "bool" "str" = some false := by decide +kernel
  exact h
theorem isi_bl_dict (i : Bool) : isiD (.bl i) "dict" = some false := by
  have h : kitB "bool" "dict" = some false := by decide +kernel
  exact h
theorem isi_non_int  : isiD .non "int" = some false := by
  have h : kitB "NoneType" "int" = some false := by decide +kernel
  exact h
theorem isi_non_bool  : isiD .non "bool" = some false := by
  have h : kitB "NoneType" "bool" = some false := by decide +kernel
  exact h
theorem isi_non_tuple  : isiD .non "tuple" = some false := by
  have h : kitB "NoneType" "tuple" = some false := by decide +kernel
  exact h
theorem isi_non_list  : isiD .non "list" = some false := by
  have h : kitB "NoneType" "list" = some false := by decide +kernel
  exact h
theorem isi_non_str  : isiD .non "str" = some false := by
  have h : kitB "NoneType" "str" = some false := by decide +kernel
  exact h
theorem isi_non_dict  : isiD .non "dict" = some false := by
  have h : kitB "NoneType" "dict" = some false := by decide +kernel
  exact h
theorem isi_str_int (i : Str) : isiD (.str i) "int" = some false := by
  have h : kitB "str" "int" = some false := by decide +kernel
  exact h
theorem isi_str_bool (i : Str) : isiD (.str i) "bool" = some false := by
  have h : kitB "str" "bool" = some false := by decide +kernel
  exact h
theorem isi_str_tuple (i : Str) : isiD (.str i) "tuple" = some false := by
  have h : kitB "str" "tuple" = some false := by decide +kernel
  exact h
theorem isi_str_list (i : Str) : isiD (.str i) "list" = some false := by
  have h : kitB "str" "list" = some false := by decide +kernel
  exact h
theorem isi_str_str (i : Str) : isiD (.str i) "str" = some true := by
  have h : kitB "str" "str" = some true := by decide +kernel
  exact h
theorem isi_str_dict (i : Str) : isiD (.str i) "dict" = some false := by
  have h : kitB "str" "dict" = some false := by decide +kernel
  exact h
theorem isi_tup_int (l : List D) : isiD (.tup l) "int" = some false := by
  have h : kitB "tuple" "int" = some false := by decide +kernel
  exact h
theorem isi_tup_bool (l : List D) : isiD (.tup l) "bool" = some false := by
  have h : kitB "tuple" "bool" = some false := by decide +kernel
  exact h
theorem isi_tup_tuple (l : List D) : isiD (.tup l) "tuple" = some true := by
  have h : kitB "tuple" "tuple" = some true := by decide +kernel
  exact h
theorem isi_tup_list (l : List D) : isiD (.tup l) "list" = some false := by
  have h : kitB "tuple" "list" = some false := by decide +kernel
  exact h
theorem isi_tup_str (l : List D) : isiD (.tup l) "str" = some false := by
  have h : kitB "tuple" "str" = some false := by decide +kernel
  exact h
theorem isi_tup_dict (l : List D) : isiD (.tup l) "dict" = some false := by
  have h : kitB "tuple" "dict" = some false := by decide +kernel
  exact h
theorem isi_lst_int (l : List D) : isiD (.lst l) "int" = some false := by
  have h : kitB "list" "int" = some false := by decide +kernel
  exact h
theorem isi_lst_bool (l : List D) : isiD (.lst l) "bool" = some false := by
  have h : kitB "list" "bool" = some false := by decide +kernel
  exact h
theorem isi_lst_tuple (l : List D) : isiD (.lst l) "tuple" = some false := by
  have h : kitB "list" "tuple" = some false := by decide +kernel
  exact h
theorem isi_lst_list (l : List D) : isiD (.lst l) "list" = some true := by
  have h : kitB "list" "list" = some true := by decide +kernel
  exact h
theorem isi_lst_str (l : List D) : isiD (.lst l) "str" = some false := by
  have h : kitB "list" "str" = some false := by decide +kernel
  exact h
theorem isi_lst_dict (l : List D) : isiD (.lst l) "dict" = some false := by
  have h : kitB "list" "dict" = some false := by decide +kernel
  exact h
theorem isi_dct_int (k : KK) (l : List (D × D)) : isiD (.dct k l) "int" = some false := by
  have h : kitB "dict" "int" = some false := by decide +kernel
  exact h
theorem isi_dct_bool (k : KK) (l : List (D × D)) : isiD (.dct k l) "bool" = some false := by
  have h : kitB "dict" "bool" = some false := by decide +kernel
  exact h
theorem isi_dct_tuple (k : KK) (l : List (D × D)) : isiD (.dct k l) "tuple" = some false := by
  have h : kitB "dict" "tuple" = some false := by decide +kernel
  exact h
theorem isi_dct_list (k : KK) (l : List (D × D)) : isiD (.dct k l) "list" = some false := by
  have h : kitB "dict" "list" = some false := by decide +kernel
  exact h
theorem isi_dct_str (k : KK) (l : List (D × D)) : isiD (.dct k l) "str" = some false := by
  have h : kitB "dict" "str" = some false := by decide +kernel
  exact h
theorem isi_dct_dict (k : KK) (l : List (D × D)) : isiD (.dct k l) "dict" = some true := by
  have h : kitB "dict" "dict" = some true := by decide +kernel
  exact h
/-- a tag on an argument: simp does not go into an argument that a later one depends on -/
structure Tg {α : Type} (x : α) : Type where
/-- a call whose arguments are there; the walk stops here -/
def callK (ts : TSpec) (args : List Arg) (PQ : R → List Cell → Prop) (PX : String → Pay → List Cell → Prop) (_ : Tg (PQ, PX) := ⟨⟩) : Prop := ts args PQ PX
def forK (g : WG) (b : WS) (W : TX) (ds : List D) (t : TSt) (D0 : TD) (_ : Tg (g, b, W, D0) := ⟨⟩) : Prop := forL g b W ds t D0
def whileK (c : WT) (b : WS) (W : TX) (t : TSt) (D0 : TD) (_ : Tg (c, b, W, D0) := ⟨⟩) : Prop := wWhile c b W t D0
def lcK (g : WG) (c : WT) (e : WE) (vs : List Nat) (ds acc : List D) (t : TSt) (Q : List D → TSt → Prop) (_ : Tg (g, c, e, Q) := ⟨⟩) : Prop := lcL g c e vs ds acc t Q
theorem wWhile_ap (c : WT) (b : WS) (W : TX) (t : TSt) (D0 : TD) : wWhile c b W t D0 = whileK c b W t D0 := rfl
def goCall (ts : TSpec) (as : List AV) (t : TSt) (W : TX) (Q : R → TSt → Prop) : Prop := (refsA as).Nodup ∧ match resA as t with
  | some args => callK ts args (fun r outs => Q r (putA as outs t)) (fun cls pay outs => W cls pay (putA as outs t))
  | none => False
theorem wCall_ap (ts : TSpec) (a : WAA) (W : TX) (t : TSt) (Q : R → TSt → Prop) : wCall ts a W t Q = a W t fun as t1 => goCall ts as t1 W Q := by
  unfold wCall
  congr 1
  funext as t1
  unfold goCall callK
  refine propext (and_congr Iff.rfl ?_)
  constructor
  · rintro ⟨args, e, h⟩; rw [e]; exact h
  · intro h
    split at h
    · rename_i args e; exact ⟨args, e, h⟩
    · exact h.elim
def withO {α : Type} (o : Option α) (k : α → Prop) (_ : Tg k := ⟨⟩) : Prop := match o with
  | some x => k x
  | none => False
theorem withO_some {α : Type} (x : α) (k : α → Prop) (g : Tg k) : withO (some x) k g = k x := rfl
def varS (t : TSt) (i : Nat) : Option (D × TSt) := match t[i]? with
  | some (.v d) => some (d, t)
  | some (.own c) => c.d?.map fun d => (d, t.set i (.v d))
  | _ => none
def stS (i : Nat) (r : R) (t : TSt) : Option TSt := match t[i]? with
  | some (.bor _) => none
  | none => none
  | some _ => match r with
    | .v d => some (t.set i (.v d))
    | .own c => some (t.set i (.own c))
def two? : List D → Option (D × D)
  | [a, b] => some (a, b)
  | _ => none
def one? : List D → Option D
  | [a] => some a
  | _ => none
def oneL? : List D → Option (List D)
  | [.lst a] => some a
  | _ => none
def int1? : List D → Option Int
  | [.int a] => some a
  | _ => none
def int2? : List D → Option (Int × Int)
  | [.int a, .int b] => some (a, b)
  | _ => none
def int3? : List D → Option (Int × Int × Int)
  | [.int a, .int b, .int c] => some (a, b, c)
  | _ => none
def rint? : R → Option Int
  | .v (.int i) => some i
  | _ => none
def rbl? : R → Option Bool
  | .v (.bl i) => some i
  | _ => none
def vAt (t : TSt) (i : Nat) : Option D := match t[i]? with
  | some (.v x) => some x
  | _ => none
def lstAt (t : TSt) (i : Nat) : Option (List D) := match cellAt t i with
  | some (.lst l) => some l
  | _ => none
theorem int1_w (ds : List D) (h : ∀ a, ds = [.int a] → False) : int1? ds = none := by
  unfold int1?
  split
  · exact (h _ rfl).elim
  · rfl
theorem int2_w (ds : List D) (h : ∀ a b, ds = [.int a, .int b] → False) : int2? ds = none := by
  unfold int2?
  split
  · exact (h _ _ rfl).elim
  · rfl
theorem int3_w (ds : List D) (h : ∀ a b c, ds = [.int a, .int b, .int c] → False) : int3? ds = none := by
  unfold int3?
  split
  · exact (h _ _ _ rfl).elim
  · rfl
theorem pk_ap (t : TSt) (i : Nat) (k : D → Prop) : pk t i k = withO (peek t i) k := by
  unfold pk withO
  cases peek t i <;> rfl
theorem stR_ap (i : Nat) (r : R) (t : TSt) (k : TSt → Prop) : stR i r t k = withO (stS i r t) k := by
  unfold stR stS
  cases t[i]? with
  | none => rfl
  | some s => cases s <;> cases r <;> rfl
theorem onLst_ap (t : TSt) (i : Nat) (k : List D → Prop) : onLst t i k = withO (lstAt t i) k := by
  unfold onLst lstAt
  cases cellAt t i with
  | none => rfl
  | some c => cases c <;> rfl
theorem retO_ap (args : List Arg) (t : TSt) (k : List Cell → Prop) : retO args t k = withO (outsOf args t) k := by
  unfold retO withO
  cases outsOf args t <;> rfl
theorem goCall_ap (ts : TSpec) (as : List AV) (t : TSt) (W : TX) (Q : R → TSt → Prop) : goCall ts as t W Q = ((refsA as).Nodup ∧ withO (resA as t) fun args => callK ts args (fun r outs => Q r (putA as outs t)) (fun cls pay outs => W cls pay (putA as outs t))) := by
  unfold goCall withO
  cases resA as t <;> rfl
def putC' (t : TSt) (i : Nat) (key d : D) (k : TSt → Prop) : Cell → Prop
  | .dct kk l => D.isKey kk key = true ∧ l.length < sizeLine ∧ k (setCell t i (.dct kk (putD l key d)))
  | .lst l => match key with
    | .int n => withO (ixN l.length n) fun j => k (setCell t i (.lst (l.set j d)))
    | _ => False
  | .ins _ _ => False
theorem putC_ap (t : TSt) (i : Nat) (key d : D) (k : TSt → Prop) : putC t i key d k = withO (cellAt t i) (putC' t i key d k) := by
  unfold putC
  cases h : cellAt t i with
  | none => rfl
  | some c =>
    cases c with
    | dct kk l => rfl
    | ins _ _ => rfl
    | lst l =>
      cases key with
      | int n =>
        show (match ixN l.length n with | some j => k (setCell t i (.lst (l.set j d))) | none => False) = withO (ixN l.length n) _
        cases ixN l.length n <;> rfl
      | _ => rfl
theorem putC'_dct (t : TSt) (i : Nat) (key d : D) (k : TSt → Prop) (kk : KK) (l : List (D × D)) : putC' t i key d k (.dct kk l) = (D.isKey kk key = true ∧ l.length < sizeLine ∧ k (setCell t i (.dct kk (putD l key d)))) := rfl
def getC' (key : D) (k : D → Prop) : Cell → Prop
  | .lst l => match key with
    | .int n => withO (L2.atI l n) k
    | _ => False
  | .dct kk l => D.isKey kk key = true ∧ withO (lookD l key) k
  | .ins _ _ => False
theorem getC_ap (t : TSt) (i : Nat) (key : D) (k : D → Prop) : getC t i key k = withO (cellAt t i) (getC' key k) := by
  unfold getC
  cases h : cellAt t i with
  | none => rfl
  | some c =>
    cases c with
    | ins _ _ => rfl
    | dct kk l =>
      show (D.isKey kk key = true ∧ match lookD l key with | some d => k d | none => False) = (D.isKey kk key = true ∧ withO (lookD l key) k)
      cases lookD l key <;> rfl
    | lst l =>
      cases key with
      | int n =>
        show (match L2.atI l n with | some d => k d | none => False) = withO (L2.atI l n) k
        cases L2.atI l n <;> rfl
      | _ => rfl
theorem getC'_dct (key : D) (k : D → Prop) (kk : KK) (l : List (D × D)) : getC' key k (.dct kk l) = (D.isKey kk key = true ∧ withO (lookD l key) k) := rfl
theorem dGet_str (x : Str) (i : Int) (Q : R → Prop) : dGet (.str x) (.int i) Q = (x.length ≤ sizeLine ∧ withO (L2.atI x.cps.toList i) fun c => Q (.v (.str ⟨#[c]⟩))) := by
  show (x.length ≤ sizeLine ∧ match L2.atI x.cps.toList i with | some c => Q (.v (.str ⟨#[c]⟩)) | none => False) = _
  cases L2.atI x.cps.toList i <;> rfl
theorem dGet_dct (kk : KK) (l : List (D × D)) (k : D) (Q : R → Prop) : dGet (.dct kk l) k Q = (D.isKey kk k = true ∧ withO (lookD l k) fun d => Q (.v d)) := by
  have e : dGet (.dct kk l) k Q = (D.isKey kk k = true ∧ match lookD l k with | some d => Q (.v d) | none => False) := by cases k <;> rfl
  rw [e]
  cases lookD l k <;> rfl
theorem gsNil_ap (t : TSt) (k : TSt → Prop) : gsNil [] t k = k t := rfl
theorem gsCons_ap (a : WG) (b : WGs) (d : D) (r : List D) (t : TSt) (k : TSt → Prop) : gsCons a b (d :: r) t k = a d t fun t1 => b r t1 k := rfl
theorem nIsi_ap (d : D) (n : String) (Q : R → Prop) : nIsi [d, .ty n] Q = withO (isiD d n) fun b => Q (.v (.bl b)) := by
  show (match isiD d n with | some b => Q (.v (.bl b)) | none => False) = _
  cases isiD d n <;> rfl
theorem wVar_ap (i : Nat) (W : TX) (t : TSt) (Q : R → TSt → Prop) : (wVar i W t Q) = (withO (varS t i) fun p => Q (.v p.1) p.2) := by
  unfold wVar varS
  cases h : t[i]? with
  | none => rfl
  | some s =>
    cases s with
    | un => rfl
    | v d => rfl
    | bor c => rfl
    | own c => show (match c.d? with | some d => Q (.v d) (t.set i (.v d)) | none => False) = withO (c.d?.map fun d => (d, t.set i (.v d))) _; cases c.d? <;> rfl
theorem wC_ap (d : D) (W : TX) (t : TSt) (Q : R → TSt → Prop) : (wC d W t Q) = (Q (.v d) t) := rfl
theorem wBin_ap (o : Op2) (a b : WE) (W : TX) (t : TSt) (Q : R → TSt → Prop) : (wBin o a b W t Q) = (a W t fun r t1 => fz r fun x => b W t1 fun r' t2 => fz r' fun y => o x y fun z => Q z t2) := rfl
theorem wBinK_ap (o : Op2) (a : WE) (i : Nat) (W : TX) (t : TSt) (Q : R → TSt → Prop) : (wBinK o a i W t Q) = (a W t fun r t1 => fz r fun x => pk t1 i fun y => o x y fun z => Q z t1) := rfl
theorem wTB_ap (w : WE) (W : TX) (t : TSt) (Q : Bool → TSt → Prop) : (wTB w W t Q) = (w W t fun r t1 => rB (fun b => Q b t1) r) := rfl
theorem wTru_ap (w : WE) (W : TX) (t : TSt) (Q : Bool → TSt → Prop) : (wTru w W t Q) = (w W t fun r t1 => fz r fun d => truD (fun b => Q b t1) d) := rfl
theorem wAnd_ap (c d : WT) (W : TX) (t : TSt) (Q : Bool → TSt → Prop) : (wAnd c d W t Q) = (c W t fun b t1 => if b = true then d W t1 Q else Q false t1) := rfl
theorem wOr_ap (c d : WT) (W : TX) (t : TSt) (Q : Bool → TSt → Prop) : (wOr c d W t Q) = (c W t fun b t1 => if b = true then Q true t1 else d W t1 Q) := rfl
theorem wNot_ap (c : WT) (W : TX) (t : TSt) (Q : Bool → TSt → Prop) : (wNot c W t Q) = (c W t fun b t1 => Q (!b) t1) := rfl
theorem wAndV_ap (a b : WE) (W : TX) (t : TSt) (Q : R → TSt → Prop) : (wAndV a b W t Q) = (a W t fun r t1 => rB (fun c => if c = true then b W t1 Q else Q (.v (.bl false)) t1) r) := rfl
theorem wOrV_ap (a b : WE) (W : TX) (t : TSt) (Q : R → TSt → Prop) : (wOrV a b W t Q) = (a W t fun r t1 => rB (fun c => if c = true then Q (.v (.bl true)) t1 else b W t1 Q) r) := rfl
theorem wNotT_ap (a : WE) (W : TX) (t : TSt) (Q : R → TSt → Prop) : (wNotT a W t Q) = (a W t fun r t1 => fz r fun d => truD (fun c => Q (.v (.bl (!c))) t1) d) := rfl
theorem wIte_ap (c : WT) (a b : WE) (W : TX) (t : TSt) (Q : R → TSt → Prop) : (wIte c a b W t Q) = (c W t fun k t1 => if k = true then a W t1 Q else b W t1 Q) := rfl
theorem wCh_ap (o o' : Op2) (a b c : WE) (W : TX) (t : TSt) (Q : R → TSt → Prop) : (wCh o o' a b c W t Q) = (a W t fun r t1 => fz r fun x => b W t1 fun r' t2 => fz r' fun y => o x y fun z => rB (fun k => if k = true then c W t2 fun r'' t3 => fz r'' fun w => o' y w fun z' => Q z' t3 else Q (.v (.bl false)) t2) z) := rfl
theorem wNext_ap (W : TX) (t : TSt) (nx : TSt → Prop) (rt : R → TSt → Prop) (bk ct : TSt → Prop) : (wNext W t ⟨nx, rt, bk, ct⟩) = (nx t) := rfl
theorem wSeq_ap (a b : WS) (W : TX) (t : TSt) (nx : TSt → Prop) (rt : R → TSt → Prop) (bk ct : TSt → Prop) : (wSeq a b W t ⟨nx, rt, bk, ct⟩) = (a W t ⟨fun t1 => b W t1 ⟨nx, rt, bk, ct⟩, rt, bk, ct⟩) := rfl
theorem wDrop_ap (a : WE) (W : TX) (t : TSt) (nx : TSt → Prop) (rt : R → TSt → Prop) (bk ct : TSt → Prop) : (wDrop a W t ⟨nx, rt, bk, ct⟩) = (a W t fun _ t1 => nx t1) := rfl
theorem wRet_ap (a : WE) (W : TX) (t : TSt) (nx : TSt → Prop) (rt : R → TSt → Prop) (bk ct : TSt → Prop) : (wRet a W t ⟨nx, rt, bk, ct⟩) = (a W t rt) := rfl
theorem wBrk_ap (W : TX) (t : TSt) (nx : TSt → Prop) (rt : R → TSt → Prop) (bk ct : TSt → Prop) : (wBrk W t ⟨nx, rt, bk, ct⟩) = (bk t) := rfl
theorem wCnt_ap (W : TX) (t : TSt) (nx : TSt → Prop) (rt : R → TSt → Prop) (bk ct : TSt → Prop) : (wCnt W t ⟨nx, rt, bk, ct⟩) = (ct t) := rfl
theorem wIf_ap (c : WT) (a b : WS) (W : TX) (t : TSt) (nx : TSt → Prop) (rt : R → TSt → Prop) (bk ct : TSt → Prop) : (wIf c a b W t ⟨nx, rt, bk, ct⟩) = (c W t fun k t1 => if k = true then a W t1 ⟨nx, rt, bk, ct⟩ else b W t1 ⟨nx, rt, bk, ct⟩) := rfl
theorem wSet_ap (i : Nat) (a : WE) (W : TX) (t : TSt) (nx : TSt → Prop) (rt : R → TSt → Prop) (bk ct : TSt → Prop) : (wSet i a W t ⟨nx, rt, bk, ct⟩) = (a W t fun r t1 => stR i r t1 nx) := rfl
theorem wAsg_ap (a : WE) (g : WG) (W : TX) (t : TSt) (nx : TSt → Prop) (rt : R → TSt → Prop) (bk ct : TSt → Prop) : (wAsg a g W t ⟨nx, rt, bk, ct⟩) = (a W t fun r t1 => fz r fun d => g d t1 nx) := rfl
theorem wPar_ap (i j : Nat) (a : WA) (W : TX) (t : TSt) (nx : TSt → Prop) (rt : R → TSt → Prop) (bk ct : TSt → Prop) : (wPar i j a W t ⟨nx, rt, bk, ct⟩) = (a W t fun ds t1 => withO (two? ds) fun p => stR i (.v p.1) t1 fun t2 => stR j (.v p.2) t2 nx) := by
  unfold wPar
  congr 1
  funext ds t1
  cases ds with
  | nil => rfl
  | cons x r => cases r with
    | nil => rfl
    | cons y r => cases r <;> rfl
theorem wAug_ap (i : Nat) (o : Op2) (a : WE) (W : TX) (t : TSt) (nx : TSt → Prop) (rt : R → TSt → Prop) (bk ct : TSt → Prop) : (wAug i o a W t ⟨nx, rt, bk, ct⟩) = (withO (vAt t i) fun x => a W t fun r t1 => fz r fun y => o x y fun z => stR i z t1 nx) := by
  unfold wAug vAt
  cases t[i]? with
  | none => rfl
  | some s => cases s <;> rfl
theorem wFor_ap (i : WI) (g : WG) (b : WS) (W : TX) (t : TSt) (nx : TSt → Prop) (rt : R → TSt → Prop) (bk ct : TSt → Prop) : (wFor i g b W t ⟨nx, rt, bk, ct⟩) = (i W t fun ds t1 => forK g b W ds t1 ⟨nx, rt, bk, ct⟩) := rfl
theorem wItS_ap (a : WE) (W : TX) (t : TSt) (Q : List D → TSt → Prop) : (wItS a W t Q) = (a W t fun r t1 => fz r fun d => itD (fun l => Q l t1) d) := rfl
theorem wR1_ap (a : WA) (W : TX) (t : TSt) (Q : List D → TSt → Prop) : (wR1 a W t Q) = (a W t fun ds t1 => withO (int1? ds) fun j => small j ∧ Q (rangeD 0 1 j.toNat) t1) := by
  unfold wR1
  congr 1
  funext ds t1
  have z := int1_w ds
  split
  · rfl
  · rw [z (by assumption)]; rfl
theorem wR2_ap (a : WA) (W : TX) (t : TSt) (Q : List D → TSt → Prop) : (wR2 a W t Q) = (a W t fun ds t1 => withO (int2? ds) fun p => small p.1 ∧ small p.2 ∧ Q (rangeD p.1 1 (p.2 - p.1).toNat) t1) := by
  unfold wR2
  congr 1
  funext ds t1
  have z := int2_w ds
  split
  · rfl
  · rw [z (by assumption)]; rfl
theorem wR3_ap (a : WA) (W : TX) (t : TSt) (Q : List D → TSt → Prop) : (wR3 a W t Q) = (a W t fun ds t1 => withO (int3? ds) fun p => ∃ n, RgC p.1 p.2.1 p.2.2 n ∧ Q (rangeD p.1 p.2.2 n) t1) := by
  unfold wR3
  congr 1
  funext ds t1
  have z := int3_w ds
  split
  · rfl
  · rw [z (by assumption)]; rfl
theorem wNil_ap (W : TX) (t : TSt) (Q : List D → TSt → Prop) : (wNil W t Q) = (Q [] t) := rfl
theorem wCons_ap (a : WE) (b : WA) (W : TX) (t : TSt) (Q : List D → TSt → Prop) : (wCons a b W t Q) = (a W t fun r t1 => fz r fun d => b W t1 fun ds t2 => Q (d :: ds) t2) := rfl
theorem gN_ap (i : Nat) (d : D) (t : TSt) (k : TSt → Prop) : (gN i d t k) = (stR i (.v d) t k) := rfl
theorem wYes_ap (W : TX) (t : TSt) (Q : Bool → TSt → Prop) : (wYes W t Q) = (Q true t) := rfl
theorem wLc_ap (i : WI) (g : WG) (c : WT) (e : WE) (vs : List Nat) (W : TX) (t : TSt) (Q : R → TSt → Prop) : (wLc i g c e vs W t Q) = (i W t fun ds t1 => lcK g c e vs ds [] (wipeT t1 vs) fun acc t2 => Q (.own (.lst acc)) t2) := rfl
theorem aNil_ap (W : TX) (t : TSt) (Q : List AV → TSt → Prop) : (aNil W t Q) = (Q [] t) := rfl
theorem aV_ap (a : WE) (b : WAA) (W : TX) (t : TSt) (Q : List AV → TSt → Prop) : (aV a b W t Q) = (a W t fun r t1 => fz r fun d => b W t1 fun ds t2 => Q (.inl d :: ds) t2) := rfl
theorem aR_ap (i : Nat) (b : WAA) (W : TX) (t : TSt) (Q : List AV → TSt → Prop) : (aR i b W t Q) = (withO (cellAt t i) fun _ => b W t fun ds t2 => Q (.inr i :: ds) t2) := by
  unfold aR cellAt
  cases t[i]? with
  | none => rfl
  | some s => cases s <;> rfl
theorem wNeg_ap (a : WE) (W : TX) (t : TSt) (Q : R → TSt → Prop) : (wNeg a W t Q) = (a W t fun r t1 => withO (rint? r) fun i => Q (.v (.int (-i))) t1) := by
  unfold wNeg
  congr 1
  funext r t1
  cases r with
  | own c => rfl
  | v d => cases d <;> rfl
theorem wTup_ap (a : WA) (W : TX) (t : TSt) (Q : R → TSt → Prop) : (wTup a W t Q) = (a W t fun ds t1 => ds.length ≤ sizeLine ∧ Q (.v (.tup ds)) t1) := rfl
theorem wLst_ap (a : WA) (W : TX) (t : TSt) (Q : R → TSt → Prop) : (wLst a W t Q) = (a W t fun ds t1 => ds.length ≤ sizeLine ∧ Q (.own (.lst ds)) t1) := rfl
theorem wBi_ap (o : OpN) (a : WA) (W : TX) (t : TSt) (Q : R → TSt → Prop) : (wBi o a W t Q) = (a W t fun ds t1 => o ds fun r => Q r t1) := rfl
theorem wBiK_ap (o : OpN) (i : Nat) (W : TX) (t : TSt) (Q : R → TSt → Prop) : (wBiK o i W t Q) = (pk t i fun d => o [d] fun r => Q r t) := rfl
theorem wSubK_ap (o : Op2) (i : Nat) (b : WE) (W : TX) (t : TSt) (Q : R → TSt → Prop) : (wSubK o i b W t Q) = (pk t i fun _ => b W t fun r t1 => fz r fun y => pk t1 i fun x => o x y fun z => Q z t1) := rfl
theorem oNone_ap (W : TX) (t : TSt) (Q : Option Int → TSt → Prop) : (oNone W t Q) = (Q none t) := rfl
theorem oSome_ap (a : WE) (W : TX) (t : TSt) (Q : Option Int → TSt → Prop) : (oSome a W t Q) = (a W t fun r t1 => withO (rint? r) fun i => Q (some i) t1) := by
  unfold oSome
  congr 1
  funext r t1
  cases r with
  | own c => rfl
  | v d => cases d <;> rfl
theorem wSl_ap (a : WE) (lo hi : WO) (W : TX) (t : TSt) (Q : R → TSt → Prop) : (wSl a lo hi W t Q) = (a W t fun r t1 => fz r fun d => lo W t1 fun l t2 => hi W t2 fun h t3 => dSl d l h fun z => Q z t3) := rfl
theorem wApp_ap (i : Nat) (a : WA) (W : TX) (t : TSt) (Q : R → TSt → Prop) : (wApp i a W t Q) = (onLst t i fun _ => a W t fun ds t1 => withO (one? ds) fun d => onLst t1 i fun l => l.length < sizeLine ∧ Q (.v .non) (setCell t1 i (.lst (l ++ [d])))) := by
  unfold wApp
  congr 1
  funext l0
  congr 1
  funext ds t1
  cases ds with
  | nil => rfl
  | cons x r => cases r <;> rfl
theorem wExt_ap (i : Nat) (a : WA) (W : TX) (t : TSt) (Q : R → TSt → Prop) : (wExt i a W t Q) = (onLst t i fun _ => a W t fun ds t1 => withO (oneL? ds) fun m => onLst t1 i fun l => l.length + m.length ≤ sizeLine ∧ Q (.v .non) (setCell t1 i (.lst (l ++ m)))) := by
  unfold wExt
  congr 1
  funext l0
  congr 1
  funext ds t1
  cases ds with
  | nil => rfl
  | cons x r => cases x <;> cases r <;> rfl
theorem wPop_ap (i : Nat) (W : TX) (t : TSt) (Q : R → TSt → Prop) : (wPop i W t Q) = (onLst t i fun l => withO (l[l.length - 1]?) fun d => Q (.v d) (setCell t i (.lst l.dropLast))) := by
  unfold wPop withO
  congr 1
  funext l
  cases l[l.length - 1]? <;> rfl
theorem wPut_ap (i : Nat) (key val : WE) (W : TX) (t : TSt) (nx : TSt → Prop) (rt : R → TSt → Prop) (bk ct : TSt → Prop) : (wPut i key val W t ⟨nx, rt, bk, ct⟩) = (val W t fun r t1 => fz r fun d => (cellAt t1 i).isSome = true ∧ key W t1 fun r' t2 => fz r' fun k => putC t2 i k d nx) := rfl
theorem wAugS_ap (i : Nat) (o : Op2) (key val : WE) (W : TX) (t : TSt) (nx : TSt → Prop) (rt : R → TSt → Prop) (bk ct : TSt → Prop) : (wAugS i o key val W t ⟨nx, rt, bk, ct⟩) = ((cellAt t i).isSome = true ∧ key W t fun r t1 => fz r fun k => getC t1 i k fun x => val W t1 fun r' t2 => fz r' fun y => o x y fun z => fz z fun d => putC t2 i k d nx) := rfl
theorem wDnew_ap (kk : KK) (W : TX) (t : TSt) (Q : R → TSt → Prop) : (wDnew kk W t Q) = (Q (.own (.dct kk [])) t) := rfl
theorem kNil_ap (W : TX) (t : TSt) (Q : List (D × D) → TSt → Prop) : (kNil W t Q) = (Q [] t) := rfl
theorem kCons_ap (a b : WE) (c : WK) (W : TX) (t : TSt) (Q : List (D × D) → TSt → Prop) : (kCons a b c W t Q) = (a W t fun r t1 => fz r fun k => b W t1 fun r' t2 => fz r' fun v => c W t2 fun ps t3 => Q ((k, v) :: ps) t3) := rfl
theorem wDisp_ap (ws : List (WE × WE)) (W : TX) (t : TSt) (Q : R → TSt → Prop) : (wDisp ws W t Q) = (wPairs ws noX t fun ps t1 => ps.length ≤ 15 ∧ (ps.all fun p => D.isKey .k p.1) = true ∧ Q (.own (.dct .k (mergeD [] ps))) t1) := rfl
theorem md_zero {α : Type} (a : α) (l : List α) (f : α → α) : (a :: l).modify 0 f = f a :: l := rfl
theorem md_succ {α : Type} (a : α) (l : List α) (i : Nat) (f : α → α) : (a :: l).modify (i + 1) f = a :: l.modify i f := rfl
theorem refsA_nil : refsA [] = [] := rfl
theorem refsA_inl (d : D) (l : List AV) : refsA (.inl d :: l) = refsA l := rfl
theorem refsA_inr (i : Nat) (l : List AV) : refsA (.inr i :: l) = i :: refsA l := rfl
end TL
namespace TL
open PySem PySem.Spec PyProof.Rows L2
section
variable {B : Base} {X : Cx}
def wLrg1 (a : WE) : WE := fun W t Q => a W t fun r t1 => match r with
  | .v (.int i) => RgOk 0 i ∧ Q (.own (.lst (rangeD 0 1 (i - 0).toNat))) t1
  | _ => False
def wTrg1 (a : WE) : WE := fun W t Q => a W t fun r t1 => match r with
  | .v (.int i) => RgOk 0 i ∧ Q (.v (.tup (rangeD 0 1 (i - 0).toNat))) t1
  | _ => False
def wPar3 (i j l : Nat) (a : WA) : WS := fun W t D => a W t fun ds t1 => match ds with
  | [x, y, z] => stR i (.v x) t1 fun t2 => stR j (.v y) t2 fun t3 => stR l (.v z) t3 D.nx
  | _ => False
end
def int? : R → Option Int
  | .v (.int i) => some i
  | _ => none
theorem wLrg1_ap (a : WE) (W : TX) (t : TSt) (Q : R → TSt → Prop) : wLrg1 a W t Q = a W t fun r t1 => withO (int? r) fun i => RgOk 0 i ∧ Q (.own (.lst (rangeD 0 1 (i - 0).toNat))) t1 := by
  unfold wLrg1
  congr 1
  funext r t1
  rcases r with ⟨d⟩ | c
  · cases d <;> rfl
  · rfl
theorem wTrg1_ap (a : WE) (W : TX) (t : TSt) (Q : R → TSt → Prop) : wTrg1 a W t Q = a W t fun r t1 => withO (int? r) fun i => RgOk 0 i ∧ Q (.v (.tup (rangeD 0 1 (i - 0).toNat))) t1 := by
  unfold wTrg1
  congr 1
  funext r t1
  rcases r with ⟨d⟩ | c
  · cases d <;> rfl
  · rfl
def three? : List D → Option (D × D × D)
  | [a, b, c] => some (a, b, c)
  | _ => none
theorem wPar3_ap (i j l : Nat) (a : WA) (W : TX) (t : TSt) (nx : TSt → Prop) (rt : R → TSt → Prop) (bk ct : TSt → Prop) : wPar3 i j l a W t ⟨nx, rt, bk, ct⟩ = a W t fun ds t1 => withO (three? ds) fun p => stR i (.v p.1) t1 fun t2 => stR j (.v p.2.1) t2 fun t3 => stR l (.v p.2.2) t3 nx := by
  unfold wPar3
  congr 1
  funext ds t1
  match ds with
  | [] => rfl
  | [_] => rfl
  | [_, _] => rfl
  | [_, _, _] => rfl
  | _ :: _ :: _ :: _ :: _ => rfl
end TL
namespace TL
open PySem PySem.Spec PyProof.Rows L2
structure Enc (α : Type) where
  enc : α → D
  dep : Nat
  pl : ∀ a, (enc a).pl = true
  de : ∀ a, (enc a).py.depth ≤ dep
  eq : ∀ a b, pyEq (enc a) (enc b) = true ↔ a = b
theorem Enc.eqOk {α : Type} (e : Enc α) (h : e.dep ≤ 64) (a b : α) : eqOk (e.enc a) (e.enc b) := ⟨e.pl a, e.pl b, by have := e.de a; omega⟩
theorem Enc.eqb {α : Type} [DecidableEq α] (e : Enc α) (a b : α) : pyEq (e.enc a) (e.enc b) = decide (a = b) := by
  by_cases h : a = b
  · rw [decide_eq_true h]; exact (e.eq a b).mpr h
  · rw [decide_eq_false h]; exact Bool.eq_false_iff.mpr fun z => h ((e.eq a b).mp z)
theorem Enc.dEq {α : Type} [DecidableEq α] (e : Enc α) (h : e.dep ≤ 64) (a b : α) (Q : R → Prop) : dEq (e.enc a) (e.enc b) Q = Q (.v (.bl (decide (a = b)))) := by
  unfold TL.dEq
  rw [e.eqb]
  exact propext ⟨fun z => z.2, fun z => ⟨e.eqOk h a b, z⟩⟩
theorem Enc.dNe {α : Type} [DecidableEq α] (e : Enc α) (h : e.dep ≤ 64) (a b : α) (Q : R → Prop) : dNe (e.enc a) (e.enc b) Q = Q (.v (.bl (!decide (a = b)))) := by
  unfold TL.dNe
  rw [e.eqb]
  exact propext ⟨fun z => z.2, fun z => ⟨e.eqOk h a b, z⟩⟩
theorem pyEq_int (i j : Int) : pyEq (.int i) (.int j) = true ↔ i = j := by
  show PyData.eqv (.int i) (.int j) = true ↔ _
  unfold PyData.eqv
  simp
def encI : Enc Int := ⟨.int, 0, fun _ => rfl, fun i => by rw [show (D.int i).py = .int i from rfl, depth_int]; exact Nat.le_refl _, pyEq_int⟩
theorem pyL_eq {α : Type} (e : Enc α) : ∀ a b : List α, PyData.eqvAll (D.pyL (a.map e.enc)) (D.pyL (b.map e.enc)) = true ↔ a = b
  | [], [] => by simp [D.pyL, PyData.eqvAll]
  | [], _ :: _ => by simp [D.pyL, PyData.eqvAll]
  | _ :: _, [] => by simp [D.pyL, PyData.eqvAll]
  | x :: a, y :: b => by
    have h1 := e.eq x y
    have h2 := pyL_eq e a b
    show (PyData.eqv (e.enc x).py (e.enc y).py && PyData.eqvAll (D.pyL (a.map e.enc)) (D.pyL (b.map e.enc))) = true ↔ _
    rw [Bool.and_eq_true, h2]
    rw [show (PyData.eqv (e.enc x).py (e.enc y).py = true) = (pyEq (e.enc x) (e.enc y) = true) from rfl, h1]
    simp
theorem plL_map {α : Type} (e : Enc α) : ∀ a : List α, D.plL (a.map e.enc) = true
  | [] => rfl
  | x :: a => by show ((e.enc x).pl && _) = true; rw [e.pl, plL_map e a]; rfl
theorem depL_map {α : Type} (e : Enc α) : ∀ a : List α, PyData.depthAll (D.pyL (a.map e.enc)) ≤ e.dep
  | [] => by simp [D.pyL, PyData.depthAll]
  | x :: a => by
    have h1 := e.de x
    have h2 := depL_map e a
    show PyData.depthAll ((e.enc x).py :: D.pyL (a.map e.enc)) ≤ _
    unfold PyData.depthAll
    omega
def encT {α : Type} (e : Enc α) : Enc (List α) := ⟨fun l => .tup (l.map e.enc), e.dep + 1, fun l => plL_map e l, fun l => by
    show (PyData.tuple (D.pyL (l.map e.enc))).depth ≤ _
    unfold PyData.depth
    have := depL_map e l
    omega, fun a b => by
    show PyData.eqv (.tuple _) (.tuple _) = true ↔ _
    unfold PyData.eqv
    exact pyL_eq e a b⟩
end TL
namespace TL
open PySem PySem.Spec PyProof.Rows L2
def oP {α : Type} (o : Option α) (k : α → Prop) : Prop := match o with
  | some x => k x
  | none => False
theorem oP_some {α : Type} (x : α) (k : α → Prop) : oP (some x) k = k x := rfl
theorem oP_none {α : Type} (k : α → Prop) : oP none k = False := rfl
theorem oP_bind {α β : Type} (o : Option α) (f : α → Option β) (k : β → Prop) : oP (o.bind f) k = oP o fun a => oP (f a) k := by cases o <;> rfl
theorem oP_ite {α : Type} {c : Prop} [Decidable c] (a b : Option α) (k : α → Prop) : oP (if c then a else b) k = if c then oP a k else oP b k := by split <;> rfl
theorem withO_oP {α : Type} (o : Option α) (k : α → Prop) (g : Tg k) : withO o k g = oP o k := by cases o <;> rfl
theorem oP_get {α : Type} {o : Option α} {k : α → Prop} (h : oP o k) : ∃ x, o = some x ∧ k x := by
  cases o with
  | none => exact h.elim
  | some x => exact ⟨x, rfl, h⟩
inductive SO (σ ρ : Type) where
  | nx (s : σ) | rt (r : ρ)
def SO.cs {σ ρ : Type} {β : Sort u} (o : SO σ ρ) (f : σ → β) (g : ρ → β) : β := match o with
  | .nx s => f s
  | .rt r => g r
theorem SO.cs_nx {σ ρ : Type} {β : Sort u} (s : σ) (f : σ → β) (g : ρ → β) : (SO.nx s : SO σ ρ).cs f g = f s := rfl
theorem SO.cs_rt {σ ρ : Type} {β : Sort u} (r : ρ) (f : σ → β) (g : ρ → β) : (SO.rt r : SO σ ρ).cs f g = g r := rfl
theorem oP_cs {σ ρ β : Type} (o : SO σ ρ) (f : σ → Option β) (g : ρ → Option β) (k : β → Prop) : oP (o.cs f g) k = o.cs (fun s => oP (f s) k) (fun r => oP (g r) k) := by cases o <;> rfl
inductive WH (σ ρ : Type) where
  | go (s : σ) | dn (s : σ) | rt (r : ρ)
def WH.cs {σ ρ : Type} {β : Sort u} (o : WH σ ρ) (e : σ → β) (f : σ → β) (g : ρ → β) : β := match o with
  | .go s => e s
  | .dn s => f s
  | .rt r => g r
theorem WH.cs_go {σ ρ : Type} {β : Sort u} (s : σ) (e f : σ → β) (g : ρ → β) : (WH.go s : WH σ ρ).cs e f g = e s := rfl
theorem WH.cs_dn {σ ρ : Type} {β : Sort u} (s : σ) (e f : σ → β) (g : ρ → β) : (WH.dn s : WH σ ρ).cs e f g = f s := rfl
theorem WH.cs_rt {σ ρ : Type} {β : Sort u} (r : ρ) (e f : σ → β) (g : ρ → β) : (WH.rt r : WH σ ρ).cs e f g = g r := rfl
inductive GO where
  | kp | fz | kl
def killS : Slot → Slot
  | .bor c => .bor c
  | _ => .un
def frzS : Slot → Slot
  | .own (.lst l) => .v (.lst l)
  | .own (.dct kk l) => .v (.dct kk l)
  | s => s
def ghZ : List GO → TSt → TSt
  | .kp :: g, s :: t => s :: ghZ g t
  | .fz :: g, s :: t => frzS s :: ghZ g t
  | .kl :: g, s :: t => killS s :: ghZ g t
  | _, t => t
/-- false: forgotten -/
def klZ : List Bool → TSt → TSt
  | true :: g, s :: t => s :: klZ g t
  | false :: g, s :: t => killS s :: klZ g t
  | _, t => t
section
variable {K : PySem.W.Frag} {B : Base} {g : Gh} {H : Hp} {σ : L2.St}
theorem Rel.swap {pre t : TSt} {s u : Slot} (r : Rel K B g (pre ++ s :: t) σ H) (h : SlotRel K B g H pre.length σ[pre.length]? s → SlotRel K B g H pre.length σ[pre.length]? u) : Rel K B g (pre ++ u :: t) σ H := by
  refine ⟨r.base, r.sub, r.ff, r.old, r.ft, r.dm, r.there, by have := r.len; simpa using this, fun j v e => ?_⟩
  by_cases hj : j = pre.length
  · subst hj
    have : v = u := by simpa using e.symm
    subst this
    exact h (r.slot _ _ (by simp))
  · refine r.slot j v ?_
    rcases Nat.lt_or_gt_of_ne hj with z | z
    · rw [List.getElem?_append_left z] at e ⊢; exact e
    · rw [List.getElem?_append_right (by omega)] at e ⊢
      obtain ⟨k, hk⟩ : ∃ k, j - pre.length = k + 1 := ⟨j - pre.length - 1, by omega⟩
      rw [hk] at e ⊢
      simpa using e
theorem kill_ok {i : Nat} {x : Option (Option V)} {s : Slot} (h : SlotRel K B g H i x s) : SlotRel K B g H i x (killS s) := by
  cases s with
  | bor c => exact h
  | _ => trivial
theorem kl_rel : ∀ (ks : List Bool) (pre t : TSt), Rel K B g (pre ++ t) σ H → Rel K B g (pre ++ klZ ks t) σ H
  | [], pre, t, r => by cases t <;> exact r
  | true :: ks, pre, [], r => r
  | false :: ks, pre, [], r => r
  | true :: ks, pre, s :: t, r => by
    have := kl_rel ks (pre ++ [s]) t (by rw [List.append_assoc]; exact r)
    rw [List.append_assoc] at this; exact this
  | false :: ks, pre, s :: t, r => by
    have r1 := r.swap (u := killS s) kill_ok
    have := kl_rel ks (pre ++ [killS s]) t (by rw [List.append_assoc]; exact r1)
    rw [List.append_assoc] at this; exact this
theorem Rel.kl {ks : List Bool} {t : TSt} (r : Rel K B g t σ H) : Rel K B g (klZ ks t) σ H := kl_rel ks [] t r
theorem frz_one {pre t : TSt} {s : Slot} (r : Rel K B g (pre ++ s :: t) σ H) : ∃ g', Same g.F g'.F ∧ Rel K B g' (pre ++ frzS s :: t) σ H := by
  have key : ∀ c d, s = .own c → c.d? = some d → ∃ g', Same g.F g'.F ∧ Rel K B g' (pre ++ .v d :: t) σ H := by
    intro c d e hd
    obtain ⟨g', v, s1, r1, _, _⟩ := r.freezeSlot (i := pre.length) (c := c) (by subst e; simp) hd
    refine ⟨g', s1, ?_⟩
    have e2 : (pre ++ s :: t).set pre.length (.v d) = pre ++ .v d :: t := by simp
    rw [e2] at r1; exact r1
  cases s with
  | own c => cases c with
    | lst l => exact key _ _ rfl rfl
    | dct kk l => exact key _ _ rfl rfl
    | ins _ _ => exact ⟨g, sRefl, r⟩
  | _ => exact ⟨g, sRefl, r⟩
theorem gh_pre : ∀ (gs : List GO) (g : Gh) (pre t : TSt), Rel K B g (pre ++ t) σ H → ∃ g', Same g.F g'.F ∧ Rel K B g' (pre ++ ghZ gs t) σ H
  | [], g, pre, t, r => ⟨g, sRefl, by cases t <;> exact r⟩
  | .kp :: gs, g, pre, [], r => ⟨g, sRefl, r⟩
  | .fz :: gs, g, pre, [], r => ⟨g, sRefl, r⟩
  | .kl :: gs, g, pre, [], r => ⟨g, sRefl, r⟩
  | .kp :: gs, g, pre, s :: t, r => by
    obtain ⟨g', h1, h2⟩ := gh_pre gs g (pre ++ [s]) t (by rw [List.append_assoc]; exact r)
    rw [List.append_assoc] at h2; exact ⟨g', h1, h2⟩
  | .kl :: gs, g, pre, s :: t, r => by
    have r1 := r.swap (u := killS s) kill_ok
    obtain ⟨g', h1, h2⟩ := gh_pre gs g (pre ++ [killS s]) t (by rw [List.append_assoc]; exact r1)
    rw [List.append_assoc] at h2; exact ⟨g', h1, h2⟩
  | .fz :: gs, g, pre, s :: t, r => by
    obtain ⟨g1, h0, r1⟩ := frz_one r
    obtain ⟨g', h1, h2⟩ := gh_pre gs g1 (pre ++ [frzS s]) t (by rw [List.append_assoc]; exact r1)
    rw [List.append_assoc] at h2; exact ⟨g', h0.trans h1, h2⟩
theorem Rel.gh {gs : List GO} {t : TSt} (r : Rel K B g t σ H) : ∃ g', Same g.F g'.F ∧ Rel K B g' (ghZ gs t) σ H := gh_pre gs g [] t r
end
def wGhN (gs : List GO) : WS := fun _ t D => D.nx (ghZ gs t)
def wRetG (ks : List Bool) (a : WE) : WS := fun W t D => a W t fun r t1 => D.rt r (klZ ks t1)
def wFr (a : WE) : WE := fun W t Q => a W t fun r t1 => fz r fun d => Q (.v d) t1
def wGhE (gs : List GO) (a : WE) : WE := fun W t Q => a W (ghZ gs t) Q
def wGX (ks : List Bool) (a : WE) : WE := fun W t Q => a (fun cls pay t1 => W cls pay (klZ ks t1)) t Q
def lenOk (ds : List D) : Prop := ds.length ≤ sizeLine
def wIG (i : WI) : WI := fun W t Q => i W t fun ds t1 => lenOk ds ∧ Q ds t1
section
variable {B : Base} {X : Cx} {e c : Expr} {w : WE} {st : Stmt} {sts : List Stmt} {u : WS} {pos : Pos} {gs : List GO} {ks : List Bool}
theorem S_ghE (h : PSsT B X sts u) : PSsT B X sts (wSeq u (wGhN gs)) := fun W tk => PSs.imp (h W tk) fun D σ H q => by
  obtain ⟨g, t, P, rl, m, k1, k2, k3, k4⟩ := q
  refine ⟨g, t, _, rl, m, fun t' m' g' σ' H' s' rl' => ?_, k2, k3, k4⟩
  obtain ⟨g2, s2, rl2⟩ := rl'.gh (gs := gs)
  exact k1 _ m' g2 σ' H' (s'.trans s2) rl2
theorem S_gh1 (h : PST B X st u) : PST B X st (wSeq (wGhN gs) u) := fun W tk => PS.imp (h W tk) fun D σ H q => by
  obtain ⟨g, t, P, rl, m, k1, k2, k3, k4⟩ := q
  obtain ⟨g2, s2, rl2⟩ := rl.gh (gs := gs)
  exact ⟨g2, _, P, rl2, m, fun t' m' g' σ' H' s' rl' => k1 t' m' g' σ' H' (s2.trans s') rl', fun r t' m' g' σ' v' H' s' rl' => k2 r t' m' g' σ' v' H' (s2.trans s') rl', fun t' m' g' σ' H' s' rl' => k3 t' m' g' σ' H' (s2.trans s') rl', fun t' m' g' σ' H' s' rl' => k4 t' m' g' σ' H' (s2.trans s') rl'⟩
theorem S_retG (h : PET B X e w) : PST B X (.Return (some e) pos) (wRetG ks w) := fun W tk => PS.imp (ps_ret (h W tk)) fun D σ H q => by
  obtain ⟨g, t, P, rl, m, _, k, _⟩ := q
  exact ⟨g, t, _, rl, m, fun r1 t1 m1 g1 v1 H1 s1 rl1 rr1 => k _ _ m1 g1 σ v1 H1 s1 rl1.kl rr1⟩
theorem T_fr (h : PET B X e w) : PET B X e (wFr w) := fun W tk => PE.imp (h W tk) fun σ H Q q => by
  obtain ⟨g, t, P, rl, m, k⟩ := q
  refine ⟨g, t, _, rl, m, fun r1 t1 m1 g1 v1 H1 s1 rl1 rr1 => ?_⟩
  unfold fz at m1
  split at m1
  · rename_i dx hx
    obtain ⟨F2, s2, rl2, rp⟩ := rr1.freeze rl1 hx
    exact k _ _ m1 ⟨F2, g1.ow⟩ v1 H1 (s1.trans s2) rl2 rp
  · exact m1.elim
theorem IT_G {tg iter : Expr} {wi : WI} (h : PIT B X tg iter wi) : PIT B X tg iter (wIG wi) := fun W tk => PI.imp (h W tk) fun σ H R q => by
  obtain ⟨g, t, P, rl, m, k⟩ := q
  exact ⟨g, t, _, rl, m, fun ds t1 m1 g1 H1 J s1 rl1 fo => k _ _ m1.2 g1 H1 J s1 rl1 fo⟩
end
def forX {σ ρ : Type} (step : σ → D → Option (SO σ ρ)) : List D → σ → Option (SO σ ρ)
  | [], s => some (.nx s)
  | d :: ds, s => (step s d).bind fun o => o.cs (fun s' => forX step ds s') (fun r => some (.rt r))
def foldX {σ : Type} (step : σ → D → Option σ) : List D → σ → Option σ
  | [], s => some s
  | d :: ds, s => (step s d).bind fun s' => foldX step ds s'
theorem forK_for {σ ρ : Type} (T : σ → TSt) (RT : ρ → Prop) (step : σ → D → Option (SO σ ρ)) {g : WG} {b : WS} {W : TX} {nx : TSt → Prop} {rt : R → TSt → Prop} {bk ct : TSt → Prop}
    (h : ∀ (s : σ) (d : D) (nxt : TSt → Prop), g d (T s) (fun t1 => b W t1 ⟨nxt, rt, nx, nxt⟩) = oP (step s d) fun o => o.cs (fun s' => nxt (T s')) RT) :
    ∀ (ds : List D) (s : σ), forK g b W ds (T s) ⟨nx, rt, bk, ct⟩ ⟨⟩ = oP (forX step ds s) fun o => o.cs (fun s' => nx (T s')) RT
  | [], s => rfl
  | d :: ds, s => by
    show g d (T s) (fun t1 => b W t1 ⟨fun t2 => forL g b W ds t2 ⟨nx, rt, bk, ct⟩, rt, nx, fun t2 => forL g b W ds t2 ⟨nx, rt, bk, ct⟩⟩) = _
    rw [h]
    unfold forX
    rw [oP_bind]
    congr 1
    funext o
    cases o with
    | nx s' => exact forK_for T RT step h ds s'
    | rt r => rfl
theorem forK_fold {σ : Type} (T : σ → TSt) (step : σ → D → Option σ) {g : WG} {b : WS} {W : TX} {nx : TSt → Prop} {rt : R → TSt → Prop} {bk ct : TSt → Prop}
    (h : ∀ (s : σ) (d : D) (nxt : TSt → Prop), g d (T s) (fun t1 => b W t1 ⟨nxt, rt, nx, nxt⟩) = oP (step s d) fun s' => nxt (T s')) :
    ∀ (ds : List D) (s : σ), forK g b W ds (T s) ⟨nx, rt, bk, ct⟩ ⟨⟩ = oP (foldX step ds s) fun s' => nx (T s')
  | [], s => rfl
  | d :: ds, s => by
    show g d (T s) (fun t1 => b W t1 ⟨fun t2 => forL g b W ds t2 ⟨nx, rt, bk, ct⟩, rt, nx, fun t2 => forL g b W ds t2 ⟨nx, rt, bk, ct⟩⟩) = _
    rw [h]
    unfold foldX
    rw [oP_bind]
    congr 1
    funext s'
    exact forK_fold T step h ds s'
def whN {σ ρ : Type} (step : σ → Option (WH σ ρ)) : Nat → σ → Option (SO σ ρ)
  | 0, _ => none
  | n + 1, s => (step s).bind fun o => o.cs (fun s' => whN step n s') (fun s' => some (.nx s')) (fun r => some (.rt r))
theorem whN_mono {σ ρ : Type} {step : σ → Option (WH σ ρ)} : ∀ {n m : Nat} {s : σ} {r : SO σ ρ}, whN step n s = some r → n ≤ m → whN step m s = some r
  | 0, _, _, _, h, _ => by cases h
  | n + 1, 0, _, _, _, hl => by omega
  | n + 1, m + 1, s, r, h, hl => by
    unfold whN at h ⊢
    cases e : step s with
    | none => rw [e] at h; cases h
    | some o =>
      rw [e] at h
      cases o with
      | go s' => exact whN_mono (n := n) h (by omega)
      | dn s' => exact h
      | rt q => exact h
noncomputable def whX {σ ρ : Type} (step : σ → Option (WH σ ρ)) (s : σ) : Option (SO σ ρ) := open Classical in
  if h : ∃ n r, whN step n s = some r then some h.choose_spec.choose else none
theorem whX_of {σ ρ : Type} {step : σ → Option (WH σ ρ)} {n : Nat} {s : σ} {r : SO σ ρ} (h : whN step n s = some r) : whX step s = some r := by
  unfold whX
  have hh : ∃ n r, whN step n s = some r := ⟨n, r, h⟩
  rw [dif_pos hh]
  have h2 := hh.choose_spec.choose_spec
  have a := whN_mono h (Nat.le_max_left n hh.choose)
  have b := whN_mono h2 (Nat.le_max_right n hh.choose)
  exact b.symm.trans a
theorem whX_get {σ ρ : Type} {step : σ → Option (WH σ ρ)} {s : σ} {r : SO σ ρ} (h : whX step s = some r) : ∃ n, whN step n s = some r := by
  unfold whX at h
  split at h
  · rename_i hh
    cases h
    exact ⟨_, hh.choose_spec.choose_spec⟩
  · cases h
/-- one turn -/
theorem whX_eq {σ ρ : Type} (step : σ → Option (WH σ ρ)) (s : σ) : whX step s = (step s).bind fun o => o.cs (fun s' => whX step s') (fun s' => some (.nx s')) (fun r => some (.rt r)) := by
  cases e : step s with
  | none =>
    cases h : whX step s with
    | none => rfl
    | some r =>
      obtain ⟨n, hn⟩ := whX_get h
      cases n with
      | zero => cases hn
      | succ n => unfold whN at hn; rw [e] at hn; cases hn
  | some o =>
    have go : ∀ n, whN step (n + 1) s = o.cs (fun s' => whN step n s') (fun s' => some (.nx s')) (fun r => some (.rt r)) := fun n => by
      rw [whN, e]; rfl
    cases o with
    | dn s' => exact whX_of (n := 1) (go 0)
    | rt r => exact whX_of (n := 1) (go 0)
    | go s' =>
      show _ = whX step s'
      cases h : whX step s' with
      | some r =>
        obtain ⟨n, hn⟩ := whX_get h
        exact whX_of (n := n + 1) ((go n).trans hn)
      | none =>
        cases h2 : whX step s with
        | none => rfl
        | some r =>
          obtain ⟨n, hn⟩ := whX_get h2
          cases n with
          | zero => cases hn
          | succ n => rw [go n] at hn; rw [whX_of (show whN step n s' = some r from hn)] at h; cases h
theorem whileK_X {σ ρ : Type} (T : σ → TSt) (RT : ρ → Prop) (step : σ → Option (WH σ ρ)) {c : WT} {b : WS} {W : TX} {nx : TSt → Prop} {rt : R → TSt → Prop} {bk ct : TSt → Prop}
    (h : ∀ (s : σ) (nxt : TSt → Prop), c W (T s) (fun k t1 => if k = true then b W t1 ⟨nxt, rt, nx, nxt⟩ else nx t1) = oP (step s) fun o => o.cs (fun s' => nxt (T s')) (fun s' => nx (T s')) RT) (s : σ) :
    whileK c b W (T s) ⟨nx, rt, bk, ct⟩ ⟨⟩ = oP (whX step s) fun o => o.cs (fun s' => nx (T s')) RT := by
  refine propext ⟨fun z => ?_, fun z => ?_⟩
  · obtain ⟨I, ⟨m0, i0⟩, turn⟩ := (show wWhile c b W (T s) ⟨nx, rt, bk, ct⟩ from z)
    have key : ∀ m s, I m (T s) → ∃ n r, whN step n s = some r ∧ r.cs (fun s' => nx (T s')) RT := by
      intro m
      induction m using Nat.strongRecOn with
      | _ m ih =>
        intro s hi
        have t := turn m (T s) hi
        have t2 := (h s (fun t2 => ∃ m', m' < m ∧ I m' t2)).mp t
        obtain ⟨o, e, k⟩ := oP_get t2
        cases o with
        | go s' =>
          obtain ⟨m', hm, hi'⟩ := (show ∃ m', m' < m ∧ I m' (T s') from k)
          obtain ⟨n, r, h1, h2⟩ := ih m' hm s' hi'
          exact ⟨n + 1, r, by rw [whN, e]; exact h1, h2⟩
        | dn s' => exact ⟨1, .nx s', by rw [whN, e]; rfl, k⟩
        | rt r => exact ⟨1, .rt r, by rw [whN, e]; rfl, k⟩
    obtain ⟨n, r, h1, h2⟩ := key m0 s i0
    rw [whX_of h1]
    exact h2
  · obtain ⟨r, e, k⟩ := oP_get z
    obtain ⟨n, hn⟩ := whX_get e
    refine (show wWhile c b W (T s) ⟨nx, rt, bk, ct⟩ from ⟨fun m t => ∃ s r, t = T s ∧ whN step m s = some r ∧ r.cs (fun s' => nx (T s')) RT, ⟨n, s, r, rfl, hn, k⟩, ?_⟩)
    rintro m _ ⟨s, r, rfl, hm, k⟩
    refine (h s _).mpr ?_
    cases m with
    | zero => cases hm
    | succ m =>
      rw [whN] at hm
      cases e : step s with
      | none => rw [e] at hm; cases hm
      | some o =>
        rw [e] at hm
        cases o with
        | go s' => exact ⟨m, by omega, s', r, rfl, hm, k⟩
        | dn s' => cases hm; exact k
        | rt q => cases hm; exact k
def mapG (f : D → Option D) : List D → Option (List D)
  | [] => some []
  | d :: ds => (f d).bind fun y => (mapG f ds).bind fun l => some (y :: l)
def fmapG (f : D → Option (Option D)) : List D → Option (List D)
  | [] => some []
  | d :: ds => (f d).bind fun y => (fmapG f ds).bind fun l => some (match y with | some z => z :: l | none => l)
def mapSG {σ : Type} (f : σ → D → Option (D × σ)) : List D → σ → Option (List D × σ)
  | [], s => some ([], s)
  | d :: ds, s => (f s d).bind fun p => (mapSG f ds p.2).bind fun q => some (p.1 :: q.1, q.2)
def fmapSG {σ : Type} (f : σ → D → Option (Option D × σ)) : List D → σ → Option (List D × σ)
  | [], s => some ([], s)
  | d :: ds, s => (f s d).bind fun p => (fmapSG f ds p.2).bind fun q => some (match p.1 with | some z => z :: q.1 | none => q.1, q.2)
def mapX (f : D → Option D) (ds : List D) : Option (List D) := if ds.length ≤ sizeLine then mapG f ds else none
def fmapX (f : D → Option (Option D)) (ds : List D) : Option (List D) := if ds.length ≤ sizeLine then fmapG f ds else none
def mapSX {σ : Type} (f : σ → D → Option (D × σ)) (ds : List D) (s : σ) : Option (List D × σ) := if ds.length ≤ sizeLine then mapSG f ds s else none
def fmapSX {σ : Type} (f : σ → D → Option (Option D × σ)) (ds : List D) (s : σ) : Option (List D × σ) := if ds.length ≤ sizeLine then fmapSG f ds s else none
theorem lcK_fmapS {σ : Type} (T : σ → TSt) (f : σ → D → Option (Option D × σ)) {g : WG} {c : WT} {e : WE} {vs : List Nat} {Q : List D → TSt → Prop}
    (h : ∀ (s : σ) (d : D) (Y : D → TSt → Prop) (N : TSt → Prop), g d (T s) (fun t1 => c noX t1 fun b t2 => if b = true then e noX t2 fun r t3 => fz r fun y => Y y (wipeT t3 vs) else N (wipeT t2 vs)) =
      oP (f s d) fun p => match p.1 with | some y => Y y (T p.2) | none => N (T p.2)) :
    ∀ (ds acc : List D) (s : σ), acc.length + ds.length ≤ sizeLine → lcL g c e vs ds acc (T s) Q = oP (fmapSG f ds s) fun p => Q (acc ++ p.1) (T p.2)
  | [], acc, s, _ => by
    show Q acc (T s) = Q (acc ++ []) (T s)
    rw [List.append_nil]
  | d :: ds, acc, s, hl => by
    rw [List.length_cons] at hl
    refine (h s d (fun y t3 => acc.length < sizeLine ∧ lcL g c e vs ds (acc ++ [y]) t3 Q) (fun t2 => lcL g c e vs ds acc t2 Q)).trans ?_
    rw [fmapSG, oP_bind]
    congr 1
    funext p
    rw [oP_bind]
    cases hp : p.1 with
    | none =>
      show lcL g c e vs ds acc (T p.2) Q = _
      rw [lcK_fmapS T f h ds acc p.2 (by omega)]
      rfl
    | some y =>
      show (acc.length < sizeLine ∧ lcL g c e vs ds (acc ++ [y]) (T p.2) Q) = _
      rw [lcK_fmapS T f h ds (acc ++ [y]) p.2 (by rw [List.length_append]; simp; omega)]
      refine propext ⟨fun z => ?_, fun z => ⟨by omega, ?_⟩⟩
      · obtain ⟨q, e1, e2⟩ := oP_get z.2
        rw [e1]
        rw [List.append_assoc] at e2
        exact e2
      · obtain ⟨q, e1, e2⟩ := oP_get z
        rw [e1]
        show Q (acc ++ [y] ++ q.1) (T q.2)
        rw [List.append_assoc]
        exact e2
theorem mapSG_f {σ : Type} (f : σ → D → Option (D × σ)) : ∀ (ds : List D) (s : σ), fmapSG (fun s d => (f s d).bind fun p => some (some p.1, p.2)) ds s = mapSG f ds s
  | [], s => rfl
  | d :: ds, s => by
    rw [fmapSG, mapSG]
    cases f s d with
    | none => rfl
    | some p =>
      show (fmapSG _ ds p.2).bind _ = (mapSG f ds p.2).bind _
      rw [mapSG_f f ds p.2]
theorem fmapG_f (f : D → Option (Option D)) : ∀ (ds : List D), fmapSG (fun (s : Unit) d => (f d).bind fun p => some (p, s)) ds () = (fmapG f ds).bind fun l => some (l, ())
  | [] => rfl
  | d :: ds => by
    rw [fmapSG, fmapG]
    cases f d with
    | none => rfl
    | some p =>
      show (fmapSG _ ds ()).bind _ = ((fmapG f ds).bind _).bind _
      rw [fmapG_f f ds]
      cases fmapG f ds <;> rfl
theorem mapG_f (f : D → Option D) : ∀ (ds : List D), fmapG (fun d => (f d).bind fun p => some (some p)) ds = mapG f ds
  | [] => rfl
  | d :: ds => by
    rw [fmapG, mapG, mapG_f f ds]
    cases f d <;> rfl
theorem lc_fmapS {σ : Type} (T : σ → TSt) (f : σ → D → Option (Option D × σ)) {g : WG} {c : WT} {e : WE} {vs : List Nat} {Q : List D → TSt → Prop}
    (h : ∀ (s : σ) (d : D) (Y : D → TSt → Prop) (N : TSt → Prop), g d (T s) (fun t1 => c noX t1 fun b t2 => if b = true then e noX t2 fun r t3 => fz r fun y => Y y (wipeT t3 vs) else N (wipeT t2 vs)) =
      oP (f s d) fun p => match p.1 with | some y => Y y (T p.2) | none => N (T p.2)) (ds : List D) (s : σ) :
    (lenOk ds ∧ lcK g c e vs ds [] (T s) Q ⟨⟩) = oP (fmapSX f ds s) fun p => Q p.1 (T p.2) := by
  unfold fmapSX
  rw [oP_ite]
  split
  · rename_i hl
    refine (propext ⟨fun z => z.2, fun z => ⟨hl, z⟩⟩ : _ = lcK g c e vs ds [] (T s) Q ⟨⟩).trans ?_
    exact lcK_fmapS T f h ds [] s (by simpa using hl)
  · rename_i hl
    exact propext ⟨fun z => absurd z.1 hl, fun z => z.elim⟩
theorem lc_mapS {σ : Type} (T : σ → TSt) (f : σ → D → Option (D × σ)) {g : WG} {e : WE} {vs : List Nat} {Q : List D → TSt → Prop}
    (h : ∀ (s : σ) (d : D) (Y : D → TSt → Prop), g d (T s) (fun t1 => e noX t1 fun r t3 => fz r fun y => Y y (wipeT t3 vs)) = oP (f s d) fun p => Y p.1 (T p.2)) (ds : List D) (s : σ) :
    (lenOk ds ∧ lcK g wYes e vs ds [] (T s) Q ⟨⟩) = oP (mapSX f ds s) fun p => Q p.1 (T p.2) := by
  refine (lc_fmapS T (fun s d => (f s d).bind fun p => some (some p.1, p.2)) (c := wYes) (fun s d Y N => ?_) ds s).trans ?_
  · refine (h s d Y).trans ?_
    rw [oP_bind]; rfl
  · unfold fmapSX mapSX
    rw [mapSG_f]
theorem lc_fmap (t : TSt) (f : D → Option (Option D)) {g : WG} {c : WT} {e : WE} {vs : List Nat} {Q : List D → TSt → Prop}
    (h : ∀ (d : D) (Y : D → TSt → Prop) (N : TSt → Prop), g d t (fun t1 => c noX t1 fun b t2 => if b = true then e noX t2 fun r t3 => fz r fun y => Y y (wipeT t3 vs) else N (wipeT t2 vs)) =
      oP (f d) fun p => match p with | some y => Y y t | none => N t) (ds : List D) :
    (lenOk ds ∧ lcK g c e vs ds [] t Q ⟨⟩) = oP (fmapX f ds) fun l => Q l t := by
  refine (lc_fmapS (fun _ : Unit => t) (fun s d => (f d).bind fun p => some (p, s)) (fun s d Y N => ?_) ds ()).trans ?_
  · refine (h d Y N).trans ?_
    rw [oP_bind]; rfl
  · unfold fmapSX fmapX
    rw [fmapG_f]
    split
    · rw [oP_bind]; rfl
    · rfl
theorem lc_map (t : TSt) (f : D → Option D) {g : WG} {e : WE} {vs : List Nat} {Q : List D → TSt → Prop}
    (h : ∀ (d : D) (Y : D → TSt → Prop), g d t (fun t1 => e noX t1 fun r t3 => fz r fun y => Y y (wipeT t3 vs)) = oP (f d) fun y => Y y t) (ds : List D) :
    (lenOk ds ∧ lcK g wYes e vs ds [] t Q ⟨⟩) = oP (mapX f ds) fun l => Q l t := by
  refine (lc_fmap t (fun d => (f d).bind fun p => some (some p)) (c := wYes) (fun d Y N => ?_) ds).trans ?_
  · refine (h d Y).trans ?_
    rw [oP_bind]; rfl
  · unfold fmapX mapX
    rw [mapG_f]
end TL
namespace TL
open PySem PySem.Spec PyProof.Rows L2
instance (i j : Int) : Decidable (mulOk i j) := by unfold mulOk; infer_instance
instance (i : Int) : Decidable (small i) := by unfold small; infer_instance
instance (i j : Int) : Decidable (CPow i j) := by unfold CPow; infer_instance
instance (i j : Int) : Decidable (CMul i j) := by unfold CMul; infer_instance
instance (i j : Int) : Decidable (RgOk i j) := by unfold RgOk; infer_instance
instance (x y : D) : Decidable (eqOk x y) := by unfold eqOk; infer_instance
def asI : D → Option Int
  | .int i => some i
  | _ => none
def asB : D → Option Bool
  | .bl b => some b
  | _ => none
def asL : D → Option (List D)
  | .lst l => some l
  | _ => none
theorem asI_int (i : Int) : asI (.int i) = some i := rfl
theorem asB_bl (b : Bool) : asB (.bl b) = some b := rfl
theorem asL_lst (l : List D) : asL (.lst l) = some l := rfl
theorem rint_v (d : D) : rint? (.v d) = asI d := by cases d <;> rfl
theorem rbl_v (d : D) : rbl? (.v d) = asB d := by cases d <;> rfl
theorem rB_v (k : Bool → Prop) (d : D) : rB k (.v d) = oP (asB d) k := by cases d <;> rfl
theorem oneL_X (d : D) : oneL? [d] = asL d := by cases d <;> rfl
theorem fzv (d : D) (k : D → Prop) : fz (.v d) k = k d := rfl
theorem fzl (l : List D) (k : D → Prop) : fz (.own (.lst l)) k = k (.lst l) := rfl
theorem fzd (kk : KK) (l : List (D × D)) (k : D → Prop) : fz (.own (.dct kk l)) k = k (.dct kk l) := rfl
def addX : D → D → Option D
  | .int i, .int j => some (.int (i + j))
  | .tup a, .tup b => if a.length + b.length ≤ sizeLine then some (.tup (a ++ b)) else none
  | .lst a, .lst b => if a.length + b.length ≤ sizeLine then some (.lst (a ++ b)) else none
  | .str a, .str b => if a.length + b.length ≤ sizeLine then some (.str (a ++ b)) else none
  | _, _ => none
theorem oP_if {α : Type} {c : Prop} [Decidable c] (x : α) (k : α → Prop) : oP (if c then some x else none) k = (c ∧ k x) := by
  split
  · rename_i h; exact propext ⟨fun z => ⟨h, z⟩, fun z => z.2⟩
  · rename_i h; exact propext ⟨fun z => z.elim, fun z => absurd z.1 h⟩
theorem dAdd_X (x y : D) (k : D → Prop) : dAdd x y (fun z => fz z k) = oP (addX x y) k := by
  cases x <;> cases y <;> first | rfl | (refine Eq.symm ?_; apply oP_if)
def addLX : D → D → Option (List D)
  | .lst a, .lst b => if a.length + b.length ≤ sizeLine then some (a ++ b) else none
  | _, _ => none
/-- two lists put together, a new one -/
def dAddL : Op2 := fun x y Q => match x, y with
  | .lst a, .lst b => a.length + b.length ≤ sizeLine ∧ Q (.own (.lst (a ++ b)))
  | _, _ => False
theorem dAddL_X (x y : D) (Q : R → Prop) : dAddL x y Q = oP (addLX x y) fun l => Q (.own (.lst l)) := by
  cases x <;> cases y <;> first | rfl | (refine Eq.symm ?_; apply oP_if)
def subX : D → D → Option D
  | .int i, .int j => some (.int (i - j))
  | _, _ => none
theorem dSub_X (x y : D) (Q : R → Prop) : dSub x y Q = oP (subX x y) fun d => Q (.v d) := by cases x <;> cases y <;> rfl
def mulX : D → D → Option D
  | .int i, .int j => if mulOk i j then some (.int (i * j)) else none
  | .lst a, .int k => if small k then if a.length * k.toNat ≤ sizeLine then some (.lst (List.replicate k.toNat a).flatten) else none else none
  | _, _ => none
theorem dMul_X (x y : D) (k : D → Prop) : dMul x y (fun z => fz z k) = oP (mulX x y) k := by
  cases x <;> cases y <;> first | rfl | (refine Eq.symm ?_; apply oP_if; done) | skip
  rename_i a j
  show (small j ∧ a.length * j.toNat ≤ sizeLine ∧ k _) = oP (if small j then (if a.length * j.toNat ≤ sizeLine then some _ else none) else none) k
  rw [oP_ite]
  split
  · rename_i h; rw [oP_if]; exact propext ⟨fun z => z.2, fun z => ⟨h, z⟩⟩
  · rename_i h; exact propext ⟨fun z => absurd z.1 h, fun z => z.elim⟩
def divX : D → D → Option D
  | .int i, .int j => if 0 < j ∧ j.natAbs < 2 ^ 250 then some (.int (i / j)) else none
  | _, _ => none
theorem dDiv_X (x y : D) (Q : R → Prop) : dDiv x y Q = oP (divX x y) fun d => Q (.v d) := by cases x <;> cases y <;> first | rfl | (refine Eq.symm ?_; apply oP_if)
def modX : D → D → Option D
  | .int i, .int j => if 0 < j then some (.int (i % j)) else none
  | _, _ => none
theorem dMod_X (x y : D) (Q : R → Prop) : dMod x y Q = oP (modX x y) fun d => Q (.v d) := by cases x <;> cases y <;> first | rfl | (refine Eq.symm ?_; apply oP_if)
def powX : D → D → Option D
  | .int i, .int j => if CPow i j then some (.int (i ^ j.toNat)) else none
  | _, _ => none
theorem dPow_X (x y : D) (Q : R → Prop) : dPow x y Q = oP (powX x y) fun d => Q (.v d) := by cases x <;> cases y <;> first | rfl | (refine Eq.symm ?_; apply oP_if)
def shlX : D → D → Option D
  | .int i, .int j => if CPow i j then some (.int (i * 2 ^ j.toNat)) else none
  | _, _ => none
theorem dShl_X (x y : D) (Q : R → Prop) : dShl x y Q = oP (shlX x y) fun d => Q (.v d) := by cases x <;> cases y <;> first | rfl | (refine Eq.symm ?_; apply oP_if)
def shrX : D → D → Option D
  | .int i, .int j => if 0 ≤ j then some (.int (i / 2 ^ j.toNat)) else none
  | _, _ => none
theorem dShr_X (x y : D) (Q : R → Prop) : dShr x y Q = oP (shrX x y) fun d => Q (.v d) := by cases x <;> cases y <;> first | rfl | (refine Eq.symm ?_; apply oP_if)
def andX : D → D → Option D
  | .int i, .int j => some (.int (Builtin.bitAnd i j))
  | _, _ => none
theorem dAnd_X (x y : D) (Q : R → Prop) : dAnd x y Q = oP (andX x y) fun d => Q (.v d) := by cases x <;> cases y <;> rfl
def iaddX : D → D → Option D
  | .int i, .int j => some (.int (i + j))
  | _, _ => none
theorem iAdd_X (x y : D) (Q : R → Prop) : iAdd x y Q = oP (iaddX x y) fun d => Q (.v d) := by cases x <;> cases y <;> rfl
def imulX : D → D → Option D
  | .int i, .int j => if CMul i j then some (.int (i * j)) else none
  | _, _ => none
theorem iMul_X (x y : D) (Q : R → Prop) : iMul x y Q = oP (imulX x y) fun d => Q (.v d) := by cases x <;> cases y <;> first | rfl | (refine Eq.symm ?_; apply oP_if)
def eqX (x y : D) : Option Bool := if eqOk x y then some (pyEq x y) else none
theorem dEq_X (x y : D) (Q : R → Prop) : dEq x y Q = oP (eqX x y) fun b => Q (.v (.bl b)) := by refine Eq.symm ?_; apply oP_if
def neX (x y : D) : Option Bool := if eqOk x y then some (!pyEq x y) else none
theorem dNe_X (x y : D) (Q : R → Prop) : dNe x y Q = oP (neX x y) fun b => Q (.v (.bl b)) := by refine Eq.symm ?_; apply oP_if
def ltX : D → D → Option Bool
  | .int i, .int j => some (decide (i < j))
  | .str a, .str b => some (decide (a.cps.toList < b.cps.toList))
  | _, _ => none
theorem dLt_X (x y : D) (Q : R → Prop) : dLt x y Q = oP (ltX x y) fun b => Q (.v (.bl b)) := by cases x <;> cases y <;> rfl
def leX : D → D → Option Bool
  | .int i, .int j => some (decide (i ≤ j))
  | _, _ => none
theorem dLe_X (x y : D) (Q : R → Prop) : dLe x y Q = oP (leX x y) fun b => Q (.v (.bl b)) := by cases x <;> cases y <;> rfl
def gtX : D → D → Option Bool
  | .int i, .int j => some (decide (j < i))
  | _, _ => none
theorem dGt_X (x y : D) (Q : R → Prop) : dGt x y Q = oP (gtX x y) fun b => Q (.v (.bl b)) := by cases x <;> cases y <;> rfl
def geX : D → D → Option Bool
  | .int i, .int j => some (decide (j ≤ i))
  | _, _ => none
theorem dGe_X (x y : D) (Q : R → Prop) : dGe x y Q = oP (geX x y) fun b => Q (.v (.bl b)) := by cases x <;> cases y <;> rfl
def inX (x y : D) : Option Bool := match y with
  | .dct kk l => if D.isKey kk x = true then some (lookD l x).isSome else none
  | .tup l => if x.pl = true ∧ D.plL l = true ∧ x.py.depth ≤ 64 then some (memD x l) else none
  | .lst l => if x.pl = true ∧ D.plL l = true ∧ x.py.depth ≤ 64 then some (memD x l) else none
  | .str y => match x with
    | .str x => some (!(Builtin.Str.occurrences y x 0 y.length 1).isEmpty)
    | _ => none
  | _ => none
theorem and3 {a b c p : Prop} : (a ∧ b ∧ c ∧ p) = ((a ∧ b ∧ c) ∧ p) := propext ⟨fun ⟨x, y, z, w⟩ => ⟨⟨x, y, z⟩, w⟩, fun ⟨⟨x, y, z⟩, w⟩ => ⟨x, y, z, w⟩⟩
theorem dIn_X (x y : D) (Q : R → Prop) : dInA x y Q = oP (inX x y) fun b => Q (.v (.bl b)) := by
  cases y with
  | dct kk l => (refine Eq.symm ?_; apply oP_if)
  | tup l =>
    have e : dInA x (.tup l) Q = (x.pl = true ∧ D.plL l = true ∧ x.py.depth ≤ 64 ∧ Q (.v (.bl (memD x l)))) := by cases x <;> rfl
    rw [e, and3]; symm; apply oP_if
  | lst l =>
    have e : dInA x (.lst l) Q = (x.pl = true ∧ D.plL l = true ∧ x.py.depth ≤ 64 ∧ Q (.v (.bl (memD x l)))) := by cases x <;> rfl
    rw [e, and3]; symm; apply oP_if
  | str y => cases x <;> rfl
  | _ => cases x <;> rfl
def notInX (x y : D) : Option Bool := match y with
  | .dct kk l => if D.isKey kk x = true then some (!(lookD l x).isSome) else none
  | .tup l => if x.pl = true ∧ D.plL l = true ∧ x.py.depth ≤ 64 then some (!memD x l) else none
  | .lst l => if x.pl = true ∧ D.plL l = true ∧ x.py.depth ≤ 64 then some (!memD x l) else none
  | _ => none
theorem dNotIn_X (x y : D) (Q : R → Prop) : dNotInA x y Q = oP (notInX x y) fun b => Q (.v (.bl b)) := by
  cases y with
  | dct kk l => (refine Eq.symm ?_; apply oP_if)
  | tup l =>
    have e : dNotInA x (.tup l) Q = (x.pl = true ∧ D.plL l = true ∧ x.py.depth ≤ 64 ∧ Q (.v (.bl (!memD x l)))) := by cases x <;> rfl
    rw [e, and3]; symm; apply oP_if
  | lst l =>
    have e : dNotInA x (.lst l) Q = (x.pl = true ∧ D.plL l = true ∧ x.py.depth ≤ 64 ∧ Q (.v (.bl (!memD x l)))) := by cases x <;> rfl
    rw [e, and3]; symm; apply oP_if
  | _ => cases x <;> rfl
theorem dIs_X (x : D) (Q : R → Prop) : dIs x .non Q = Q (.v (.bl x.isNon)) := by cases x <;> rfl
theorem dIsNot_X (x : D) (Q : R → Prop) : dIsNot x .non Q = Q (.v (.bl (!x.isNon))) := by cases x <;> rfl
def truX : D → Option Bool
  | .non => some false
  | .bl b => some b
  | .int i => some (i != 0)
  | .str x => if x.length ≤ sizeLine then some ((x.length : Int) != 0) else none
  | .tup l => some (!l.isEmpty)
  | .lst l => some (!l.isEmpty)
  | .scr l => some (!l.isEmpty)
  | _ => none
theorem truD_X (d : D) (k : Bool → Prop) : truD k d = oP (truX d) k := by cases d <;> first | rfl | (refine Eq.symm ?_; apply oP_if)
def itX : D → Option (List D)
  | .tup l => some l
  | .lst l => some l
  | .scr l => some l
  | .xtp l => some l
  | .str x => some (signs x)
  | _ => none
theorem itD_X (d : D) (k : List D → Prop) : itD k d = oP (itX d) k := by cases d <;> rfl
def getX : D → D → Option D
  | .tup l, .int i => L2.atI l i
  | .lst l, .int i => L2.atI l i
  | .scr l, .int i => L2.atI l i
  | .str x, .int i => if x.length ≤ sizeLine then (L2.atI x.cps.toList i).map fun c => .str ⟨#[c]⟩ else none
  | .dct kk l, k => if D.isKey kk k = true then lookD l k else none
  | _, _ => none
theorem dGet_X (x y : D) (Q : R → Prop) : dGet x y Q = oP (getX x y) fun d => Q (.v d) := by
  cases x with
  | dct kk l =>
    rw [dGet_dct, withO_oP]
    show _ = oP (if D.isKey kk y = true then lookD l y else none) _
    rw [oP_ite]
    split
    · rename_i h; exact propext ⟨fun z => z.2, fun z => ⟨h, z⟩⟩
    · rename_i h; exact propext ⟨fun z => absurd z.1 h, fun z => z.elim⟩
  | str x =>
    cases y with
    | int i =>
      rw [dGet_str, withO_oP]
      show _ = oP (if x.length ≤ sizeLine then (L2.atI x.cps.toList i).map _ else none) _
      rw [oP_ite]
      split
      · rename_i h
        refine propext ⟨fun z => ?_, fun z => ⟨h, ?_⟩⟩
        · have := z.2; cases q : L2.atI x.cps.toList i <;> rw [q] at this <;> exact this
        · cases q : L2.atI x.cps.toList i <;> rw [q] at z <;> exact z
      · rename_i h; exact propext ⟨fun z => absurd z.1 h, fun z => z.elim⟩
    | _ => rfl
  | tup l => cases y with
    | int i => show (match L2.atI l i with | some d => Q (.v d) | none => False) = oP (L2.atI l i) _; cases L2.atI l i <;> rfl
    | _ => rfl
  | lst l => cases y with
    | int i => show (match L2.atI l i with | some d => Q (.v d) | none => False) = oP (L2.atI l i) _; cases L2.atI l i <;> rfl
    | _ => rfl
  | scr l => cases y with
    | int i => show (match L2.atI l i with | some d => Q (.v d) | none => False) = oP (L2.atI l i) _; cases L2.atI l i <;> rfl
    | _ => rfl
  | _ => cases y <;> rfl
def slX (d : D) (lo hi : Option Int) : Option D := match d with
  | .tup l => some (.tup (cutD l lo hi))
  | .lst l => some (.lst (cutD l lo hi))
  | .scr l => some (.lst (cutD l lo hi))
  | .str x => if x.length ≤ sizeLine then some (.str (cutS x lo hi)) else none
  | _ => none
theorem dSl_X (d : D) (lo hi : Option Int) (k : D → Prop) : dSl d lo hi (fun z => fz z k) = oP (slX d lo hi) k := by cases d <;> first | rfl | (refine Eq.symm ?_; apply oP_if)
def lenX : D → Option D
  | .tup l => some (.int l.length)
  | .lst l => some (.int l.length)
  | .scr l => some (.int l.length)
  | .xtp l => some (.int l.length)
  | .str x => if x.length ≤ sizeLine then some (.int x.length) else none
  | .dct _ l => some (.int l.length)
  | _ => none
theorem nLen_X (d : D) (Q : R → Prop) : nLen [d] Q = oP (lenX d) fun d => Q (.v d) := by
  cases d with
  | dct kk l => cases kk <;> rfl
  | str x => (refine Eq.symm ?_; apply oP_if)
  | _ => rfl
def intX : D → Option D
  | .int i => some (.int i)
  | .bl b => some (.int (if b then 1 else 0))
  | _ => none
theorem nInt_X (d : D) (Q : R → Prop) : nInt [d] Q = oP (intX d) fun d => Q (.v d) := by cases d <;> rfl
def absX : D → Option D
  | .int i => some (.int (if i < 0 then -i else i))
  | _ => none
theorem nAbs_X (d : D) (Q : R → Prop) : nAbs [d] Q = oP (absX d) fun d => Q (.v d) := by cases d <;> rfl
def max2X : D → D → Option D
  | .int i, .int j => some (.int (if j > i then j else i))
  | _, _ => none
theorem nMax2_X (x y : D) (Q : R → Prop) : nMax2 [x, y] Q = oP (max2X x y) fun d => Q (.v d) := by cases x <;> cases y <;> rfl
def min2X : D → D → Option D
  | .int i, .int j => some (.int (if j < i then j else i))
  | _, _ => none
theorem nMin2_X (x y : D) (Q : R → Prop) : nMin2 [x, y] Q = oP (min2X x y) fun d => Q (.v d) := by cases x <;> cases y <;> rfl
def sumX : D → Option D
  | .lst l => (D.ints l).map fun ns => .int ns.sum
  | _ => none
theorem oP_map {α β : Type} (o : Option α) (f : α → β) (k : β → Prop) : oP (o.map f) k = oP o fun a => k (f a) := by cases o <;> rfl
theorem onInts_oP (l : List D) (k : List Int → Prop) : onInts l k = oP (D.ints l) k := by unfold onInts; cases D.ints l <;> rfl
theorem onBls_oP (l : List D) (k : List Bool → Prop) : onBls l k = oP (D.bls l) k := by unfold onBls; cases D.bls l <;> rfl
theorem nSum_X (d : D) (Q : R → Prop) : nSum [d] Q = oP (sumX d) fun d => Q (.v d) := by
  cases d with
  | lst l => show onInts l _ = oP ((D.ints l).map _) _; rw [onInts_oP, oP_map]
  | _ => rfl
def allX : D → Option Bool
  | .lst l => (D.bls l).map fun bs => bs.all id
  | _ => none
theorem nAll_X (d : D) (Q : R → Prop) : nAll [d] Q = oP (allX d) fun b => Q (.v (.bl b)) := by
  cases d with
  | lst l => show onBls l _ = oP ((D.bls l).map _) _; rw [onBls_oP, oP_map]
  | _ => rfl
def anyX : D → Option Bool
  | .lst l => (D.bls l).map fun bs => bs.any id
  | _ => none
theorem nAny_X (d : D) (Q : R → Prop) : nAny [d] Q = oP (anyX d) fun b => Q (.v (.bl b)) := by
  cases d with
  | lst l => show onBls l _ = oP ((D.bls l).map _) _; rw [onBls_oP, oP_map]
  | _ => rfl
def tupleX : D → Option D
  | .lst l => some (.tup l)
  | .tup l => some (.tup l)
  | _ => none
theorem nTuple_X (d : D) (Q : R → Prop) : nTuple [d] Q = oP (tupleX d) fun d => Q (.v d) := by cases d <;> rfl
def listX : D → Option (List D)
  | .lst l => some l
  | .tup l => some l
  | .scr l => some l
  | _ => none
theorem nList_X (d : D) (Q : R → Prop) : nList [d] Q = oP (listX d) fun l => Q (.own (.lst l)) := by cases d <;> rfl
theorem nIsi_X (d : D) (n : String) (Q : R → Prop) : nIsi [d, .ty n] Q = oP (isiD d n) fun b => Q (.v (.bl b)) := by rw [nIsi_ap, withO_oP]
def appX (l : List D) (d : D) : Option (List D) := if l.length < sizeLine then some (l ++ [d]) else none
theorem appX_P (l : List D) (d : D) (k : List D → Prop) : oP (appX l d) k = (l.length < sizeLine ∧ k (l ++ [d])) := by apply oP_if
def extX (l m : List D) : Option (List D) := if l.length + m.length ≤ sizeLine then some (l ++ m) else none
theorem extX_P (l m : List D) (k : List D → Prop) : oP (extX l m) k = (l.length + m.length ≤ sizeLine ∧ k (l ++ m)) := by apply oP_if
def setX (l : List D) (key d : D) : Option (List D) := match key with
  | .int n => (ixN l.length n).map fun j => l.set j d
  | _ => none
theorem putC'_X (t : TSt) (i : Nat) (key d : D) (k : TSt → Prop) (l : List D) : putC' t i key d k (.lst l) = oP (setX l key d) fun l' => k (setCell t i (.lst l')) := by
  cases key with
  | int n => show withO _ _ = oP (Option.map _ _) _; rw [withO_oP, oP_map]
  | _ => rfl
def putX (kk : KK) (l : List (D × D)) (key d : D) : Option (List (D × D)) := if D.isKey kk key = true ∧ l.length < sizeLine then some (putD l key d) else none
theorem putX_P (kk : KK) (l : List (D × D)) (key d : D) (k : List (D × D) → Prop) : oP (putX kk l key d) k = (D.isKey kk key = true ∧ l.length < sizeLine ∧ k (putD l key d)) := by refine Eq.trans (b := ((D.isKey kk key = true ∧ l.length < sizeLine) ∧ k (putD l key d))) ?_ (propext and_assoc); apply oP_if
theorem getC'_L (key : D) (k : D → Prop) (l : List D) : getC' key k (.lst l) = oP (getX (.lst l) key) k := by
  cases key with
  | int n => exact withO_oP _ _ ⟨⟩
  | _ => rfl
theorem getC'_D (key : D) (k : D → Prop) (kk : KK) (l : List (D × D)) : getC' key k (.dct kk l) = oP (getX (.dct kk l) key) k := by
  rw [getC'_dct, withO_oP]
  show _ = oP (if D.isKey kk key = true then lookD l key else none) k
  rw [oP_ite]
  split
  · rename_i h; exact propext ⟨fun z => z.2, fun z => ⟨h, z⟩⟩
  · rename_i h; exact propext ⟨fun z => absurd z.1 h, fun z => z.elim⟩
def rg1X (x : D) : Option (List D) := (asI x).bind fun j => if small j then some (rangeD 0 1 j.toNat) else none
def rg2X (x y : D) : Option (List D) := (asI x).bind fun i => (asI y).bind fun j => if small i ∧ small j then some (rangeD i 1 (j - i).toNat) else none
theorem wR1_X (a : WA) (W : TX) (t : TSt) (Q : List D → TSt → Prop) : wR1 a W t Q = a W t fun ds t1 => withO (one? ds) fun x => oP (rg1X x) fun l => Q l t1 := by
  rw [wR1_ap]
  congr 1
  funext ds t1
  match ds with
  | [] => rfl
  | [x] =>
    cases x <;> try rfl
    (refine Eq.symm ?_; apply oP_if)
  | x :: y :: r => cases x <;> rfl
theorem wR2_X (a : WA) (W : TX) (t : TSt) (Q : List D → TSt → Prop) : wR2 a W t Q = a W t fun ds t1 => withO (two? ds) fun p => oP (rg2X p.1 p.2) fun l => Q l t1 := by
  rw [wR2_ap]
  congr 1
  funext ds t1
  match ds with
  | [] => rfl
  | [x] => cases x <;> rfl
  | [x, y] =>
    cases x <;> cases y <;> try rfl
    rename_i i j
    show (small i ∧ small j ∧ Q _ t1) = oP (if small i ∧ small j then some _ else none) _
    rw [oP_if]
    exact propext and_assoc.symm
  | x :: y :: z :: r => cases x <;> cases y <;> rfl
/-- a step, down or up -/
instance (i j c : Int) (n : Nat) : Decidable (RgC i j c n) := by unfold RgC; infer_instance
def rg3X (x y z : D) : Option (List D) := (asI x).bind fun i => (asI y).bind fun j => (asI z).bind fun c =>
  if RgC i j c (Builtin.Range.rangeSize i j c).toNat then some (rangeD i c (Builtin.Range.rangeSize i j c).toNat) else none
theorem wR3_X (a : WA) (W : TX) (t : TSt) (Q : List D → TSt → Prop) : wR3 a W t Q = a W t fun ds t1 => withO (three? ds) fun p => oP (rg3X p.1 p.2.1 p.2.2) fun l => Q l t1 := by
  rw [wR3_ap]
  congr 1
  funext ds t1
  match ds with
  | [] => rfl
  | [x] => cases x <;> rfl
  | [x, y] =>
    cases x <;> try rfl
    cases y <;> rfl
  | [x, y, z] =>
    cases x <;> try rfl
    cases y <;> try rfl
    cases z <;> try rfl
    rename_i i j c
    show (∃ n, RgC i j c n ∧ Q (rangeD i c n) t1) = oP (if RgC i j c (Builtin.Range.rangeSize i j c).toNat then some _ else none) _
    rw [oP_if]
    refine propext ⟨fun ⟨n, h, q⟩ => ?_, fun h => ⟨_, h⟩⟩
    have e : (Builtin.Range.rangeSize i j c).toNat = n := by have := h.2.2.2; omega
    rw [e]; exact ⟨h, q⟩
  | x :: y :: z :: u :: r => cases x <;> cases y <;> cases z <;> rfl
end TL
namespace TL
open PySem PySem.Spec PyProof.Rows L2
theorem wGhN_ap (gs : List GO) (W : TX) (t : TSt) (nx : TSt → Prop) (rt : R → TSt → Prop) (bk ct : TSt → Prop) : wGhN gs W t ⟨nx, rt, bk, ct⟩ = nx (ghZ gs t) := rfl
theorem wRetG_ap (ks : List Bool) (a : WE) (W : TX) (t : TSt) (nx : TSt → Prop) (rt : R → TSt → Prop) (bk ct : TSt → Prop) : wRetG ks a W t ⟨nx, rt, bk, ct⟩ = a W t fun r t1 => rt r (klZ ks t1) := rfl
theorem wFr_ap (a : WE) (W : TX) (t : TSt) (Q : R → TSt → Prop) : wFr a W t Q = a W t fun r t1 => fz r fun d => Q (.v d) t1 := rfl
theorem wGhE_ap (gs : List GO) (a : WE) (W : TX) (t : TSt) (Q : R → TSt → Prop) : wGhE gs a W t Q = a W (ghZ gs t) Q := rfl
theorem wGX_ap (ks : List Bool) (a : WE) (W : TX) (t : TSt) (Q : R → TSt → Prop) : wGX ks a W t Q = a (fun cls pay t1 => W cls pay (klZ ks t1)) t Q := rfl
theorem wIG_ap (i : WI) (W : TX) (t : TSt) (Q : List D → TSt → Prop) : wIG i W t Q = i W t fun ds t1 => lenOk ds ∧ Q ds t1 := rfl
theorem ghZ_kp (g : List GO) (s : Slot) (t : TSt) : ghZ (.kp :: g) (s :: t) = s :: ghZ g t := rfl
theorem ghZ_fz (g : List GO) (s : Slot) (t : TSt) : ghZ (.fz :: g) (s :: t) = frzS s :: ghZ g t := rfl
theorem ghZ_kl (g : List GO) (s : Slot) (t : TSt) : ghZ (.kl :: g) (s :: t) = killS s :: ghZ g t := rfl
theorem ghZ_nil (t : TSt) : ghZ [] t = t := by cases t <;> rfl
theorem klZ_t (g : List Bool) (s : Slot) (t : TSt) : klZ (true :: g) (s :: t) = s :: klZ g t := rfl
theorem klZ_f (g : List Bool) (s : Slot) (t : TSt) : klZ (false :: g) (s :: t) = killS s :: klZ g t := rfl
theorem klZ_nil (t : TSt) : klZ [] t = t := by cases t <;> rfl
theorem frzS_l (l : List D) : frzS (.own (.lst l)) = .v (.lst l) := rfl
theorem frzS_d (kk : KK) (l : List (D × D)) : frzS (.own (.dct kk l)) = .v (.dct kk l) := rfl
theorem frzS_v (d : D) : frzS (.v d) = .v d := rfl
theorem frzS_un : frzS .un = .un := rfl
theorem killS_v (d : D) : killS (.v d) = .un := rfl
theorem killS_un : killS .un = .un := rfl
theorem killS_own (c : Cell) : killS (.own c) = .un := rfl
theorem killS_bor (c : Cell) : killS (.bor c) = .bor c := rfl
/-- the list is found, then slots are forgotten -/
def wIgh (gs : List GO) (i : WI) : WI := fun W t Q => i W t fun ds t1 => Q ds (ghZ gs t1)
theorem wIgh_ap (gs : List GO) (i : WI) (W : TX) (t : TSt) (Q : List D → TSt → Prop) : wIgh gs i W t Q = i W t fun ds t1 => Q ds (ghZ gs t1) := rfl
theorem Follows.up {K : PySem.W.Frag} {F F' : Hp} {J : It} {ds : List D} (h : Follows K F J ds) (s : Same F F') : Follows K F' J ds :=
  ⟨fun B i g t σ H hi s1 rl => h.go B i g t σ H hi (s.trans s1) rl, fun B i d g t σ H x H' hi s1 rl hy => h.yld B i d g t σ H x H' hi (s.trans s1) rl hy, fun B i g t σ H hi s1 rl => h.stop B i g t σ H hi (s.trans s1) rl⟩
theorem IT_gh {B : Base} {X : Cx} {tg iter : Expr} {wi : WI} {gs : List GO} (h : PIT B X tg iter wi) : PIT B X tg iter (wIgh gs wi) := fun W tk => PI.imp (h W tk) fun σ H R q => by
  obtain ⟨g, t, P, rl, m, k⟩ := q
  refine ⟨g, t, _, rl, m, fun ds t1 m1 g1 H1 J s1 rl1 fo => ?_⟩
  obtain ⟨g2, s2, rl2⟩ := rl1.gh (gs := gs)
  exact k _ _ m1 g2 H1 J (s1.trans s2) rl2 (fo.up s2)
def tup2X : D → Option (D × D)
  | .tup [a, b] => some (a, b)
  | _ => none
def tup3X : D → Option (D × D × D)
  | .tup [a, b, c] => some (a, b, c)
  | _ => none
theorem gT2_X (a b : WG) (d : D) (t : TSt) (k : TSt → Prop) : gT 2 (gsCons a (gsCons b gsNil)) d t k = oP (tup2X d) fun p => a p.1 t fun t1 => b p.2 t1 k := by
  unfold gT
  split
  · rename_i l
    match l with
    | [] => exact propext ⟨fun z => absurd z.1 (by decide), fun z => z.elim⟩
    | [x] => exact propext ⟨fun z => absurd z.1 (by simp), fun z => z.elim⟩
    | [x, y] => exact propext ⟨fun z => z.2, fun z => ⟨rfl, z⟩⟩
    | x :: y :: z :: r => exact propext ⟨fun w => absurd w.1 (by simp), fun w => w.elim⟩
  · rename_i h
    cases d <;> try rfl
    exact absurd rfl (h _)
theorem gT3_X (a b c : WG) (d : D) (t : TSt) (k : TSt → Prop) : gT 3 (gsCons a (gsCons b (gsCons c gsNil))) d t k = oP (tup3X d) fun p => a p.1 t fun t1 => b p.2.1 t1 fun t2 => c p.2.2 t2 k := by
  unfold gT
  split
  · rename_i l
    match l with
    | [] => exact propext ⟨fun z => absurd z.1 (by decide), fun z => z.elim⟩
    | [x] => exact propext ⟨fun z => absurd z.1 (by simp), fun z => z.elim⟩
    | [x, y] => exact propext ⟨fun z => absurd z.1 (by simp), fun z => z.elim⟩
    | [x, y, u] => exact propext ⟨fun z => z.2, fun z => ⟨rfl, z⟩⟩
    | x :: y :: z :: u :: r => exact propext ⟨fun w => absurd w.1 (by simp), fun w => w.elim⟩
  · rename_i h
    cases d <;> try rfl
    exact absurd rfl (h _)
theorem tup2_P (a b : D) (k : D × D → Prop) : oP (tup2X (.tup [a, b])) k = k (a, b) := rfl
theorem tup3_P (a b c : D) (k : D × D × D → Prop) : oP (tup3X (.tup [a, b, c])) k = k (a, b, c) := rfl
theorem withO_asI (d : D) (k : Int → Prop) (g : Tg k) : withO (asI d) k g = oP (asI d) k := withO_oP _ _ _
theorem withO_isi (d : D) (n : String) (k : Bool → Prop) (g : Tg k) : withO (isiD d n) k g = oP (isiD d n) k := withO_oP _ _ _
theorem withO_asL (d : D) (k : List D → Prop) (g : Tg k) : withO (asL d) k g = oP (asL d) k := withO_oP _ _ _
theorem asB_bl_P (b : Bool) (k : Bool → Prop) : oP (asB (.bl b)) k = k b := rfl
def popX (l : List D) : Option (D × List D) := (l[l.length - 1]?).map fun d => (d, l.dropLast)
theorem wPop_X (i : Nat) (W : TX) (t : TSt) (Q : R → TSt → Prop) : wPop i W t Q = withO (lstAt t i) fun l => oP (popX l) fun p => Q (.v p.1) (setCell t i (.lst p.2)) := by
  rw [wPop_ap, onLst_ap]
  cases lstAt t i with
  | none => rfl
  | some l =>
    show withO (l[l.length - 1]?) _ = oP (popX l) _
    unfold popX
    rw [withO_oP, oP_map]
/-- a dict written out -/
def dispX (ps : List (D × D)) : Option (List (D × D)) := if ps.length ≤ 15 ∧ (ps.all fun p => D.isKey .k p.1) = true then some (mergeD [] ps) else none
theorem dispX_P (ps : List (D × D)) (k : List (D × D) → Prop) : oP (dispX ps) k = (ps.length ≤ 15 ∧ (ps.all fun p => D.isKey .k p.1) = true ∧ k (mergeD [] ps)) := by
  unfold dispX; rw [oP_if]; exact propext and_assoc
def lrg1X (x : D) : Option (List D) := (asI x).bind fun i => if RgOk 0 i then some (rangeD 0 1 (i - 0).toNat) else none
theorem int_v (d : D) : int? (.v d) = asI d := by cases d <;> rfl
theorem wLrg1_X (a : WE) (W : TX) (t : TSt) (Q : R → TSt → Prop) : wLrg1 a W t Q = a W t fun r t1 => fz r fun d => oP (lrg1X d) fun l => Q (.own (.lst l)) t1 := by
  rw [wLrg1_ap]
  congr 1
  funext r t1
  cases r with
  | v d => cases d <;> first | rfl | (symm; apply oP_if)
  | own c => cases c <;> rfl
theorem wTrg1_X (a : WE) (W : TX) (t : TSt) (Q : R → TSt → Prop) : wTrg1 a W t Q = a W t fun r t1 => fz r fun d => oP (lrg1X d) fun l => Q (.v (.tup l)) t1 := by
  rw [wTrg1_ap]
  congr 1
  funext r t1
  cases r with
  | v d => cases d <;> first | rfl | (symm; apply oP_if)
  | own c => cases c <;> rfl
theorem oneX (d : D) : one? [d] = some d := rfl
theorem size_def : sizeLine = 16777216 := by decide
/-- a tuple so many times, too -/
def dMulA : Op2 := fun x y Q => match x with
  | .tup a => match y with
    | .int k => (k ≤ 1000 ∧ -(2 ^ 62) < k ∧ a.length ≤ 1000) ∧ Q (.v (.tup (List.replicate k.toNat a).flatten))
    | _ => False
  | _ => dMul x y Q
def mulAX (x y : D) : Option D := match x with
  | .tup a => match y with
    | .int k => if k ≤ 1000 ∧ -(2 ^ 62) < k ∧ a.length ≤ 1000 then some (.tup (List.replicate k.toNat a).flatten) else none
    | _ => none
  | _ => mulX x y
def mulLX : D → D → Option (List D)
  | .lst a, .int k => if small k ∧ a.length * k.toNat ≤ sizeLine then some (List.replicate k.toNat a).flatten else none
  | _, _ => none
/-- a list so many times, a new one -/
def dMulL : Op2 := fun x y Q => oP (mulLX x y) fun l => Q (.own (.lst l))
theorem dMulL_X (x y : D) (Q : R → Prop) : dMulL x y Q = oP (mulLX x y) fun l => Q (.own (.lst l)) := rfl
def isX : D → D → Option Bool
  | x, .non => some x.isNon
  | .bl a, .bl b => some (decide (a = b))
  | _, _ => none
def dIsA : Op2 := fun x y Q => oP (isX x y) fun b => Q (.v (.bl b))
def dIsNotA : Op2 := fun x y Q => oP (isX x y) fun b => Q (.v (.bl (!b)))
theorem dIsA_X (x y : D) (Q : R → Prop) : dIsA x y Q = oP (isX x y) fun b => Q (.v (.bl b)) := rfl
def isNotX (x y : D) : Option Bool := (isX x y).map (!·)
theorem dIsNotA_X (x y : D) (Q : R → Prop) : dIsNotA x y Q = oP (isNotX x y) fun b => Q (.v (.bl b)) := by
  unfold dIsNotA isNotX
  cases isX x y <;> rfl
theorem dMulA_X (x y : D) (k : D → Prop) : dMulA x y (fun z => fz z k) = oP (mulAX x y) k := by
  cases x <;> cases y <;> first | rfl | exact dMul_X (.lst _) (.int _) k | (symm; apply oP_if)
theorem truX_b (b : Bool) (k : Bool → Prop) : oP (truX (.bl b)) k = k b := rfl
theorem itX_l (l : List D) (k : List D → Prop) : oP (itX (.lst l)) k = k l := rfl
theorem itX_t (l : List D) (k : List D → Prop) : oP (itX (.tup l)) k = k l := rfl
theorem wNever_ap (W : TX) (t : TSt) (D0 : TD) : wNever W t D0 = False := rfl
def ltOk (x y : D) : Prop := x.pl = true ∧ y.pl = true ∧ PySem.W.alike x.py y.py = true ∧ min x.py.depth y.py.depth ≤ 64
instance (a b : D) : Decidable (ltOk a b) := by unfold ltOk; infer_instance
def ltD (x y : D) : Bool := PySem.W.dataLt x.py y.py
def ltAX (x y : D) : Option Bool := match x with
  | .tup a => if ltOk (.tup a) y then some (ltD (.tup a) y) else none
  | _ => ltX x y
def dLtA : Op2 := fun x y Q => match x with
  | .tup a => ltOk (.tup a) y ∧ Q (.v (.bl (ltD (.tup a) y)))
  | _ => dLt x y Q
theorem dLtA_X (x y : D) (Q : R → Prop) : dLtA x y Q = oP (ltAX x y) fun b => Q (.v (.bl b)) := by
  cases x with
  | tup a => symm; apply oP_if
  | int i => exact dLt_X _ _ _
  | str i => exact dLt_X _ _ _
  | _ => cases y <;> rfl
def seqX : D → Option (List D)
  | .tup l => some l
  | .lst l => some l
  | .xtp l => some l
  | _ => none
def zip2L : List D → List D → List D
  | a :: as, b :: bs => .tup [a, b] :: zip2L as bs
  | _, _ => []
def zip3L : List D → List D → List D → List D
  | a :: as, b :: bs, c :: cs => .tup [a, b, c] :: zip3L as bs cs
  | _, _, _ => []
def enumL : Nat → List D → List D
  | _, [] => []
  | i, a :: as => .tup [.int i, a] :: enumL (i + 1) as
def zip2X (x y : D) : Option (List D) := (seqX x).bind fun a => (seqX y).bind fun b => some (zip2L a b)
def zip3X (x y z : D) : Option (List D) := (seqX x).bind fun a => (seqX y).bind fun b => (seqX z).bind fun c => some (zip3L a b c)
def enumerateX (x : D) : Option (List D) := (seqX x).bind fun a => some (enumL 0 a)
def reversedX (x : D) : Option (List D) := (seqX x).bind fun a => some a.reverse
def wIzip2 (a : WA) : WI := fun W t Q => a W t fun ds t1 => oP (two? ds) fun p => oP (zip2X p.1 p.2) fun l => Q l t1
def wIzip3 (a : WA) : WI := fun W t Q => a W t fun ds t1 => oP (three? ds) fun p => oP (zip3X p.1 p.2.1 p.2.2) fun l => Q l t1
def wIenumerate (a : WA) : WI := fun W t Q => a W t fun ds t1 => oP (one? ds) fun x => oP (enumerateX x) fun l => Q l t1
def wIreversed (a : WE) : WI := fun W t Q => a W t fun r t1 => fz r fun x => oP (reversedX x) fun l => Q l t1
theorem wIzip2_ap (a : WA) (W : TX) (t : TSt) (Q : List D → TSt → Prop) : wIzip2 a W t Q = a W t fun ds t1 => withO (two? ds) fun p => oP (zip2X p.1 p.2) fun l => Q l t1 := by
  unfold wIzip2; rfl
theorem wIzip3_ap (a : WA) (W : TX) (t : TSt) (Q : List D → TSt → Prop) : wIzip3 a W t Q = a W t fun ds t1 => withO (three? ds) fun p => oP (zip3X p.1 p.2.1 p.2.2) fun l => Q l t1 := by
  unfold wIzip3; rfl
theorem wIenumerate_ap (a : WA) (W : TX) (t : TSt) (Q : List D → TSt → Prop) : wIenumerate a W t Q = a W t fun ds t1 => withO (one? ds) fun x => oP (enumerateX x) fun l => Q l t1 := by
  unfold wIenumerate; rfl
theorem wIreversed_ap (a : WE) (W : TX) (t : TSt) (Q : List D → TSt → Prop) : wIreversed a W t Q = a W t fun r t1 => fz r fun x => oP (reversedX x) fun l => Q l t1 := rfl
def wParR2 (i j : Nat) (a b : WE) : WS := fun W t D => a W t fun r t1 => b W t1 fun s t2 => stR i r t2 fun t3 => stR j s t3 D.nx
def wParR3 (i j l : Nat) (a b c : WE) : WS := fun W t D => a W t fun r t1 => b W t1 fun s t2 => c W t2 fun u t3 => stR i r t3 fun t4 => stR j s t4 fun t5 => stR l u t5 D.nx
theorem wParR2_ap (i j : Nat) (a b : WE) (W : TX) (t : TSt) (nx : TSt → Prop) (rt : R → TSt → Prop) (bk ct : TSt → Prop) : wParR2 i j a b W t ⟨nx, rt, bk, ct⟩ = a W t fun r t1 => b W t1 fun s t2 => stR i r t2 fun t3 => stR j s t3 nx := rfl
theorem wParR3_ap (i j l : Nat) (a b c : WE) (W : TX) (t : TSt) (nx : TSt → Prop) (rt : R → TSt → Prop) (bk ct : TSt → Prop) : wParR3 i j l a b c W t ⟨nx, rt, bk, ct⟩ = a W t fun r t1 => b W t1 fun s t2 => c W t2 fun u t3 => stR i r t3 fun t4 => stR j s t4 fun t5 => stR l u t5 nx := rfl
/-- texts of data -/
def reprOk (d : D) : Prop := d.pl = true ∧ d.py.depth ≤ 64 ∧ d.py.showable = true ∧ d.py.shown.length ≤ sizeLine
instance (d : D) : Decidable (reprOk d) := by unfold reprOk; infer_instance
def reprX (d : D) : Option D := if reprOk d then some (.str d.py.shown) else none
def nRepr : OpN
  | [d], Q => oP (reprX d) fun x => Q (.v x)
  | _, _ => False
theorem nRepr_X (d : D) (Q : R → Prop) : nRepr [d] Q = oP (reprX d) fun x => Q (.v x) := rfl
def SortOk (l : List D) : Prop := D.plL l = true ∧ PySem.W.AllAlike (l.map D.py) ∧ PySem.W.Sortable (l.map D.py) ∧ l.length ≤ sizeLine ∧ ∀ b ∈ l, b.py.depth ≤ 60
def sortD (l : List D) : List D := l.mergeSort (PySem.W.dataLe false D.py)
noncomputable def sortedX (d : D) : Option (List D) := match d with
  | .lst l => open Classical in if SortOk l then some (sortD l) else none
  | _ => none
def nSorted : OpN
  | [d], Q => oP (sortedX d) fun l => Q (.own (.lst l))
  | _, _ => False
theorem nSorted_X (d : D) (Q : R → Prop) : nSorted [d] Q = oP (sortedX d) fun l => Q (.own (.lst l)) := rfl
def pairT : D → Bool
  | .tup [k, _] => D.isKey .t k
  | _ => false
def putP (acc : List (D × D)) : D → List (D × D)
  | .tup [k, v] => putD acc k v
  | _ => acc
def dictTX (d : D) : Option (List (D × D)) := match d with
  | .lst l => if l.all pairT = true ∧ l.length ≤ sizeLine then some (l.foldl putP []) else none
  | _ => none
def nDictT : OpN
  | [d], Q => oP (dictTX d) fun l => Q (.own (.dct .t l))
  | _, _ => False
theorem nDictT_X (d : D) (Q : R → Prop) : nDictT [d] Q = oP (dictTX d) fun l => Q (.own (.dct .t l)) := rfl
inductive Ex (α : Type) where
  | ok (a : α) | er (n : String)
def Ex.cs {α : Type} {β : Sort u} (o : Ex α) (f : α → β) (g : String → β) : β := match o with
  | .ok a => f a
  | .er n => g n
theorem Ex.cs_ok {α : Type} {β : Sort u} (a : α) (f : α → β) (g : String → β) : (Ex.ok a).cs f g = f a := rfl
theorem Ex.cs_er {α : Type} {β : Sort u} (n : String) (f : α → β) (g : String → β) : (Ex.er n : Ex α).cs f g = g n := rfl
theorem oP_exs {α β : Type} (o : Ex α) (f : α → Option β) (g : String → Option β) (k : β → Prop) : oP (o.cs f g) k = o.cs (fun a => oP (f a) k) (fun n => oP (g n) k) := by cases o <;> rfl
def Ex.un {α : Type} (o : Ex α) : Option α := o.cs some fun _ => none
theorem Ex.un_ok {α : Type} (a : α) : (Ex.ok a).un = some a := rfl
theorem oP_un {α : Type} (o : Ex α) (k : α → Prop) : oP o.un k = o.cs k fun _ => False := by cases o <;> rfl
def bindE {α β : Type} (m : Option (Ex α)) (h : String → Option β) (k : α → Option β) : Option β := m.bind fun o => o.cs k h
theorem oP_bindE {α β : Type} (m : Option (Ex α)) (h : String → Option β) (k : α → Option β) (Q : β → Prop) : oP (bindE m h k) Q = oP m fun o => o.cs (fun a => oP (k a) Q) (fun n => oP (h n) Q) := by
  unfold bindE
  rw [oP_bind]
  congr 1
  funext o
  exact oP_exs _ _ _ _
theorem bindE_er {α β : Type} {n : String} {h : String → Option β} {k : α → Option β} : bindE (some (.er n : Ex α)) h k = h n := rfl
theorem noX_ap (n : String) (p : Pay) (t : TSt) : noX n p t = False := rfl
/-- nothing is raised here -/
def wNoX (a : WE) : WE := fun _ t Q => a noX t Q
theorem wNoX_ap (a : WE) (W : TX) (t : TSt) (Q : R → TSt → Prop) : wNoX a W t Q = a noX t Q := rfl
def wRaise (n : String) : WS := fun W t _ => W n none t
theorem wRaise_ap (n : String) (W : TX) (t : TSt) (D0 : TD) : wRaise n W t D0 = W n none t := rfl
def unS (i : Nat) (t : TSt) : TSt := t.set i .un
/-- what a suite starts with -/
def catchK (i : Nat) (ns : List String) (suite : WS) (n : String) (pay : Pay) (t1 : TSt) (D0 : TD) : Prop := ns.contains n = true ∧ pay = none ∧ stR i (.v (.exc n)) t1 fun t2 => suite noX t2 ⟨fun t3 => D0.nx (unS i t3), D0.rt, fun t3 => D0.bk (unS i t3), fun t3 => D0.ct (unS i t3)⟩
def wTryAs (i : Nat) (ns : List String) (body suite : WS) : WS := fun _ t D0 => body (fun n pay t1 => catchK i ns suite n pay t1 D0) t D0
theorem wTryAs_ap (i : Nat) (ns : List String) (body suite : WS) (W : TX) (t : TSt) (nx : TSt → Prop) (rt : R → TSt → Prop) (bk ct : TSt → Prop) : wTryAs i ns body suite W t ⟨nx, rt, bk, ct⟩ = body (fun n pay t1 => catchK i ns suite n pay t1 ⟨nx, rt, bk, ct⟩) t ⟨nx, rt, bk, ct⟩ := rfl
theorem catchK_ap (i : Nat) (ns : List String) (suite : WS) (n : String) (t1 : TSt) (nx : TSt → Prop) (rt : R → TSt → Prop) (bk ct : TSt → Prop) : catchK i ns suite n none t1 ⟨nx, rt, bk, ct⟩ = (ns.contains n = true ∧ stR i (.v (.exc n)) t1 fun t2 => suite noX t2 ⟨fun t3 => nx (unS i t3), rt, fun t3 => bk (unS i t3), fun t3 => ct (unS i t3)⟩) := by
  unfold catchK
  simp
/-- is one of class n one of class m -/
def subB (n m : String) : Bool := n == m || m == "EvenError"
def isE1 (ns ms : List String) (n : String) (c : D) : Option Bool := match c with
  | .cl m => if ns.contains n && ms.contains m then some (subB n m) else none
  | .ty m => if ns.contains n && m == "ValueError" then some true else none
  | _ => none
def isEs (ns ms : List String) (n : String) : List D → Option Bool
  | [] => some false
  | c :: cs => (isE1 ns ms n c).bind fun b => (isEs ns ms n cs).bind fun r => some (b || r)
/-- isinstance of an exception -/
def isEX (ns ms : List String) (x c : D) : Option Bool := match x with
  | .exc n => match c with
    | .tup cs => if cs.isEmpty then none else isEs ns ms n cs
    | c => isE1 ns ms n c
  | _ => none
def nIsE (ns ms : List String) : OpN
  | [x, c], Q => oP (isEX ns ms x c) fun b => Q (.v (.bl b))
  | _, _ => False
theorem nIsE_X (ns ms : List String) (x c : D) (Q : R → Prop) : nIsE ns ms [x, c] Q = oP (isEX ns ms x c) fun b => Q (.v (.bl b)) := rfl
/-- how often is True in a list of truths; the place of the first -/
def countTX (d : D) : Option D := match d with
  | .lst l => (D.bls l).map fun bs => .int (bs.count true : Nat)
  | _ => none
def indexTX (d : D) : Option D := match d with
  | .lst l => (D.bls l).bind fun bs => if true ∈ bs then some (.int (bs.findIdx id : Nat)) else none
  | _ => none
def pkL (t : TSt) (i : Nat) (k : List D → Prop) : Prop := match peek t i with
  | some (.lst l) => k l
  | _ => False
def wLm1 (o : Op2) (i : Nat) (b : WE) : WE := fun W t Q => pkL t i fun _ => b W t fun r t1 => fz r fun y => pkL t1 i fun x => o (.lst x) y fun z => Q z t1
theorem wLm1_ap (o : Op2) (i : Nat) (b : WE) (W : TX) (t : TSt) (Q : R → TSt → Prop) : wLm1 o i b W t Q = pkL t i fun _ => b W t fun r t1 => fz r fun y => pkL t1 i fun x => o (.lst x) y fun z => Q z t1 := rfl
theorem pkL_ap (t : TSt) (i : Nat) (k : List D → Prop) : pkL t i k = withO (peek t i) fun d => oP (asL d) k := by
  unfold pkL
  split
  · rename_i h; rw [h]; rfl
  · rename_i h
    cases q : peek t i with
    | none => rfl
    | some d => cases d <;> first | rfl | exact absurd q (h _)
def dCountT : Op2 := fun x y Q => match y with
  | .bl true => oP (countTX x) fun d => Q (.v d)
  | _ => False
def dIndexT : Op2 := fun x y Q => match y with
  | .bl true => oP (indexTX x) fun d => Q (.v d)
  | _ => False
theorem dCountT_X (x : D) (Q : R → Prop) : dCountT x (.bl true) Q = oP (countTX x) fun d => Q (.v d) := rfl
theorem dIndexT_X (x : D) (Q : R → Prop) : dIndexT x (.bl true) Q = oP (indexTX x) fun d => Q (.v d) := rfl
def guardX (b : Bool) : Option Unit := if b = true then some () else none
theorem guard_P (b : Bool) (k : Unit → Prop) : oP (guardX b) k = (b = true ∧ k ()) := by unfold guardX; exact oP_if _ _
end TL
namespace TL
open PySem PySem.Spec PyProof.Rows L2
theorem tuple_mul1 (l : Addr) (items : Array Value) (n : Nat) (dd : Option Addr) (sl : Array (Option Value)) (x : Int) (u : Tok) (c0 : (decide (x < -(2 ^ 63)) || decide (x ≥ 2 ^ 63)) = false) (c1 : (items.isEmpty || x == 1) = true) :
    Meets (Builtin.«tuple.__mul__» ⟨[.ref l, .int x u], []⟩) (fun _ R s => s.heap.get? l = some { cls := .type "tuple", dict := dd, data := .seq items n, slots := sl } ∧
      R (.ok (.ret (Value.ref l))) s) :=
  .of_wp fun prog w A R s h => by
    obtain ⟨hp, g, d, tk, os⟩ := s
    obtain ⟨hl, h⟩ := h
    have f1 := AutoSeq1.idx_int
    wp_walk using wpAny_loadPart' hl
    repeat (first
      | (refine wpAny_ite_false (decide_eq_false (by rw [c0]; exact Bool.false_ne_true)) ?_; wp_walk using wpAny_loadPart' hl)
      | (refine wpAny_ite_true (decide_eq_true (by rw [c1])) ?_; wp_walk using wpAny_loadPart' hl))
    exact ⟨_, rfl, h⟩
theorem tuple_mul0 (l : Addr) (items : Array Value) (n : Nat) (dd : Option Addr) (sl : Array (Option Value)) (x : Int) (u : Tok) (c0 : (decide (x < -(2 ^ 63)) || decide (x ≥ 2 ^ 63)) = false) (c1 : (items.isEmpty || x == 1) = false) (c2 : (decide (x ≤ 0) || items.isEmpty) = true) :
    Meets (Builtin.«tuple.__mul__» ⟨[.ref l, .int x u], []⟩) (fun _ R s => s.heap.get? l = some { cls := .type "tuple", dict := dd, data := .seq items n, slots := sl } ∧
      R (.ok (.ret (Value.ref s.heap.objs.size))) { s with heap := s.heap.push { cls := Value.type "tuple", data := Data.seq #[] }, toks := s.toks }) :=
  .of_wp fun prog w A R s h => by
    obtain ⟨hp, g, d, tk, os⟩ := s
    obtain ⟨hl, h⟩ := h
    have f1 := AutoSeq1.idx_int
    wp_walk using wpAny_loadPart' hl
    repeat (first
      | (refine wpAny_ite_false (decide_eq_false (by rw [c0]; exact Bool.false_ne_true)) ?_; wp_walk using wpAny_loadPart' hl)
      | (refine wpAny_ite_false (decide_eq_false (by rw [c1]; exact Bool.false_ne_true)) ?_; wp_walk using wpAny_loadPart' hl)
      | (refine wpAny_ite_true (decide_eq_true (by rw [c2])) ?_; wp_walk using wpAny_loadPart' hl))
    exact ⟨_, rfl, h⟩
def rRepA (K : PySem.W.Frag) : R2 := fun x y H Q => ∃ l k xs, x = .ref l ∧ y = .int k ∧ SqT K H l xs ∧ k ≤ 1000 ∧ -(2 ^ 62) < k ∧ xs.length ≤ 1000 ∧ (xs = [] ∨ k = 1 → Q (.ref l) H) ∧ (xs ≠ [] → k ≠ 1 → ∀ p, H p = none → Q (.ref p) (upd H p (.tup (List.replicate k.toNat xs).flatten)))
theorem op_repA {X : Cx} : OpR X (binaryOp .Mult) (rRepA X.K) := by
  intro pins s σ H x y v u Q I rx ry h
  obtain ⟨l, k, xs, rfl, rfl, hT, h2, h1, hz, q1, q⟩ := h
  by_cases z : xs ≠ [] ∧ 2 ≤ k
  · exact op_repT pins s σ H _ _ v u Q I rx ry ⟨l, k, xs, rfl, rfl, hT, z.1, z.2, h2, hz, q z.1 (by omega)⟩
  cases rx
  obtain ⟨t, rfl⟩ := ry
  obtain ⟨its, r, ⟨⟨cls, dd, data, sl⟩, ho, hc, n, hd⟩, hs⟩ := I.tuple hT
  simp only at hc hd
  subst hc hd
  have hle : its.length = xs.length := r.length.symm
  have c0 : (decide (k < -(2 ^ 63)) || decide (k ≥ 2 ^ 63)) = false := by
    rw [decide_eq_false (by omega), decide_eq_false (by omega)] <;> rfl
  by_cases w : xs = [] ∨ k = 1
  · have c1 : (its.toArray.isEmpty || k == 1) = true := by
      rcases w with w | w
      · have : its = [] := List.eq_nil_of_length_eq_zero (by rw [hle, w]; rfl)
        subst this; rfl
      · subst w; simp
    refine wpAny_binaryOp_repeat_ref (T := "tuple") (U := "int") (by decide) ⟨_, ho, rfl⟩ (fun s' => typeIs_int s' k t) noFill_tuple_mul F.fills_int_mul F.slot_int_rmul repeat_tuple F.slot_int_index.lookup
      (call_meets F.slot_int_rmul (typeIs_int s k t) F.entry_int_rmul (F.args_int_rmul_2 _ _) (int_rmul_tuple k t l its.toArray n dd sl)
        ⟨ho, rfl, ⟨_, ho, rfl⟩, call_meets F.slot_tuple_mul ⟨_, ho, rfl⟩ F.entry_tuple_mul (F.args_tuple_mul_2 _ _) (tuple_mul1 l its.toArray n dd sl k t c0 c1) ⟨ho, ?_⟩⟩)
    exact ⟨.ref l, H, I, rfl, q1 w⟩
  · have w1 : xs ≠ [] := fun e => w (.inl e)
    have w2 : k ≠ 1 := fun e => w (.inr e)
    have w3 : k ≤ 0 := by
      rcases Int.lt_or_le 1 k with y | y
      · exact absurd ⟨w1, by omega⟩ z
      · omega
    have hi : its.toArray.isEmpty = false := by
      cases its with
      | nil => exact absurd (List.eq_nil_of_length_eq_zero hle.symm) w1
      | cons a b => rfl
    have c1 : (its.toArray.isEmpty || k == 1) = false := by
      rw [hi, Bool.false_or]
      exact beq_eq_false_iff_ne.mpr w2
    have c2 : (decide (k ≤ 0) || its.toArray.isEmpty) = true := by rw [decide_eq_true w3]; rfl
    refine wpAny_binaryOp_repeat_ref (T := "tuple") (U := "int") (by decide) ⟨_, ho, rfl⟩ (fun s' => typeIs_int s' k t) noFill_tuple_mul F.fills_int_mul F.slot_int_rmul repeat_tuple F.slot_int_index.lookup
      (call_meets F.slot_int_rmul (typeIs_int s k t) F.entry_int_rmul (F.args_int_rmul_2 _ _) (int_rmul_tuple k t l its.toArray n dd sl)
        ⟨ho, rfl, ⟨_, ho, rfl⟩, call_meets F.slot_tuple_mul ⟨_, ho, rfl⟩ F.entry_tuple_mul (F.args_tuple_mul_2 _ _) (tuple_mul0 l its.toArray n dd sl k t c0 c1 c2) ⟨ho, ?_⟩⟩)
    have e : (List.replicate k.toNat xs).flatten = [] := by rw [show k.toNat = 0 by omega]; rfl
    have q' := q w1 w2
    rw [e] at q'
    exact ⟨.ref s.heap.objs.size, _, I.laid (t' := s.toks) (o := .tup []) (fun b ob q => Heap.get?_push_of_some _ q) (Nat.le_refl _) ⟨by rw [sizeLine_eq]; decide, [], .nil, IsTup.new _ _⟩, rfl, q' _ (I.hok.fresh (Nat.le_refl _))⟩
section
variable {B : Base} {X : Cx}
theorem O_mulA : OpT B X (binaryOp .Mult) dMulA := .mk fun pins s σ H x y v u Q g t σ' dx dy P I rx ry rl r1 r2 m k => by
  unfold dMulA at m
  split at m
  · rename_i a
    split at m
    · rename_i j
      obtain ⟨⟨h1, h1', h2⟩, m⟩ := m
      obtain ⟨p, vs, rfl, ha, ra⟩ := r1.tup_inv rl.sub
      cases r2.int_inv
      refine op_repA pins s σ H _ _ v u Q I rx ry ⟨p, j, vs, rfl, rfl, .of ha, h1, h1', by rw [ra.length]; exact h2, fun w => ?_, fun w1 w2 p hp => ?_⟩
      · have e : (List.replicate j.toNat a).flatten = a := by
          rcases w with w | w
          · have : a = [] := ra.nil_iff.mp w
            subst this; simp
          · subst w; simp
        rw [e] at m
        cases r1 with
        | rep r1 => exact k _ m g _ H sRefl rl r1
      · obtain ⟨g', s', rl', rr⟩ := newTup rl hp (ra.rep j.toNat)
        exact k _ m g' _ _ s' rl' rr
    · exact m.elim
  · exact O_mul (B := B) pins s σ H x y v u Q I rx ry ⟨g, t, σ', dx, dy, P, rl, r1, r2, m, k⟩
theorem O_ltA (hu : X.A.units + 66 < cLine) : OpT B X (compareOp .Lt) dLtA := .mk fun pins s σ H x y v u Q g t σ' dx dy P I rx ry rl r1 r2 m k => by
  unfold dLtA at m
  split at m
  · rename_i a
    obtain ⟨⟨p1, p2, p3, p4⟩, m⟩ := m
    obtain ⟨as, e1⟩ := Dp.reads I _ x v (r1.dp rl.sub p1) rx
    obtain ⟨bs, e2⟩ := Dp.reads I _ y u (r2.dp rl.sub p2) ry
    exact PySem.W.lt_data e1 e2 p3 (by intro e; cases e) (by omega) ⟨.bl _, H, I, rfl, k _ m g _ H sRefl rl (Rep.bl _)⟩
  · exact O_lt (B := B) pins s σ H x y v u Q I rx ry ⟨g, t, σ', dx, dy, P, rl, r1, r2, m, k⟩
end
end TL
set_option maxHeartbeats 4000000
namespace TL
open PySem PySem.Spec PyProof.Rows L2
inductive SK where
  | l | t
def SK.It (b : SK) (h : Heap) (it l : Addr) (k : Nat) : Prop := match b with
  | .l => h.IsListIter it l k
  | .t => h.IsTupleIter it l k
def SK.Sq (b : SK) (h : Heap) (l : Addr) (xs : Array Value) : Prop := match b with
  | .l => h.IsList l xs
  | .t => h.IsTuple l xs
def SK.SqV (b : SK) (K : PySem.W.Frag) (H : Hp) (a : Addr) (xs : List V) : Prop := match b with
  | .l => SqL K H a xs
  | .t => SqT K H a xs
theorem SK.It.to {b : SK} {h h' : Heap} {it l : Addr} {k : Nat} (x : b.It h it l k) (e : ∀ o, h.get? it = some o → h'.get? it = some o) : b.It h' it l k := by
  cases b with
  | l => exact Heap.IsListIter.at x e
  | t => exact Heap.IsTupleIter.at x e
theorem SK.Sq.to {b : SK} {h h' : Heap} {l : Addr} {xs : Array Value} (x : b.Sq h l xs) (e : ∀ o, h.get? l = some o → h'.get? l = some o) : b.Sq h' l xs := by
  cases b with
  | l => exact Heap.IsList.at x e
  | t => exact Heap.IsTuple.at x e
theorem SK.It.get {b : SK} {h : Heap} {it l : Addr} {k : Nat} (x : b.It h it l k) : ∃ o, h.get? it = some o ∧ ∀ v, o.data ≠ .cell v := by
  cases b with
  | l => obtain ⟨o, e, _, d⟩ := x; exact ⟨o, e, fun v q => by rw [d] at q; cases q⟩
  | t => obtain ⟨o, e, _, d⟩ := x; exact ⟨o, e, fun v q => by rw [d] at q; cases q⟩
theorem SK.Sq.get {b : SK} {h : Heap} {l : Addr} {xs : Array Value} (x : b.Sq h l xs) : ∃ o, h.get? l = some o := by
  cases b with
  | l => obtain ⟨o, e, _⟩ := x; exact ⟨o, e⟩
  | t => obtain ⟨o, e, _⟩ := x; exact ⟨o, e⟩
section
variable {prog : Program} {w : World} {A : Around} {E : Value → Shared → Prop} {s : Shared}
theorem SK.nextItem {b : SK} {it l : Addr} {i : Nat} {items : Array Value} {x : Value} {Q : Value → Shared → Prop} (hit : b.It s.heap it l i)
    (hl : b.Sq s.heap l items) (hx : items[i]? = some x)
    (hQ : ∀ h', b.It h' it l (i + 1) → Heap.SameBut it s.heap h' → Q x { s with heap := h' }) :
    wpAny (model prog w) A (Builtin.SmallTypes.nextOf (.ref it)) Q E s := by
  cases b with
  | l => exact wpAny_nextOf_list_item hit hl hx hQ
  | t => exact RZ.nextOf_tuple_item hit hl hx hQ
theorem SK.nextEnd {b : SK} {it l : Addr} {i : Nat} {items : Array Value} {Q : Value → Shared → Prop} (hh : A.handled = none)
    (hit : b.It s.heap it l i) (hl : b.Sq s.heap l items) (hx : items[i]? = none)
    (hE : ∀ h' e, Heap.ExtBut it s.heap h' → (∃ o, h'.get? e = some o ∧ o.cls = .type "StopIteration") → E (.ref e) { s with heap := h' }) :
    wpAny (model prog w) A (Builtin.SmallTypes.nextOf (.ref it)) Q E s := by
  cases b with
  | l => exact wpAny_nextOf_list_end hh hit hl hx hE
  | t => exact RZ.nextOf_tuple_end hh hit hl hx hE
end
abbrev IsTupA (h : Heap) (T : Addr) (vs : Array Value) : Prop := h.get? T = some { cls := .type "tuple", data := .seq vs }
section
variable {prog : Program} {w : World} {A : Around} {E : Value → Shared → Prop} {s : Shared}
theorem wpAny_updateSeq_tup {T : Addr} {vs : Array Value} {x : Value} {k : Nat} {Q : Unit → Shared → Prop} (hT : IsTupA s.heap T vs) (hv : vs.size ≤ 8)
    (h : ∀ h', IsTupA h' T (vs.setIfInBounds k x) → Heap.SameBut T s.heap h' → Q () { s with heap := h' }) :
    wpAny (model prog w) A (updateSeq T (·.setIfInBounds k x)) Q E s := by
  refine wpAny_updateSeq (hz := by rw [size_def]; omega) (_hz' := by rw [Array.size_setIfInBounds, size_def]; omega) hT rfl (h _ ?_ (Heap.SameBut.update ..))
  show (s.heap.update T _).get? T = _
  rw [Heap.get?_update_self _ hT rfl]
  simp [Obj.mapSeq]
end
section
variable {prog : Program} {w : World} {A : Around} {E : Value → Shared → Prop} {s : Shared}
end
section
variable {prog : Program} {w : World} {A : Around} {E : Value → Shared → Prop} {s : Shared}
theorem zip3_next_item {m : Nat} {b1 b2 b3 : SK} {l1 l2 l3 : Nat} {k : Nat} {x1 x2 x3 : Array Value} {y1 y2 y3 : Value} {o1 o2 o3 : Value} {Q : Value → Shared → Prop} (a1 : l1 < m) (a2 : l2 < m) (a3 : l3 < m)
    (hz : IsZip s.heap (m + 5) (m + 3) (m + 4) .none) (hTI : IsTupA s.heap (m + 3) #[.ref m, .ref (m + 1), .ref (m + 2)]) (hTO : IsTupA s.heap (m + 4) #[o1, o2, o3])
    (h1 : b1.It s.heap m l1 k) (h2 : b2.It s.heap (m + 1) l2 k) (h3 : b3.It s.heap (m + 2) l3 k) (s1 : b1.Sq s.heap l1 x1) (s2 : b2.Sq s.heap l2 x2) (s3 : b3.Sq s.heap l3 x3) (e1 : x1[k]? = some y1) (e2 : x2[k]? = some y2) (e3 : x3[k]? = some y3)
    (hQ : ∀ h', IsZip h' (m + 5) (m + 3) (m + 4) (rawInt s.heap.objs.size) → IsTupA h' (m + 4) #[y1, y2, y3] → b1.It h' m l1 (k + 1) → b2.It h' (m + 1) l2 (k + 1) → b3.It h' (m + 2) l3 (k + 1) → IsTupA h' s.heap.objs.size #[y1, y2, y3] → h'.objs.size = s.heap.objs.size + 1 →
      (∀ c o, c ≠ (m + 5) → c ≠ (m + 4) → c ≠ m → c ≠ (m + 1) → c ≠ (m + 2) → s.heap.get? c = some o → h'.get? c = some o) → Q (.ref s.heap.objs.size) { s with heap := h' }) :
    wpAny (model prog w) A (Builtin.«zip.__next__» ⟨[.ref (m + 5)], []⟩) (fun fin s' => ∃ v, fin = .done (.ret v) ∧ Q v s') E s := by
  show wpAny _ _ (field (.ref (m + 5)) 2 >>= _) _ _ _
  refine wpAny_bind (wpAny_field hz rfl (x := .bool false) rfl ?_)
  show wpAny _ _ (field (.ref (m + 5)) 3 >>= _) _ _ _
  refine wpAny_bind (wpAny_field hz rfl (x := .ref (m + 3)) rfl ?_)
  refine wpAny_bind (wpAny_seqItems hTI rfl ?_)
  show wpAny _ _ (Builtin.SmallTypes.ownedTupleIsFree (.ref (m + 5)) >>= _) _ _ _
  refine wpAny_bind ?_
  unfold Builtin.SmallTypes.ownedTupleIsFree
  refine wpAny_bind (wpAny_field hz rfl (x := .none) rfl (wpAny_pure ?_))
  simp only [if_true]
  refine wpAny_bind (wpAny_rule ?_)
  refine wpAny_bind (wpAny_field hz rfl (x := .ref (m + 4)) rfl ?_)
  refine wpAny_bind (wpAny_setField_rec hz (by simp) fun g1 hz1 t1 => ?_)
  replace hz1 : IsZip g1 (m + 5) (m + 3) (m + 4) .ellipsis := hz1
  have ext1 : ∀ c o, c ≠ (m + 5) → s.heap.get? c = some o → g1.get? c = some o := fun c o c1 e => t1.extBut _ _ c1 e
  refine wpAny_bind ?_
  simp only [List.zipIdx_cons, List.zipIdx_nil, List.forIn_cons, List.forIn_nil]
  have hTOg : IsTupA g1 (m + 4) #[o1, o2, o3] := ext1 _ _ (by show @Ne Nat _ _; omega) hTO
  have i1g : b1.It g1 m l1 k := h1.to fun o e => ext1 _ o (by show @Ne Nat _ _; omega) e
  have s1g : b1.Sq g1 l1 x1 := s1.to fun o e => ext1 _ o (by show @Ne Nat _ _; omega) e
  have i2g : b2.It g1 (m + 1) l2 k := h2.to fun o e => ext1 _ o (by show @Ne Nat _ _; omega) e
  have s2g : b2.Sq g1 l2 x2 := s2.to fun o e => ext1 _ o (by show @Ne Nat _ _; omega) e
  have i3g : b3.It g1 (m + 2) l3 k := h3.to fun o e => ext1 _ o (by show @Ne Nat _ _; omega) e
  have s3g : b3.Sq g1 l3 x3 := s3.to fun o e => ext1 _ o (by show @Ne Nat _ _; omega) e
  have hzg := hz1
  have szg : g1.objs.size = s.heap.objs.size := t1.1
  have kg : ∀ c o, c ≠ (m + 5) → c ≠ (m + 4) → c ≠ m → c ≠ (m + 1) → c ≠ (m + 2) → s.heap.get? c = some o → g1.get? c = some o := fun c o c1 c2 d1 d2 d3 e => ext1 c o c1 e
  refine wpAny_bind (wpAny_bind (wpAny_onRaise ?_))
  show wpAny _ _ (Builtin.SmallTypes.nextOf (.ref m) >>= _) _ _ _
  refine wpAny_bind (SK.nextItem i1g s1g e1 fun p1 i1n u1 => wpAny_pure ?_)
  have x1 : ∀ c o, c ≠ m → g1.get? c = some o → p1.get? c = some o := fun c o c1 e => u1.extBut _ _ c1 e
  replace hTOg : IsTupA p1 (m + 4) #[o1, o2, o3] := x1 _ _ (by show @Ne Nat _ _; omega) hTOg
  replace s1g := s1g.to fun o e => x1 _ o (by show @Ne Nat _ _; omega) e
  replace i2g := i2g.to fun o e => x1 _ o (by show @Ne Nat _ _; omega) e
  replace s2g := s2g.to fun o e => x1 _ o (by show @Ne Nat _ _; omega) e
  replace i3g := i3g.to fun o e => x1 _ o (by show @Ne Nat _ _; omega) e
  replace s3g := s3g.to fun o e => x1 _ o (by show @Ne Nat _ _; omega) e
  clear i1g; have i1g := i1n; clear i1n
  replace hzg : IsZip p1 (m + 5) (m + 3) (m + 4) .ellipsis := x1 _ _ (by show @Ne Nat _ _; omega) hzg
  replace szg : p1.objs.size = s.heap.objs.size := u1.1.trans szg
  replace kg : ∀ c o, c ≠ (m + 5) → c ≠ (m + 4) → c ≠ m → c ≠ (m + 1) → c ≠ (m + 2) → s.heap.get? c = some o → p1.get? c = some o := fun c o c1 c2 d1 d2 d3 e => x1 c o d1 (kg c o c1 c2 d1 d2 d3 e)
  refine wpAny_bind (wpAny_seqItems hTOg rfl ?_)
  refine wpAny_bind (wpAny_updateSeq_tup hTOg (by simp) fun q1 hTOn v1 => ?_)
  replace hTOg : IsTupA q1 (m + 4) #[y1, o2, o3] := hTOn
  clear hTOn x1
  have x1 : ∀ c o, c ≠ (m + 4) → p1.get? c = some o → q1.get? c = some o := fun c o c1 e => v1.extBut _ _ c1 e
  replace i1g := i1g.to fun o e => x1 _ o (by show @Ne Nat _ _; omega) e
  replace s1g := s1g.to fun o e => x1 _ o (by show @Ne Nat _ _; omega) e
  replace i2g := i2g.to fun o e => x1 _ o (by show @Ne Nat _ _; omega) e
  replace s2g := s2g.to fun o e => x1 _ o (by show @Ne Nat _ _; omega) e
  replace i3g := i3g.to fun o e => x1 _ o (by show @Ne Nat _ _; omega) e
  replace s3g := s3g.to fun o e => x1 _ o (by show @Ne Nat _ _; omega) e
  replace hzg : IsZip q1 (m + 5) (m + 3) (m + 4) .ellipsis := x1 _ _ (by show @Ne Nat _ _; omega) hzg
  replace szg : q1.objs.size = s.heap.objs.size := v1.1.trans szg
  replace kg : ∀ c o, c ≠ (m + 5) → c ≠ (m + 4) → c ≠ m → c ≠ (m + 1) → c ≠ (m + 2) → s.heap.get? c = some o → q1.get? c = some o := fun c o c1 c2 d1 d2 d3 e => x1 c o c2 (kg c o c1 c2 d1 d2 d3 e)
  clear x1
  refine wpAny_bind (wpAny_letGo (wpAny_pure ?_))
  refine wpAny_bind (wpAny_bind (wpAny_onRaise ?_))
  show wpAny _ _ (Builtin.SmallTypes.nextOf (.ref (m + 1)) >>= _) _ _ _
  refine wpAny_bind (SK.nextItem i2g s2g e2 fun p2 i2n u2 => wpAny_pure ?_)
  have x1 : ∀ c o, c ≠ (m + 1) → q1.get? c = some o → p2.get? c = some o := fun c o c1 e => u2.extBut _ _ c1 e
  replace hTOg : IsTupA p2 (m + 4) #[y1, o2, o3] := x1 _ _ (by show @Ne Nat _ _; omega) hTOg
  replace i1g := i1g.to fun o e => x1 _ o (by show @Ne Nat _ _; omega) e
  replace s1g := s1g.to fun o e => x1 _ o (by show @Ne Nat _ _; omega) e
  replace s2g := s2g.to fun o e => x1 _ o (by show @Ne Nat _ _; omega) e
  replace i3g := i3g.to fun o e => x1 _ o (by show @Ne Nat _ _; omega) e
  replace s3g := s3g.to fun o e => x1 _ o (by show @Ne Nat _ _; omega) e
  clear i2g; have i2g := i2n; clear i2n
  replace hzg : IsZip p2 (m + 5) (m + 3) (m + 4) .ellipsis := x1 _ _ (by show @Ne Nat _ _; omega) hzg
  replace szg : p2.objs.size = s.heap.objs.size := u2.1.trans szg
  replace kg : ∀ c o, c ≠ (m + 5) → c ≠ (m + 4) → c ≠ m → c ≠ (m + 1) → c ≠ (m + 2) → s.heap.get? c = some o → p2.get? c = some o := fun c o c1 c2 d1 d2 d3 e => x1 c o d2 (kg c o c1 c2 d1 d2 d3 e)
  refine wpAny_bind (wpAny_seqItems hTOg rfl ?_)
  refine wpAny_bind (wpAny_updateSeq_tup hTOg (by simp) fun q2 hTOn v2 => ?_)
  replace hTOg : IsTupA q2 (m + 4) #[y1, y2, o3] := hTOn
  clear hTOn x1
  have x1 : ∀ c o, c ≠ (m + 4) → p2.get? c = some o → q2.get? c = some o := fun c o c1 e => v2.extBut _ _ c1 e
  replace i1g := i1g.to fun o e => x1 _ o (by show @Ne Nat _ _; omega) e
  replace s1g := s1g.to fun o e => x1 _ o (by show @Ne Nat _ _; omega) e
  replace i2g := i2g.to fun o e => x1 _ o (by show @Ne Nat _ _; omega) e
  replace s2g := s2g.to fun o e => x1 _ o (by show @Ne Nat _ _; omega) e
  replace i3g := i3g.to fun o e => x1 _ o (by show @Ne Nat _ _; omega) e
  replace s3g := s3g.to fun o e => x1 _ o (by show @Ne Nat _ _; omega) e
  replace hzg : IsZip q2 (m + 5) (m + 3) (m + 4) .ellipsis := x1 _ _ (by show @Ne Nat _ _; omega) hzg
  replace szg : q2.objs.size = s.heap.objs.size := v2.1.trans szg
  replace kg : ∀ c o, c ≠ (m + 5) → c ≠ (m + 4) → c ≠ m → c ≠ (m + 1) → c ≠ (m + 2) → s.heap.get? c = some o → q2.get? c = some o := fun c o c1 c2 d1 d2 d3 e => x1 c o c2 (kg c o c1 c2 d1 d2 d3 e)
  clear x1
  refine wpAny_bind (wpAny_letGo (wpAny_pure ?_))
  refine wpAny_bind (wpAny_bind (wpAny_onRaise ?_))
  show wpAny _ _ (Builtin.SmallTypes.nextOf (.ref (m + 2)) >>= _) _ _ _
  refine wpAny_bind (SK.nextItem i3g s3g e3 fun p3 i3n u3 => wpAny_pure ?_)
  have x1 : ∀ c o, c ≠ (m + 2) → q2.get? c = some o → p3.get? c = some o := fun c o c1 e => u3.extBut _ _ c1 e
  replace hTOg : IsTupA p3 (m + 4) #[y1, y2, o3] := x1 _ _ (by show @Ne Nat _ _; omega) hTOg
  replace i1g := i1g.to fun o e => x1 _ o (by show @Ne Nat _ _; omega) e
  replace s1g := s1g.to fun o e => x1 _ o (by show @Ne Nat _ _; omega) e
  replace i2g := i2g.to fun o e => x1 _ o (by show @Ne Nat _ _; omega) e
  replace s2g := s2g.to fun o e => x1 _ o (by show @Ne Nat _ _; omega) e
  replace s3g := s3g.to fun o e => x1 _ o (by show @Ne Nat _ _; omega) e
  clear i3g; have i3g := i3n; clear i3n
  replace hzg : IsZip p3 (m + 5) (m + 3) (m + 4) .ellipsis := x1 _ _ (by show @Ne Nat _ _; omega) hzg
  replace szg : p3.objs.size = s.heap.objs.size := u3.1.trans szg
  replace kg : ∀ c o, c ≠ (m + 5) → c ≠ (m + 4) → c ≠ m → c ≠ (m + 1) → c ≠ (m + 2) → s.heap.get? c = some o → p3.get? c = some o := fun c o c1 c2 d1 d2 d3 e => x1 c o d3 (kg c o c1 c2 d1 d2 d3 e)
  refine wpAny_bind (wpAny_seqItems hTOg rfl ?_)
  refine wpAny_bind (wpAny_updateSeq_tup hTOg (by simp) fun q3 hTOn v3 => ?_)
  replace hTOg : IsTupA q3 (m + 4) #[y1, y2, y3] := hTOn
  clear hTOn x1
  have x1 : ∀ c o, c ≠ (m + 4) → p3.get? c = some o → q3.get? c = some o := fun c o c1 e => v3.extBut _ _ c1 e
  replace i1g := i1g.to fun o e => x1 _ o (by show @Ne Nat _ _; omega) e
  replace s1g := s1g.to fun o e => x1 _ o (by show @Ne Nat _ _; omega) e
  replace i2g := i2g.to fun o e => x1 _ o (by show @Ne Nat _ _; omega) e
  replace s2g := s2g.to fun o e => x1 _ o (by show @Ne Nat _ _; omega) e
  replace i3g := i3g.to fun o e => x1 _ o (by show @Ne Nat _ _; omega) e
  replace s3g := s3g.to fun o e => x1 _ o (by show @Ne Nat _ _; omega) e
  replace hzg : IsZip q3 (m + 5) (m + 3) (m + 4) .ellipsis := x1 _ _ (by show @Ne Nat _ _; omega) hzg
  replace szg : q3.objs.size = s.heap.objs.size := v3.1.trans szg
  replace kg : ∀ c o, c ≠ (m + 5) → c ≠ (m + 4) → c ≠ m → c ≠ (m + 1) → c ≠ (m + 2) → s.heap.get? c = some o → q3.get? c = some o := fun c o c1 c2 d1 d2 d3 e => x1 c o c2 (kg c o c1 c2 d1 d2 d3 e)
  clear x1
  refine wpAny_bind (wpAny_letGo (wpAny_pure (wpAny_pure ?_)))
  refine wpAny_bind (wpAny_seqItems hTOg rfl ?_)
  refine wpAny_bind (wpAny_newTuple ?_)
  have hzlt : (m + 5) < q3.objs.size := Heap.lt_size hzg
  show wpAny _ _ (Builtin.SmallTypes.ownedTupleHandOut (.ref (m + 5)) (.ref q3.objs.size) >>= _) _ _ _
  refine wpAny_bind ?_
  unfold Builtin.SmallTypes.ownedTupleHandOut
  have hz6 : IsZip (q3.push { cls := .type "tuple", data := .seq #[y1, y2, y3] }) (m + 5) (m + 3) (m + 4) .ellipsis := Heap.get?_push_of_some _ hzg
  refine wpAny_bind (wpAny_setField_rec hz6 (by simp) fun r7 hz7 t7 => ?_)
  replace hz7 : IsZip r7 (m + 5) (m + 3) (m + 4) (rawInt q3.objs.size) := hz7
  refine wpAny_setField_rec hz7 (by simp) fun r8 hz8 t8 => ?_
  replace hz8 : IsZip r8 (m + 5) (m + 3) (m + 4) (rawInt q3.objs.size) := hz8
  have up : ∀ c o, c ≠ (m + 5) → q3.get? c = some o → r8.get? c = some o := fun c o c1 e => t8.extBut _ _ c1 (t7.extBut _ _ c1 (Heap.get?_push_of_some _ e))
  have hT8 : IsTupA r8 q3.objs.size #[y1, y2, y3] := t8.extBut _ _ (Nat.ne_of_gt hzlt) (t7.extBut _ _ (Nat.ne_of_gt hzlt) (Heap.get?_push_size _ rfl))
  have hz9 : r8.objs.size = q3.objs.size + 1 := by rw [t8.1, t7.1, Heap.size_push]
  rw [szg] at hz8 hT8 hz9
  refine wpAny_pure ⟨_, rfl, ?_⟩
  show Q (.ref q3.objs.size) _
  rw [szg]
  exact hQ r8 hz8 (up _ _ (by show @Ne Nat _ _; omega) hTOg) (i1g.to fun o e => up _ o (by show @Ne Nat _ _; omega) e) (i2g.to fun o e => up _ o (by show @Ne Nat _ _; omega) e) (i3g.to fun o e => up _ o (by show @Ne Nat _ _; omega) e) hT8 hz9 fun c o c1 c2 d1 d2 d3 e => up c o c1 (kg c o c1 c2 d1 d2 d3 e)
theorem zip3_next_end {m : Nat} {b1 b2 b3 : SK} {l1 l2 l3 : Nat} {k : Nat} {x1 x2 x3 : Array Value} {o1 o2 o3 : Value} {Q : Fin → Shared → Prop} (hh : A.handled = none) (a1 : l1 < m) (a2 : l2 < m) (a3 : l3 < m)
    (hz : IsZip s.heap (m + 5) (m + 3) (m + 4) .none) (hTI : IsTupA s.heap (m + 3) #[.ref m, .ref (m + 1), .ref (m + 2)]) (hTO : IsTupA s.heap (m + 4) #[o1, o2, o3])
    (h1 : b1.It s.heap m l1 k) (h2 : b2.It s.heap (m + 1) l2 k) (h3 : b3.It s.heap (m + 2) l3 k) (s1 : b1.Sq s.heap l1 x1) (s2 : b2.Sq s.heap l2 x2) (s3 : b3.Sq s.heap l3 x3) (hend : x1[k]? = none ∨ x2[k]? = none ∨ x3[k]? = none)
    (hE : ∀ h' e, (∀ c o, c ≠ (m + 5) → c ≠ (m + 4) → c ≠ m → c ≠ (m + 1) → c ≠ (m + 2) → s.heap.get? c = some o → h'.get? c = some o) → (∃ o, h'.get? e = some o ∧ o.cls = .type "StopIteration") → E (.ref e) { s with heap := h' }) :
    wpAny (model prog w) A (Builtin.«zip.__next__» ⟨[.ref (m + 5)], []⟩) Q E s := by
  show wpAny _ _ (field (.ref (m + 5)) 2 >>= _) _ _ _
  refine wpAny_bind (wpAny_field hz rfl (x := .bool false) rfl ?_)
  show wpAny _ _ (field (.ref (m + 5)) 3 >>= _) _ _ _
  refine wpAny_bind (wpAny_field hz rfl (x := .ref (m + 3)) rfl ?_)
  refine wpAny_bind (wpAny_seqItems hTI rfl ?_)
  show wpAny _ _ (Builtin.SmallTypes.ownedTupleIsFree (.ref (m + 5)) >>= _) _ _ _
  refine wpAny_bind ?_
  unfold Builtin.SmallTypes.ownedTupleIsFree
  refine wpAny_bind (wpAny_field hz rfl (x := .none) rfl (wpAny_pure ?_))
  simp only [if_true]
  refine wpAny_bind (wpAny_rule ?_)
  refine wpAny_bind (wpAny_field hz rfl (x := .ref (m + 4)) rfl ?_)
  refine wpAny_bind (wpAny_setField_rec hz (by simp) fun g1 hz1 t1 => ?_)
  replace hz1 : IsZip g1 (m + 5) (m + 3) (m + 4) .ellipsis := hz1
  have ext1 : ∀ c o, c ≠ (m + 5) → s.heap.get? c = some o → g1.get? c = some o := fun c o c1 e => t1.extBut _ _ c1 e
  refine wpAny_bind ?_
  simp only [List.zipIdx_cons, List.zipIdx_nil, List.forIn_cons, List.forIn_nil]
  have hTOg : IsTupA g1 (m + 4) #[o1, o2, o3] := ext1 _ _ (by show @Ne Nat _ _; omega) hTO
  have i1g : b1.It g1 m l1 k := h1.to fun o e => ext1 _ o (by show @Ne Nat _ _; omega) e
  have s1g : b1.Sq g1 l1 x1 := s1.to fun o e => ext1 _ o (by show @Ne Nat _ _; omega) e
  have i2g : b2.It g1 (m + 1) l2 k := h2.to fun o e => ext1 _ o (by show @Ne Nat _ _; omega) e
  have s2g : b2.Sq g1 l2 x2 := s2.to fun o e => ext1 _ o (by show @Ne Nat _ _; omega) e
  have i3g : b3.It g1 (m + 2) l3 k := h3.to fun o e => ext1 _ o (by show @Ne Nat _ _; omega) e
  have s3g : b3.Sq g1 l3 x3 := s3.to fun o e => ext1 _ o (by show @Ne Nat _ _; omega) e
  have hzg := hz1
  have kg : ∀ c o, c ≠ (m + 5) → c ≠ (m + 4) → c ≠ m → c ≠ (m + 1) → c ≠ (m + 2) → s.heap.get? c = some o → g1.get? c = some o := fun c o c1 c2 d1 d2 d3 e => ext1 c o c1 e
  refine wpAny_bind (wpAny_bind (wpAny_onRaise ?_))
  show wpAny _ _ (Builtin.SmallTypes.nextOf (.ref m) >>= _) _ _ _
  cases y1 : x1[k]? with
  | none =>
    refine wpAny_bind (SK.nextEnd hh i1g s1g y1 fun f1 e u1 he => ?_)
    obtain ⟨oe, hoe, hce⟩ := he
    have hz2 : IsZip f1 (m + 5) (m + 3) (m + 4) .ellipsis := u1 _ _ (by show @Ne Nat _ _; omega) hzg
    have hez : e ≠ (m + 5) := fun x => by subst x; rw [hz2] at hoe; cases hoe; simp at hce
    exact wpAny_setField_rec hz2 (by simp) fun f3 _ t3 => hE f3 e (fun c o c1 c2 d1 d2 d3 x => t3.extBut _ _ c1 (u1 _ _ d1 (kg c o c1 c2 d1 d2 d3 x))) ⟨oe, t3.extBut _ _ hez hoe, hce⟩
  | some w1 =>
    refine wpAny_bind (SK.nextItem i1g s1g y1 fun p1 i1n u1 => wpAny_pure ?_)
    have x1 : ∀ c o, c ≠ m → g1.get? c = some o → p1.get? c = some o := fun c o c1 e => u1.extBut _ _ c1 e
    replace hTOg : IsTupA p1 (m + 4) #[o1, o2, o3] := x1 _ _ (by show @Ne Nat _ _; omega) hTOg
    replace s1g := s1g.to fun o e => x1 _ o (by show @Ne Nat _ _; omega) e
    replace i2g := i2g.to fun o e => x1 _ o (by show @Ne Nat _ _; omega) e
    replace s2g := s2g.to fun o e => x1 _ o (by show @Ne Nat _ _; omega) e
    replace i3g := i3g.to fun o e => x1 _ o (by show @Ne Nat _ _; omega) e
    replace s3g := s3g.to fun o e => x1 _ o (by show @Ne Nat _ _; omega) e
    replace hzg : IsZip p1 (m + 5) (m + 3) (m + 4) .ellipsis := x1 _ _ (by show @Ne Nat _ _; omega) hzg
    replace kg : ∀ c o, c ≠ (m + 5) → c ≠ (m + 4) → c ≠ m → c ≠ (m + 1) → c ≠ (m + 2) → s.heap.get? c = some o → p1.get? c = some o := fun c o c1 c2 d1 d2 d3 e => x1 c o d1 (kg c o c1 c2 d1 d2 d3 e)
    refine wpAny_bind (wpAny_seqItems hTOg rfl ?_)
    refine wpAny_bind (wpAny_updateSeq_tup hTOg (by simp) fun q1 hTOn v1 => ?_)
    replace hTOg : IsTupA q1 (m + 4) #[w1, o2, o3] := hTOn
    clear hTOn x1 i1g
    have x1 : ∀ c o, c ≠ (m + 4) → p1.get? c = some o → q1.get? c = some o := fun c o c1 e => v1.extBut _ _ c1 e
    replace s1g := s1g.to fun o e => x1 _ o (by show @Ne Nat _ _; omega) e
    replace i2g := i2g.to fun o e => x1 _ o (by show @Ne Nat _ _; omega) e
    replace s2g := s2g.to fun o e => x1 _ o (by show @Ne Nat _ _; omega) e
    replace i3g := i3g.to fun o e => x1 _ o (by show @Ne Nat _ _; omega) e
    replace s3g := s3g.to fun o e => x1 _ o (by show @Ne Nat _ _; omega) e
    replace hzg : IsZip q1 (m + 5) (m + 3) (m + 4) .ellipsis := x1 _ _ (by show @Ne Nat _ _; omega) hzg
    replace kg : ∀ c o, c ≠ (m + 5) → c ≠ (m + 4) → c ≠ m → c ≠ (m + 1) → c ≠ (m + 2) → s.heap.get? c = some o → q1.get? c = some o := fun c o c1 c2 d1 d2 d3 e => x1 c o c2 (kg c o c1 c2 d1 d2 d3 e)
    clear x1
    refine wpAny_bind (wpAny_letGo (wpAny_pure ?_))
    refine wpAny_bind (wpAny_bind (wpAny_onRaise ?_))
    show wpAny _ _ (Builtin.SmallTypes.nextOf (.ref (m + 1)) >>= _) _ _ _
    cases y2 : x2[k]? with
    | none =>
      refine wpAny_bind (SK.nextEnd hh i2g s2g y2 fun f1 e u1 he => ?_)
      obtain ⟨oe, hoe, hce⟩ := he
      have hz2 : IsZip f1 (m + 5) (m + 3) (m + 4) .ellipsis := u1 _ _ (by show @Ne Nat _ _; omega) hzg
      have hez : e ≠ (m + 5) := fun x => by subst x; rw [hz2] at hoe; cases hoe; simp at hce
      exact wpAny_setField_rec hz2 (by simp) fun f3 _ t3 => hE f3 e (fun c o c1 c2 d1 d2 d3 x => t3.extBut _ _ c1 (u1 _ _ d2 (kg c o c1 c2 d1 d2 d3 x))) ⟨oe, t3.extBut _ _ hez hoe, hce⟩
    | some w2 =>
      refine wpAny_bind (SK.nextItem i2g s2g y2 fun p2 i2n u2 => wpAny_pure ?_)
      have x1 : ∀ c o, c ≠ (m + 1) → q1.get? c = some o → p2.get? c = some o := fun c o c1 e => u2.extBut _ _ c1 e
      replace hTOg : IsTupA p2 (m + 4) #[w1, o2, o3] := x1 _ _ (by show @Ne Nat _ _; omega) hTOg
      replace s1g := s1g.to fun o e => x1 _ o (by show @Ne Nat _ _; omega) e
      replace s2g := s2g.to fun o e => x1 _ o (by show @Ne Nat _ _; omega) e
      replace i3g := i3g.to fun o e => x1 _ o (by show @Ne Nat _ _; omega) e
      replace s3g := s3g.to fun o e => x1 _ o (by show @Ne Nat _ _; omega) e
      replace hzg : IsZip p2 (m + 5) (m + 3) (m + 4) .ellipsis := x1 _ _ (by show @Ne Nat _ _; omega) hzg
      replace kg : ∀ c o, c ≠ (m + 5) → c ≠ (m + 4) → c ≠ m → c ≠ (m + 1) → c ≠ (m + 2) → s.heap.get? c = some o → p2.get? c = some o := fun c o c1 c2 d1 d2 d3 e => x1 c o d2 (kg c o c1 c2 d1 d2 d3 e)
      refine wpAny_bind (wpAny_seqItems hTOg rfl ?_)
      refine wpAny_bind (wpAny_updateSeq_tup hTOg (by simp) fun q2 hTOn v2 => ?_)
      replace hTOg : IsTupA q2 (m + 4) #[w1, w2, o3] := hTOn
      clear hTOn x1 i2g
      have x1 : ∀ c o, c ≠ (m + 4) → p2.get? c = some o → q2.get? c = some o := fun c o c1 e => v2.extBut _ _ c1 e
      replace s1g := s1g.to fun o e => x1 _ o (by show @Ne Nat _ _; omega) e
      replace s2g := s2g.to fun o e => x1 _ o (by show @Ne Nat _ _; omega) e
      replace i3g := i3g.to fun o e => x1 _ o (by show @Ne Nat _ _; omega) e
      replace s3g := s3g.to fun o e => x1 _ o (by show @Ne Nat _ _; omega) e
      replace hzg : IsZip q2 (m + 5) (m + 3) (m + 4) .ellipsis := x1 _ _ (by show @Ne Nat _ _; omega) hzg
      replace kg : ∀ c o, c ≠ (m + 5) → c ≠ (m + 4) → c ≠ m → c ≠ (m + 1) → c ≠ (m + 2) → s.heap.get? c = some o → q2.get? c = some o := fun c o c1 c2 d1 d2 d3 e => x1 c o c2 (kg c o c1 c2 d1 d2 d3 e)
      clear x1
      refine wpAny_bind (wpAny_letGo (wpAny_pure ?_))
      refine wpAny_bind (wpAny_bind (wpAny_onRaise ?_))
      show wpAny _ _ (Builtin.SmallTypes.nextOf (.ref (m + 2)) >>= _) _ _ _
      have y3 : x3[k]? = none := by
        rcases hend with h | h | h
        · rw [h] at y1; cases y1
        · rw [h] at y2; cases y2
        · exact h
      refine wpAny_bind (SK.nextEnd hh i3g s3g y3 fun f1 e u1 he => ?_)
      obtain ⟨oe, hoe, hce⟩ := he
      have hz2 : IsZip f1 (m + 5) (m + 3) (m + 4) .ellipsis := u1 _ _ (by show @Ne Nat _ _; omega) hzg
      have hez : e ≠ (m + 5) := fun x => by subst x; rw [hz2] at hoe; cases hoe; simp at hce
      exact wpAny_setField_rec hz2 (by simp) fun f3 _ t3 => hE f3 e (fun c o c1 c2 d1 d2 d3 x => t3.extBut _ _ c1 (u1 _ _ d3 (kg c o c1 c2 d1 d2 d3 x))) ⟨oe, t3.extBut _ _ hez hoe, hce⟩
theorem pyNext_zip3_item {m : Nat} {b1 b2 b3 : SK} {l1 l2 l3 : Nat} {k : Nat} {x1 x2 x3 : Array Value} {y1 y2 y3 : Value} {o1 o2 o3 : Value} {Q : Option Value → Shared → Prop} (a1 : l1 < m) (a2 : l2 < m) (a3 : l3 < m)
    (hz : IsZip s.heap (m + 5) (m + 3) (m + 4) .none) (hTI : IsTupA s.heap (m + 3) #[.ref m, .ref (m + 1), .ref (m + 2)]) (hTO : IsTupA s.heap (m + 4) #[o1, o2, o3])
    (h1 : b1.It s.heap m l1 k) (h2 : b2.It s.heap (m + 1) l2 k) (h3 : b3.It s.heap (m + 2) l3 k) (s1 : b1.Sq s.heap l1 x1) (s2 : b2.Sq s.heap l2 x2) (s3 : b3.Sq s.heap l3 x3) (e1 : x1[k]? = some y1) (e2 : x2[k]? = some y2) (e3 : x3[k]? = some y3)
    (hQ : ∀ h', IsZip h' (m + 5) (m + 3) (m + 4) (rawInt s.heap.objs.size) → IsTupA h' (m + 4) #[y1, y2, y3] → b1.It h' m l1 (k + 1) → b2.It h' (m + 1) l2 (k + 1) → b3.It h' (m + 2) l3 (k + 1) → IsTupA h' s.heap.objs.size #[y1, y2, y3] → h'.objs.size = s.heap.objs.size + 1 →
      (∀ c o, c ≠ (m + 5) → c ≠ (m + 4) → c ≠ m → c ≠ (m + 1) → c ≠ (m + 2) → s.heap.get? c = some o → h'.get? c = some o) → Q (some (.ref s.heap.objs.size)) { s with heap := h' }) :
    wpAny (model prog w) A (pyNext (.ref (m + 5))) Q E s := by
  have hT : s.TypeIs (.ref (m + 5)) "zip" := ⟨_, hz, rfl⟩
  unfold pyNext
  exact wpAny_bind (wpAny_attempt (wpAny_callSpecial?_slot (name := Str.ofString "__next__") hT F.slot_zip_next
    (wpAny_call_entry F.slot_zip_next hT F.entry_zip_next
      (zip3_next_item a1 a2 a3 hz hTI hTO h1 h2 h3 s1 s2 s3 e1 e2 e3 fun h' c0 c1 c2 c3 c4 c5 c6 c7 => wpAny_pure (hQ h' c0 c1 c2 c3 c4 c5 c6 c7)) (F.args_zip_next_1 _))))
theorem pyNext_zip3_end {m : Nat} {b1 b2 b3 : SK} {l1 l2 l3 : Nat} {k : Nat} {x1 x2 x3 : Array Value} {o1 o2 o3 : Value} {Q : Option Value → Shared → Prop} (hh : A.handled = none) (a1 : l1 < m) (a2 : l2 < m) (a3 : l3 < m)
    (hz : IsZip s.heap (m + 5) (m + 3) (m + 4) .none) (hTI : IsTupA s.heap (m + 3) #[.ref m, .ref (m + 1), .ref (m + 2)]) (hTO : IsTupA s.heap (m + 4) #[o1, o2, o3])
    (h1 : b1.It s.heap m l1 k) (h2 : b2.It s.heap (m + 1) l2 k) (h3 : b3.It s.heap (m + 2) l3 k) (s1 : b1.Sq s.heap l1 x1) (s2 : b2.Sq s.heap l2 x2) (s3 : b3.Sq s.heap l3 x3) (hend : x1[k]? = none ∨ x2[k]? = none ∨ x3[k]? = none)
    (hQ : ∀ h', (∀ c o, c ≠ (m + 5) → c ≠ (m + 4) → c ≠ m → c ≠ (m + 1) → c ≠ (m + 2) → s.heap.get? c = some o → h'.get? c = some o) → Q none { s with heap := h' }) : wpAny (model prog w) A (pyNext (.ref (m + 5))) Q E s := by
  have hT : s.TypeIs (.ref (m + 5)) "zip" := ⟨_, hz, rfl⟩
  unfold pyNext
  refine wpAny_bind (wpAny_attempt (wpAny_callSpecial?_slot (name := Str.ofString "__next__") hT F.slot_zip_next
    (wpAny_call_entry F.slot_zip_next hT F.entry_zip_next (zip3_next_end hh a1 a2 a3 hz hTI hTO h1 h2 h3 s1 s2 s3 hend fun h' e hk he => ?_) (F.args_zip_next_1 _))))
  obtain ⟨o, ho, hc⟩ := he
  refine wpAny_bind (wpAny_isInstance (T := "StopIteration") (b := true) ⟨o, ho, hc⟩ isSubtype_stop ?_)
  exact wpAny_pure (hQ _ hk)
end
end TL
namespace TL
open PySem PySem.Spec PyProof.Rows L2
def SK.nm : SK → String
  | .l => "list_iterator"
  | .t => "tuple_iterator"
def SK.ob (b : SK) (l : Addr) : Obj := { cls := .type b.nm, data := .fields #[.ref l, .int 0 0] }
theorem SK.ob_it {b : SK} {h : Heap} {i l : Addr} (e : h.get? i = some (b.ob l)) : b.It h i l 0 := by
  cases b with
  | l => exact ⟨_, e, rfl, rfl⟩
  | t => exact ⟨_, e, rfl, rfl⟩
section
variable {prog : Program} {w : World} {A : Around} {E : Value → Shared → Prop} {s : Shared}
theorem SK.pyIter {b : SK} {l : Addr} {items : Array Value} {Q : Value → Shared → Prop} (h : b.Sq s.heap l items) (hQ : Q (.ref s.heap.objs.size) { s with heap := s.heap.push (b.ob l) }) : wpAny (model prog w) A (PySem.pyIter (.ref l)) Q E s := by
  cases b with
  | l => exact wpAny_pyIter_list h hQ
  | t => exact wpAny_pyIter_tuple h hQ
end
theorem SK.Sq.push {b : SK} {h : Heap} {l : Addr} {xs : Array Value} (x : b.Sq h l xs) (o : Obj) : b.Sq (h.push o) l xs := x.to fun _ e => Heap.get?_push_of_some _ e
theorem typeCall_zip_3 (a b c : Value) : checkTypeCall "zip" ⟨[a, b, c], []⟩ = pure () := by kernel_rfl
theorem newCall_zip_3 (a b c : Value) : checkBuiltinCall "zip.__new__" ⟨[.type "zip", a, b, c], []⟩ = pure () := by kernel_rfl
theorem args_object_init_4 (a b c d : Value) : argsOk "object.__init__" ⟨[a, b, c, d], []⟩ := by
  unfold argsOk; rw [signature?_of (id := "object.__init__") (n := ['_', '_', 't', 'i', 'n', 'i', '_', '_']) (o := ['t', 'c', 'e', 'j', 'b', 'o']) (by kernel_rfl) F.owner_object]; kernel_rfl
section
variable {prog : Program} {w : World} {A : Around} {E : Value → Shared → Prop} {s : Shared}
end
abbrev zh3_1 (b1 : SK) (b2 : SK) (b3 : SK) (l1 : Addr) (l2 : Addr) (l3 : Addr) (h : Heap) : Heap := Heap.push (h) (b1.ob l1)
abbrev zh3_2 (b1 : SK) (b2 : SK) (b3 : SK) (l1 : Addr) (l2 : Addr) (l3 : Addr) (h : Heap) : Heap := Heap.push (zh3_1 b1 b2 b3 l1 l2 l3 h) (b2.ob l2)
abbrev zh3_3 (b1 : SK) (b2 : SK) (b3 : SK) (l1 : Addr) (l2 : Addr) (l3 : Addr) (h : Heap) : Heap := Heap.push (zh3_2 b1 b2 b3 l1 l2 l3 h) (b3.ob l3)
abbrev zh3_4 (b1 : SK) (b2 : SK) (b3 : SK) (l1 : Addr) (l2 : Addr) (l3 : Addr) (h : Heap) : Heap := Heap.push (zh3_3 b1 b2 b3 l1 l2 l3 h) { cls := .type "tuple", data := .seq #[.ref h.objs.size, .ref (zh3_1 b1 b2 b3 l1 l2 l3 h).objs.size, .ref (zh3_2 b1 b2 b3 l1 l2 l3 h).objs.size] }
abbrev zh3_5 (b1 : SK) (b2 : SK) (b3 : SK) (l1 : Addr) (l2 : Addr) (l3 : Addr) (h : Heap) : Heap := Heap.push (zh3_4 b1 b2 b3 l1 l2 l3 h) { cls := .type "tuple", data := .seq #[.none, .none, .none] }
abbrev zh3_6 (b1 : SK) (b2 : SK) (b3 : SK) (l1 : Addr) (l2 : Addr) (l3 : Addr) (h : Heap) : Heap := Heap.push (zh3_5 b1 b2 b3 l1 l2 l3 h) { cls := .type "zip", data := .fields #[.none, .bool false, .bool false, .ref (zh3_3 b1 b2 b3 l1 l2 l3 h).objs.size, .ref (zh3_4 b1 b2 b3 l1 l2 l3 h).objs.size] }
theorem meets_zip3_new (b1 : SK) (b2 : SK) (b3 : SK) (l1 : Addr) (l2 : Addr) (l3 : Addr) (x1 : Array Value) (x2 : Array Value) (x3 : Array Value) :
    Meets (Builtin.«zip.__new__» ⟨[.type "zip", .ref l1, .ref l2, .ref l3], []⟩) (fun _ R s => b1.Sq s.heap l1 x1 ∧ b2.Sq s.heap l2 x2 ∧ b3.Sq s.heap l3 x3 ∧
      R (.ok (.ret (.ref (zh3_5 b1 b2 b3 l1 l2 l3 s.heap).objs.size))) { s with heap := zh3_6 b1 b2 b3 l1 l2 l3 s.heap }) :=
  .of_wp fun prog w A R s h => by
    obtain ⟨hp, g, d, tk, os⟩ := s; obtain ⟨s1, s2, s3, h⟩ := h
    have hsub := sub_zip
    have q1 : b1.Sq (Shared.heap ⟨hp, g, d, tk, os⟩) l1 x1 := s1
    have q2 : b2.Sq (Shared.heap ⟨zh3_1 b1 b2 b3 l1 l2 l3 hp, g, d, tk, os⟩) l2 x2 := SK.Sq.to s2 fun _ e => Heap.get?_push_of_some _ (e)
    have q3 : b3.Sq (Shared.heap ⟨zh3_2 b1 b2 b3 l1 l2 l3 hp, g, d, tk, os⟩) l3 x3 := SK.Sq.to s3 fun _ e => Heap.get?_push_of_some _ (Heap.get?_push_of_some _ (e))
    wp_walk using SK.pyIter q1, SK.pyIter q2, SK.pyIter q3
    exact ⟨_, rfl, h⟩
section
variable {prog : Program} {w : World} {A : Around} {E : Value → Shared → Prop} {s : Shared}
theorem call_zip3 {b1 b2 b3 : SK} {l1 l2 l3 : Addr} {x1 x2 x3 : Array Value} {Q : Value → Shared → Prop} (s1 : b1.Sq s.heap l1 x1) (s2 : b2.Sq s.heap l2 x2) (s3 : b3.Sq s.heap l3 x3)
    (h : ∀ h', IsZip h' (s.heap.objs.size + 5) (s.heap.objs.size + 3) (s.heap.objs.size + 4) .none → IsTupA h' (s.heap.objs.size + 3) #[.ref s.heap.objs.size, .ref (s.heap.objs.size + 1), .ref (s.heap.objs.size + 2)] → IsTupA h' (s.heap.objs.size + 4) #[.none, .none, .none] → b1.It h' s.heap.objs.size l1 0 → b2.It h' (s.heap.objs.size + 1) l2 0 → b3.It h' (s.heap.objs.size + 2) l3 0 →
      (∀ c o, s.heap.get? c = some o → h'.get? c = some o) → Q (.ref (s.heap.objs.size + 5)) { s with heap := h' }) :
    wpAny (model prog w) A (call (.type "zip") [.ref l1, .ref l2, .ref l3]) Q E s := by
  refine callType_new F.called_zip (by decide) (typeCall_zip_3 _ _ _) (newCall_zip_3 _ _ _) (fun obj => args_object_init_4 obj _ _ _) F.entry_zip_new
    (meets_zip3_new b1 b2 b3 l1 l2 l3 x1 x2 x3) ⟨s1, s2, s3, ?_⟩
  have z1 : (zh3_1 b1 b2 b3 l1 l2 l3 s.heap).objs.size = (s.heap.objs.size + 1) := Heap.size_push ..
  have z2 : (zh3_2 b1 b2 b3 l1 l2 l3 s.heap).objs.size = (s.heap.objs.size + 2) := by rw [Heap.size_push, z1]
  have z3 : (zh3_3 b1 b2 b3 l1 l2 l3 s.heap).objs.size = (s.heap.objs.size + 3) := by rw [Heap.size_push, z2]
  have z4 : (zh3_4 b1 b2 b3 l1 l2 l3 s.heap).objs.size = (s.heap.objs.size + 4) := by rw [Heap.size_push, z3]
  have z5 : (zh3_5 b1 b2 b3 l1 l2 l3 s.heap).objs.size = (s.heap.objs.size + 5) := by rw [Heap.size_push, z4]
  have g0 : (zh3_6 b1 b2 b3 l1 l2 l3 s.heap).get? s.heap.objs.size = some _ := Heap.get?_push_of_some _ (Heap.get?_push_of_some _ (Heap.get?_push_of_some _ (Heap.get?_push_of_some _ (Heap.get?_push_of_some _ (Heap.get?_push_size _ rfl)))))
  have g1 : (zh3_6 b1 b2 b3 l1 l2 l3 s.heap).get? (zh3_1 b1 b2 b3 l1 l2 l3 s.heap).objs.size = some _ := Heap.get?_push_of_some _ (Heap.get?_push_of_some _ (Heap.get?_push_of_some _ (Heap.get?_push_of_some _ (Heap.get?_push_size _ rfl))))
  have g2 : (zh3_6 b1 b2 b3 l1 l2 l3 s.heap).get? (zh3_2 b1 b2 b3 l1 l2 l3 s.heap).objs.size = some _ := Heap.get?_push_of_some _ (Heap.get?_push_of_some _ (Heap.get?_push_of_some _ (Heap.get?_push_size _ rfl)))
  have g3 : (zh3_6 b1 b2 b3 l1 l2 l3 s.heap).get? (zh3_3 b1 b2 b3 l1 l2 l3 s.heap).objs.size = some _ := Heap.get?_push_of_some _ (Heap.get?_push_of_some _ (Heap.get?_push_size _ rfl))
  have g4 : (zh3_6 b1 b2 b3 l1 l2 l3 s.heap).get? (zh3_4 b1 b2 b3 l1 l2 l3 s.heap).objs.size = some _ := Heap.get?_push_of_some _ (Heap.get?_push_size _ rfl)
  have g5 : (zh3_6 b1 b2 b3 l1 l2 l3 s.heap).get? (zh3_5 b1 b2 b3 l1 l2 l3 s.heap).objs.size = some _ := Heap.get?_push_size _ rfl
  show _ ∧ _
  rw [z3, z4, z5] at g5
  rw [z1, z2, z3] at g3
  rw [z4] at g4
  rw [z1] at g1
  rw [z2] at g2
  rw [z5]
  exact ⟨⟨_, g5, rfl⟩, h _ g5 g3 g4 (SK.ob_it g0) (SK.ob_it g1) (SK.ob_it g2) fun c o x => Heap.get?_push_of_some _ (Heap.get?_push_of_some _ (Heap.get?_push_of_some _ (Heap.get?_push_of_some _ (Heap.get?_push_of_some _ (Heap.get?_push_of_some _ (x))))))⟩
end
end TL
namespace TL
open PySem PySem.Spec PyProof.Rows L2
theorem SK.inv {X : Cx} {pins : List (Addr × Obj)} {σ : L2.St} {H : Hp} {s : Shared} (b : SK) (I : Inv X pins σ H s) {a : Addr} {xs : List V} (h : b.SqV X.K H a xs) : ∃ its, Vals xs its ∧ b.Sq s.heap a its.toArray := by
  cases b with
  | l => obtain ⟨its, rv, p, _⟩ := I.list h; exact ⟨its, rv, p.isList⟩
  | t => obtain ⟨its, rv, p, _⟩ := I.tuple h; exact ⟨its, rv, p⟩
theorem SK.inj {X : Cx} {pins : List (Addr × Obj)} {σ : L2.St} {H : Hp} {s : Shared} (b : SK) (I : Inv X pins σ H s) {a : Addr} {xs ys : List V} (h : b.SqV X.K H a xs) (h2 : b.SqV X.K H a ys) : xs = ys := by
  cases b with
  | l => exact I.list_inj h h2
  | t => exact I.tuple_inj h h2
theorem SK.SqV.up {b : SK} {K : PySem.W.Frag} {F F' : Hp} {a : Addr} {xs : List V} (s : Same F F') (h : b.SqV K F a xs) : b.SqV K F' a xs := by
  cases b with
  | l => exact TL.SqL.up s h
  | t => exact TL.SqT.up s h
theorem seq_rep {K : PySem.W.Frag} {F : Hp} {d : D} {v : V} {l : List D} (r : Rep K F d v) (h : seqX d = some l) : ∃ (b : SK) (a : Addr) (xs : List V), v = .ref a ∧ b.SqV K F a xs ∧ Reps K F l xs := by
  cases r with
  | tup e rs => cases h; exact ⟨.t, _, _, rfl, .inl (.inl e), rs⟩
  | lst e rs => cases h; exact ⟨.l, _, _, rfl, .inl (.inl e), rs⟩
  | xtp e rs => cases h; exact ⟨.t, _, _, rfl, e.seq, rs⟩
  | _ => cases h
def Itz3 (K : PySem.W.Frag) (b1 b2 b3 : SK) (a1 a2 a3 : Addr) : It :=
  ⟨fun i H => ∃ (x1 x2 x3 : List V) (y1 y2 y3 : V), b1.SqV K H a1 x1 ∧ b2.SqV K H a2 x2 ∧ b3.SqV K H a3 x3 ∧ x1[i]? = some y1 ∧ x2[i]? = some y2 ∧ x3[i]? = some y3,
    fun i H v H' => ∃ (T : Addr) (y1 y2 y3 : V), v = .ref T ∧ H T = none ∧ H' = upd H T (.tup [y1, y2, y3]) ∧ (∀ xs, b1.SqV K H a1 xs → xs[i]? = some y1) ∧ (∀ xs, b2.SqV K H a2 xs → xs[i]? = some y2) ∧ (∀ xs, b3.SqV K H a3 xs → xs[i]? = some y3),
    fun i H => ∃ (x1 x2 x3 : List V), b1.SqV K H a1 x1 ∧ b2.SqV K H a2 x2 ∧ b3.SqV K H a3 x3 ∧ (x1.length ≤ i ∨ x2.length ≤ i ∨ x3.length ≤ i)⟩
theorem turn_zip3 {P : Program} {w : World} {K : PySem.W.Frag} {elts : List Expr} {kk : Nat} {tpos : Pos} {m : Nat} {b1 b2 b3 : SK} {a1 a2 a3 : Nat} (q1 : a1 < m) (q2 : a2 < m) (q3 : a3 < m) :
    Turn P w K (.Tuple elts kk tpos) (Itz3 K b1 b2 b3 a1 a2 a3) [(m + 5), (m + 3), (m + 4), m, (m + 1), (m + 2)] (m + 5) (fun i h => IsZip h (m + 5) (m + 3) (m + 4) .none ∧ IsTupA h (m + 3) #[.ref m, .ref (m + 1), .ref (m + 2)] ∧ (∃ o1 o2 o3, IsTupA h (m + 4) #[o1, o2, o3]) ∧ b1.It h m a1 i ∧ b2.It h (m + 1) a2 i ∧ b3.It h (m + 2) a3 i) where
  mem := by simp
  obj := fun i h st c hc => by
    obtain ⟨hz, hTI, ⟨o1, o2, o3, hTO⟩, h1, h2, h3⟩ := st
    have e' : c = (m + 5) ∨ c = (m + 3) ∨ c = (m + 4) ∨ c = m ∨ c = (m + 1) ∨ c = (m + 2) := by simpa using hc
    rcases e' with r | r | r | r | r | r
    · rw [r]; exact ⟨_, hz, fun v q => nomatch q⟩
    · rw [r]; exact ⟨_, hTI, fun v q => nomatch q⟩
    · rw [r]; exact ⟨_, hTO, fun v q => nomatch q⟩
    · rw [r]; exact h1.get
    · rw [r]; exact h2.get
    · rw [r]; exact h3.get
  keep := fun i h h' st k => by
    obtain ⟨hz, hTI, ⟨o1, o2, o3, hTO⟩, h1, h2, h3⟩ := st
    exact ⟨k _ (by simp) _ hz, k _ (by simp) _ hTI, ⟨_, _, _, k _ (by simp) _ hTO⟩, h1.to fun o q => k _ (by simp) o q, h2.to fun o q => k _ (by simp) o q, h3.to fun o q => k _ (by simp) o q⟩
  item := by
    intro X hP hw hK hc i pins s σ H E I hf st hg
    subst hP hw hK
    obtain ⟨hz, hTI, ⟨o1, o2, o3, hTO⟩, h1, h2, h3⟩ := st
    obtain ⟨x1, x2, x3, y1, y2, y3, p1, p2, p3, e1, e2, e3⟩ := hg
    obtain ⟨i1, v1, s1⟩ := b1.inv I p1
    obtain ⟨u1, hu1, ru1⟩ := v1.get e1
    obtain ⟨i2, v2, s2⟩ := b2.inv I p2
    obtain ⟨u2, hu2, ru2⟩ := v2.get e2
    obtain ⟨i3, v3, s3⟩ := b3.inv I p3
    obtain ⟨u3, hu3, ru3⟩ := v3.get e3
    have hzl : (m + 5) < s.heap.objs.size := Heap.lt_size hz
    refine pyNext_zip3_item q1 q2 q3 hz hTI hTO h1 h2 h3 s1 s2 s3 (by simpa using hu1) (by simpa using hu2) (by simpa using hu3) fun h' z' TO' k1 k2 k3 hT hsz hk => ?_
    refine ⟨_, rfl, wpAny_letOwnedTupleGo_zip (s := { s with heap := h' }) z' fun h'' z'' sb => ?_⟩
    have hT2 : h''.get? s.heap.objs.size = some { cls := .type "tuple", data := .seq #[u1, u2, u3] } := (sb.2 _ (Nat.ne_of_gt hzl)).trans hT
    have new : ObjOk X.prog X.w (upd H s.heap.objs.size (.tup [y1, y2, y3])) h'' s.heap.objs.size (.tup [y1, y2, y3]) :=
      ⟨by show 3 ≤ sizeLine; decide, [u1, u2, u3], .cons ru1 (.cons ru2 (.cons ru3 (.nil))), ⟨_, hT2, rfl, _, rfl⟩⟩
    have I1 : Inv X pins σ (upd H s.heap.objs.size (.tup [y1, y2, y3])) { s with heap := h'' } :=
      I.turnedNew (t' := s.toks) (ch := [(m + 5), (m + 3), (m + 4), m, (m + 1), (m + 2)]) (fun c o hb q => (sb.2 c (fun q' => hb (by simp [q']))).trans (hk c o (fun q' => hb (by simp [q'])) (fun q' => hb (by simp [q'])) (fun q' => hb (by simp [q'])) (fun q' => hb (by simp [q'])) (fun q' => hb (by simp [q'])) q)) hf (Nat.le_refl _) new
    refine ⟨.ref s.heap.objs.size, _, I1, rfl, ⟨_, y1, y2, y3, rfl, I.hok.fresh (Nat.le_refl _), rfl, fun l hl => by rw [b1.inj I hl p1]; exact e1, fun l hl => by rw [b2.inj I hl p2]; exact e2, fun l hl => by rw [b3.inj I hl p3]; exact e3⟩, ⟨z'', ?_, ⟨u1, u2, u3, ?_⟩, ?_, ?_, ?_⟩, fun c hcm => ?_⟩
    · exact (sb.2 _ (by show @Ne Nat _ _; omega)).trans (hk _ _ (by show @Ne Nat _ _; omega) (by show @Ne Nat _ _; omega) (by show @Ne Nat _ _; omega) (by show @Ne Nat _ _; omega) (by show @Ne Nat _ _; omega) hTI)
    · exact (sb.2 _ (by show @Ne Nat _ _; omega)).trans TO'
    · exact k1.to fun o q => (sb.2 _ (by show @Ne Nat _ _; omega)).trans q
    · exact k2.to fun o q => (sb.2 _ (by show @Ne Nat _ _; omega)).trans q
    · exact k3.to fun o q => (sb.2 _ (by show @Ne Nat _ _; omega)).trans q
    · have hlt : c < s.heap.objs.size := by
        have e' : c = (m + 5) ∨ c = (m + 3) ∨ c = (m + 4) ∨ c = m ∨ c = (m + 1) ∨ c = (m + 2) := by simpa using hcm
        rcases e' with r | r | r | r | r | r
        · rw [r]; exact hzl
        · rw [r]; exact Heap.lt_size hTI
        · rw [r]; exact Heap.lt_size hTO
        · rw [r]; obtain ⟨_, e1, _⟩ := h1.get; exact Heap.lt_size e1
        · rw [r]; obtain ⟨_, e1, _⟩ := h2.get; exact Heap.lt_size e1
        · rw [r]; obtain ⟨_, e1, _⟩ := h3.get; exact Heap.lt_size e1
      rw [upd_ne (Nat.ne_of_lt hlt)]
      exact (hf c hcm).1
  done := by
    intro X hP hw hK hc i pins s σ H E I hf st hg
    subst hP hw hK
    obtain ⟨hz, hTI, ⟨o1, o2, o3, hTO⟩, h1, h2, h3⟩ := st
    obtain ⟨x1, x2, x3, p1, p2, p3, hend⟩ := hg
    obtain ⟨i1, v1, s1⟩ := b1.inv I p1
    have l1 := v1.length
    obtain ⟨i2, v2, s2⟩ := b2.inv I p2
    have l2 := v2.length
    obtain ⟨i3, v3, s3⟩ := b3.inv I p3
    have l3 := v3.length
    have he : i1.toArray[i]? = none ∨ i2.toArray[i]? = none ∨ i3.toArray[i]? = none := by
      rcases hend with q | q | q
      · exact .inl (by simp; omega)
      · exact .inr (.inl (by simp; omega))
      · exact .inr (.inr (by simp; omega))
    exact pyNext_zip3_end (I.ok.hd hc) q1 q2 q3 hz hTI hTO h1 h2 h3 s1 s2 s3 he fun h' hk => ⟨rfl, I.turnedL (t' := s.toks) (ch := [(m + 5), (m + 3), (m + 4), m, (m + 1), (m + 2)]) (fun c o hb q =>
      hk c o (fun q' => hb (by simp [q'])) (fun q' => hb (by simp [q'])) (fun q' => hb (by simp [q'])) (fun q' => hb (by simp [q'])) (fun q' => hb (by simp [q'])) q) hf⟩
  self := fun A i s Q E st h => wpAny_pyIter_zip st.1 h
def iZip3 (K : PySem.W.Frag) (ta : TA) : TI := fun σ H R => ta σ H fun vs H1 => ∃ (b1 b2 b3 : SK) (a1 a2 a3 : Addr) (x1 x2 x3 : List V), vs = [.ref a1, .ref a2, .ref a3] ∧ b1.SqV K H1 a1 x1 ∧ b2.SqV K H1 a2 x2 ∧ b3.SqV K H1 a3 x3 ∧ R (Itz3 K b1 b2 b3 a1 a2 a3) H1
theorem pi_zip3 {X : Cx} {e1 e2 e3 : Expr} {ta : TA} {p pos tpos : Pos} {elts : List Expr} {kk : Nat} (hg : Gl X "zip") (hm : X.mg "zip" = none) (ha : PA X [e1, e2, e3] ta)
    (hs : starEach [e1, e2, e3] X.env = (false, eval e1 X.env) :: starEach [e2, e3] X.env := by rfl) (hpl : (backTo pos (starEach [e2, e3] X.env)).any (·.1) = false := by rfl) :
    PI X (.Tuple elts kk tpos) (.Call (.Name "zip" p) [e1, e2, e3] [] pos) (iZip3 X.K ta) := by
  refine ⟨fun pins s σ H R I h => ?_⟩
  refine Call_ (ld_blt I hg hm PyProof.Rows.boot_zip (PyProof.Rows.callWith_type1 (thn (ha.run pos pins s σ H _ I h) fun us s1 ⟨vs, H1, I1, r1, q1⟩ => ?_) hs hpl))
  obtain ⟨b1, b2, b3, a1, a2, a3, x1, x2, x3, ev, p1, p2, p3, q⟩ := q1
  subst ev
  cases r1 with
  | cons t1 r2 =>
    cases r2 with
    | cons t2 r3 =>
      cases r3 with
      | cons t3 r4 =>
        cases r4
        cases t1
        cases t2
        cases t3
        have fresh : ∀ c, c ∈ [s1.heap.objs.size + 5, s1.heap.objs.size + 3, s1.heap.objs.size + 4, s1.heap.objs.size, s1.heap.objs.size + 1, s1.heap.objs.size + 2] → FpOk X pins H1 c := fun c hcm => by
          have e' : c = s1.heap.objs.size + 5 ∨ c = s1.heap.objs.size + 3 ∨ c = s1.heap.objs.size + 4 ∨ c = s1.heap.objs.size ∨ c = s1.heap.objs.size + 1 ∨ c = s1.heap.objs.size + 2 := by simpa using hcm
          have hle : s1.heap.objs.size ≤ c := by
            rcases e' with z | z | z | z | z | z
            · rw [z]; exact Nat.le_add_right _ _
            · rw [z]; exact Nat.le_add_right _ _
            · rw [z]; exact Nat.le_add_right _ _
            · rw [z]; exact Nat.le_refl _
            · rw [z]; exact Nat.le_add_right _ _
            · rw [z]; exact Nat.le_add_right _ _
          exact I1.fpOk hle (I1.hok.fresh hle)
        obtain ⟨i1, v1, sq1⟩ := b1.inv I1 p1
        obtain ⟨_, w1⟩ := sq1.get
        obtain ⟨i2, v2, sq2⟩ := b2.inv I1 p2
        obtain ⟨_, w2⟩ := sq2.get
        obtain ⟨i3, v3, sq3⟩ := b3.inv I1 p3
        obtain ⟨_, w3⟩ := sq3.get
        refine call_zip3 sq1 sq2 sq3 fun h' hz hTI hTO k1 k2 k3 hk => wpAny_pyIter_zip hz ?_
        have I2 : Inv X pins σ H1 { s1 with heap := h' } := I1.kept (t' := s1.toks) hk
        exact ⟨s1.heap.objs.size + 5, [s1.heap.objs.size + 5, s1.heap.objs.size + 3, s1.heap.objs.size + 4, s1.heap.objs.size, s1.heap.objs.size + 1, s1.heap.objs.size + 2], _, _, H1, rfl, I2, turn_zip3 (m := s1.heap.objs.size) (Heap.lt_size w1) (Heap.lt_size w2) (Heap.lt_size w3), ⟨hz, hTI, ⟨_, _, _, hTO⟩, k1, k2, k3⟩, fresh, q⟩
theorem zip3L_get : ∀ {i : Nat} {d1 d2 d3 : List D} {d : D}, (zip3L d1 d2 d3)[i]? = some d → ∃ c1 c2 c3, d = .tup [c1, c2, c3] ∧ d1[i]? = some c1 ∧ d2[i]? = some c2 ∧ d3[i]? = some c3
  | _, [], _, _, _, h => by simp [zip3L] at h
  | _, _ :: _, [], _, _, h => by simp [zip3L] at h
  | _, _ :: _, _ :: _, [], _, h => by simp [zip3L] at h
  | 0, a :: as, b :: bs, c :: cs, d, h => by simp [zip3L] at h; exact ⟨a, b, c, h.symm, rfl, rfl, rfl⟩
  | i + 1, a :: as, b :: bs, c :: cs, d, h => by
    obtain ⟨c1, c2, c3, e, h1, h2, h3⟩ := zip3L_get (i := i) (d1 := as) (d2 := bs) (d3 := cs) (d := d) (by simpa [zip3L] using h)
    exact ⟨c1, c2, c3, e, by simpa using h1, by simpa using h2, by simpa using h3⟩
theorem zip3L_end : ∀ {i : Nat} {d1 d2 d3 : List D}, (zip3L d1 d2 d3).length ≤ i → d1.length ≤ i ∨ d2.length ≤ i ∨ d3.length ≤ i
  | _, [], _, _, h => .inl (Nat.zero_le _)
  | _, _ :: _, [], _, h => .inr (.inl (Nat.zero_le _))
  | _, _ :: _, _ :: _, [], h => .inr (.inr (Nat.zero_le _))
  | 0, a :: as, b :: bs, c :: cs, h => by simp [zip3L] at h
  | i + 1, a :: as, b :: bs, c :: cs, h => by
    have := zip3L_end (i := i) (d1 := as) (d2 := bs) (d3 := cs) (by simpa [zip3L] using h)
    simpa using this
theorem follows_zip3 {K : PySem.W.Frag} {F0 : Hp} {b1 b2 b3 : SK} {a1 a2 a3 : Addr} {d1 d2 d3 : List D} {x1 x2 x3 : List V} (h1 : b1.SqV K F0 a1 x1) (h2 : b2.SqV K F0 a2 x2) (h3 : b3.SqV K F0 a3 x3) (r1 : Reps K F0 d1 x1) (r2 : Reps K F0 d2 x2) (r3 : Reps K F0 d3 x3) : Follows K F0 (Itz3 K b1 b2 b3 a1 a2 a3) (zip3L d1 d2 d3) where
  go := fun B i g t σ H hi s rl => by
    obtain ⟨c1, c2, c3, _, e1, e2, e3⟩ := zip3L_get (List.getElem?_eq_getElem hi)
    obtain ⟨v1, w1, _⟩ := r1.get e1
    obtain ⟨v2, w2, _⟩ := r2.get e2
    obtain ⟨v3, w3, _⟩ := r3.get e3
    exact ⟨x1, x2, x3, v1, v2, v3, SK.SqV.up rl.sub (SK.SqV.up s h1), SK.SqV.up rl.sub (SK.SqV.up s h2), SK.SqV.up rl.sub (SK.SqV.up s h3), w1, w2, w3⟩
  yld := fun B i d g t σ H x H' hi s rl hy => by
    obtain ⟨c1, c2, c3, rfl, e1, e2, e3⟩ := zip3L_get hi
    obtain ⟨v1, w1, t1⟩ := r1.get e1
    obtain ⟨v2, w2, t2⟩ := r2.get e2
    obtain ⟨v3, w3, t3⟩ := r3.get e3
    obtain ⟨T, y1, y2, y3, rfl, hT, rfl, f1, f2, f3⟩ := hy
    cases (f1 _ (SK.SqV.up rl.sub (SK.SqV.up s h1))).symm.trans w1
    cases (f2 _ (SK.SqV.up rl.sub (SK.SqV.up s h2))).symm.trans w2
    cases (f3 _ (SK.SqV.up rl.sub (SK.SqV.up s h3))).symm.trans w3
    obtain ⟨g', s', rl', rr⟩ := newTup rl hT (ds := [c1, c2, c3]) (.cons (t1.up s) (.cons (t2.up s) (.cons (t3.up s) (.nil))))
    exact ⟨g', s', rl', rr⟩
  stop := fun B i g t σ H hi s rl => by
    refine ⟨x1, x2, x3, SK.SqV.up rl.sub (SK.SqV.up s h1), SK.SqV.up rl.sub (SK.SqV.up s h2), SK.SqV.up rl.sub (SK.SqV.up s h3), ?_⟩
    rw [r1.length, r2.length, r3.length]; exact zip3L_end hi
theorem IT_zip3 {B : Base} {X : Cx} {e1 e2 e3 : Expr} {wa : WA} {p pos tpos : Pos} {elts : List Expr} {kk : Nat} (hm : X.mg "zip" = none) (h : PAT B X [e1, e2, e3] wa) (hg : Gl X "zip" := by rfl) (hs : starEach [e1, e2, e3] X.env = (false, eval e1 X.env) :: starEach [e2, e3] X.env := by rfl) (hpl : (backTo pos (starEach [e2, e3] X.env)).any (·.1) = false := by rfl) :
    PIT B X (.Tuple elts kk tpos) (.Call (.Name "zip" p) [e1, e2, e3] [] pos) (wIzip3 wa) := by
  refine fun W tk => PI.imp (pi_zip3 hg hm (h W tk) hs hpl) fun σ H R q => ?_
  obtain ⟨g, t, P, rl, m, k⟩ := q
  refine ⟨g, t, _, rl, m, fun ds t1 m1 g1 vs H1 s1 rl1 rs1 => ?_⟩
  obtain ⟨⟨c1, c2, c3⟩, e0, m1⟩ := oP_get m1
  obtain ⟨l, e1, m1⟩ := oP_get m1
  obtain rfl : ds = [c1, c2, c3] := by
    match ds, e0 with
    | [_, _, _], e => cases e; rfl
  obtain ⟨v1, v2, v3, rfl, q1, q2, q3⟩ := rs1.three
  have e1' : (seqX c1).bind (fun a => (seqX c2).bind fun b => (seqX c3).bind fun c => some (zip3L a b c)) = some l := e1
  obtain ⟨d1, z1, e1'⟩ := Option.bind_eq_some_iff.mp e1'
  obtain ⟨d2, z2, e1'⟩ := Option.bind_eq_some_iff.mp e1'
  obtain ⟨d3, z3, e1'⟩ := Option.bind_eq_some_iff.mp e1'
  cases e1'
  obtain ⟨b1, a1, x1, rfl, p1, r1⟩ := seq_rep q1 z1
  obtain ⟨b2, a2, x2, rfl, p2, r2⟩ := seq_rep q2 z2
  obtain ⟨b3, a3, x3, rfl, p3, r3⟩ := seq_rep q3 z3
  exact ⟨b1, b2, b3, a1, a2, a3, x1, x2, x3, rfl, SK.SqV.up rl1.sub p1, SK.SqV.up rl1.sub p2, SK.SqV.up rl1.sub p3, k _ _ m1 g1 H1 _ s1 rl1 (follows_zip3 p1 p2 p3 r1 r2 r3)⟩
end TL
namespace TL
open PySem PySem.Spec PyProof.Rows L2
section
variable {prog : Program} {w : World} {A : Around} {E : Value → Shared → Prop} {s : Shared}
theorem SK.enumNext {b : SK} {e it l : Addr} {i : Nat} {items : Array Value} {x old : Value} {Q : Value → Shared → Prop}
    (he : IsEnum s.heap e it i old) (hit : b.It s.heap it l i) (hl : b.Sq s.heap l items) (hx : items[i]? = some x) (hne : e ≠ it)
    (hQ : ∀ h', IsEnumOut h' e it ((i : Int) + 1) x s.heap.objs.size → b.It h' it l (i + 1) →
      h'.get? s.heap.objs.size = some { cls := .type "tuple", data := .seq #[.int i s.toks, x] } →
      (∀ b o, b ≠ e → b ≠ it → s.heap.get? b = some o → h'.get? b = some o) → Q (.ref s.heap.objs.size) { s with heap := h', toks := s.toks + 1 }) :
    wpAny (model prog w) A (Builtin.«enumerate.__next__» ⟨[.ref e], []⟩) (fun fin s' => ∃ v, fin = .done (.ret v) ∧ Q v s') E s := by
  obtain ⟨hp, g, d, tk, os⟩ := s
  show wpAny _ _ (field (.ref e) 2 >>= _) _ _ _
  refine wpAny_bind (wpAny_field he rfl (x := .ref it) rfl ?_)
  refine wpAny_bind (SK.nextItem hit hl hx fun g1 k1 t1 => ?_)
  have f1 : IsEnum g1 e it i old := (t1.2 e hne).trans he
  have x1 : ∀ b o, b ≠ it → hp.get? b = some o → g1.get? b = some o := fun b o c q => (t1.2 b c).trans q
  have z1 : g1.objs.size = hp.objs.size := t1.1
  show wpAny _ _ (field (.ref e) 3 >>= _) _ _ ⟨g1, g, d, tk, os⟩
  refine wpAny_bind (wpAny_field f1 rfl (x := rawInt i) rfl ?_)
  show wpAny _ _ (field (.ref e) 4 >>= _) _ _ ⟨g1, g, d, tk, os⟩
  refine wpAny_bind (wpAny_field f1 rfl (x := .none) rfl ?_)
  show wpAny _ _ (mkInt i >>= _) _ _ ⟨g1, g, d, tk, os⟩
  refine wpAny_bind (wpAny_mkInt ?_)
  show wpAny _ _ (setField (.ref e) 3 (rawInt ((i : Int) + 1)) >>= _) _ _ ⟨g1, g, d, tk + 1, os⟩
  refine wpAny_bind (wpAny_setField_rec f1 (by simp) fun g2 f2 t2 => ?_)
  replace f2 : IsEnum g2 e it ((i : Int) + 1) old := f2
  show wpAny _ _ (setField (.ref e) 4 .none >>= _) _ _ ⟨g2, g, d, tk + 1, os⟩
  refine wpAny_bind (wpAny_setField_rec f2 (by simp) fun g3 f3 t3 => ?_)
  replace f3 : IsEnum g3 e it ((i : Int) + 1) old := f3
  show wpAny _ _ (newTuple [.int i tk, x] >>= _) _ _ ⟨g3, g, d, tk + 1, os⟩
  refine wpAny_bind (wpAny_newTuple ?_)
  have x3 : ∀ b o, b ≠ e → g1.get? b = some o → g3.get? b = some o := fun b o c q => t3.extBut b o c (t2.extBut b o c q)
  have z3 : g3.objs.size = hp.objs.size := by rw [t3.1, t2.1]; exact z1
  have f4 : IsEnum (g3.push { cls := .type "tuple", data := .seq #[.int i tk, x] }) e it ((i : Int) + 1) old := Heap.get?_push_of_some _ f3
  have hel : e < hp.objs.size := Heap.lt_size he
  have n4 : (g3.push { cls := .type "tuple", data := .seq #[.int i tk, x] }).get? hp.objs.size = some { cls := .type "tuple", data := .seq #[.int i tk, x] } := by rw [← z3]; exact Heap.get?_push_size _ rfl
  have x4 : ∀ b o, b ≠ e → g1.get? b = some o → (g3.push { cls := .type "tuple", data := .seq #[.int i tk, x] }).get? b = some o := fun b o c q => Heap.get?_push_of_some _ (x3 b o c q)
  generalize hg4 : g3.push { cls := .type "tuple", data := .seq #[.int i tk, x] } = g4 at f4 n4 x4
  show wpAny _ _ (Builtin.SmallTypes.ownedTupleIsFree (.ref e) >>= _) _ _ ⟨g4, g, d, tk + 1, os⟩
  rw [z3]
  refine wpAny_bind ?_
  unfold Builtin.SmallTypes.ownedTupleIsFree
  refine wpAny_bind (wpAny_field f4 rfl (x := .none) rfl (wpAny_pure ?_))
  simp only [if_true]
  refine wpAny_bind (wpAny_rule ?_)
  refine wpAny_bind (wpAny_field f4 rfl (x := old) rfl ?_)
  refine wpAny_bind (wpAny_setField_rec f4 (by simp) fun g5 f5 t5 => ?_)
  replace f5 : IsEnum g5 e it ((i : Int) + 1) x := f5
  show wpAny _ _ (Builtin.SmallTypes.ownedTupleHandOut (.ref e) (.ref hp.objs.size) >>= _) _ _ ⟨g5, g, d, tk + 1, os⟩
  refine wpAny_bind ?_
  unfold Builtin.SmallTypes.ownedTupleHandOut
  refine wpAny_bind (wpAny_setField_rec f5 (by simp) fun g6 f6 t6 => ?_)
  replace f6 : IsEnumOut g6 e it ((i : Int) + 1) x hp.objs.size := f6
  refine wpAny_setField_rec f6 (by simp) fun g7 f7 t7 => ?_
  replace f7 : IsEnumOut g7 e it ((i : Int) + 1) x hp.objs.size := f7
  have x7 : ∀ b o, b ≠ e → g4.get? b = some o → g7.get? b = some o := fun b o c q => t7.extBut b o c (t6.extBut b o c (t5.extBut b o c q))
  exact wpAny_bind (wpAny_letGo (wpAny_pure ⟨_, rfl, hQ g7 f7 (k1.to fun o q => x7 _ o (Ne.symm hne) (x4 _ o (Ne.symm hne) q)) (x7 _ _ (Nat.ne_of_gt hel) n4) fun b o c1 c2 q => x7 b o c1 (x4 b o c1 (x1 b o c2 q))⟩))
theorem SK.pyNextEnum {b : SK} {e it l : Addr} {i : Nat} {items : Array Value} {x old : Value} {Q : Option Value → Shared → Prop}
    (he : IsEnum s.heap e it i old) (hit : b.It s.heap it l i) (hl : b.Sq s.heap l items) (hx : items[i]? = some x) (hne : e ≠ it)
    (hQ : ∀ h', IsEnumOut h' e it ((i : Int) + 1) x s.heap.objs.size → b.It h' it l (i + 1) →
      h'.get? s.heap.objs.size = some { cls := .type "tuple", data := .seq #[.int i s.toks, x] } →
      (∀ b o, b ≠ e → b ≠ it → s.heap.get? b = some o → h'.get? b = some o) → Q (some (.ref s.heap.objs.size)) { s with heap := h', toks := s.toks + 1 }) :
    wpAny (model prog w) A (pyNext (.ref e)) Q E s := by
  have hT : s.TypeIs (.ref e) "enumerate" := ⟨_, he, rfl⟩
  unfold pyNext
  exact wpAny_bind (wpAny_attempt (wpAny_callSpecial?_slot (name := Str.ofString "__next__") hT F.slot_enumerate_next
    (wpAny_call_entry F.slot_enumerate_next hT F.entry_enumerate_next (SK.enumNext he hit hl hx hne fun h' a b c k => wpAny_pure (hQ h' a b c k)) (F.args_enumerate_next_1 _))))
theorem SK.pyEndEnum {b : SK} {e it l : Addr} {i : Nat} {items : Array Value} {old : Value} {Q : Option Value → Shared → Prop} (hh : A.handled = none)
    (he : IsEnum s.heap e it i old) (hit : b.It s.heap it l i) (hl : b.Sq s.heap l items) (hx : items[i]? = none)
    (hQ : ∀ h', Heap.ExtBut it s.heap h' → Q none { s with heap := h' }) : wpAny (model prog w) A (pyNext (.ref e)) Q E s := by
  have hT : s.TypeIs (.ref e) "enumerate" := ⟨_, he, rfl⟩
  unfold pyNext
  refine wpAny_bind (wpAny_attempt (wpAny_callSpecial?_slot (name := Str.ofString "__next__") hT F.slot_enumerate_next
    (wpAny_call_entry F.slot_enumerate_next hT F.entry_enumerate_next ?_ (F.args_enumerate_next_1 _))))
  show wpAny _ _ (field (.ref e) 2 >>= _) _ _ _
  refine wpAny_bind (wpAny_field he rfl (x := .ref it) rfl ?_)
  refine wpAny_bind (SK.nextEnd hh hit hl hx fun h' x he' hx' => ?_)
  obtain ⟨o, ho, hc⟩ := hx'
  refine wpAny_bind (wpAny_isInstance (T := "StopIteration") (b := true) ⟨o, ho, hc⟩ isSubtype_stop ?_)
  exact wpAny_pure (hQ _ he')
end
theorem SK.meetsEnum (b : SK) (l : Addr) (items : Array Value) :
    Meets (Builtin.«enumerate.__new__» ⟨[.type "enumerate", .ref l], []⟩) (fun _ R s => b.Sq s.heap l items ∧
      R (.ok (.ret (.ref (s.heap.push (b.ob l)).objs.size)))
        { s with heap := (s.heap.push (b.ob l)).push { cls := .type "enumerate", data := .fields #[.none, .bool false, .ref s.heap.objs.size, rawInt 0, .none, .none] } }) :=
  .of_wp fun prog w A R s h => by
    obtain ⟨hp, g, d, tk, os⟩ := s; obtain ⟨hl, h⟩ := h
    have hsub := sub_enumerate
    have hL : b.Sq (Shared.heap ⟨hp, g, d, tk, os⟩) l items := hl
    have key : ∃ ob, hp.get? l = some ob := hl.get
    obtain ⟨⟨cls, dct, dt, sl⟩, hg⟩ := key
    wp_walk using wpAny_loadPart' hg
    refine wpAny_stack_any fun st => wpAny_pure ?_
    split
    · rename_i c _ _ _ _ _
      cases (c == Value.type "enumerate")
      · wp_walk using wpAny_loadPart' hg, SK.pyIter hL
        exact ⟨_, rfl, h⟩
      · wp_walk using wpAny_loadPart' hg, SK.pyIter hL
        exact ⟨_, rfl, h⟩
    · wp_walk using wpAny_loadPart' hg, SK.pyIter hL
      exact ⟨_, rfl, h⟩
end TL
namespace TL
open PySem PySem.Spec PyProof.Rows L2
section
variable {prog : Program} {w : World} {A : Around} {E : Value → Shared → Prop} {s : Shared}
theorem SK.callEnum {b : SK} {l : Addr} {items : Array Value} {Q : Value → Shared → Prop} (hL : b.Sq s.heap l items)
    (h : ∀ h', IsEnum h' (s.heap.objs.size + 1) s.heap.objs.size 0 .none → b.It h' s.heap.objs.size l 0 →
      (∀ b o, s.heap.get? b = some o → h'.get? b = some o) → Q (.ref (s.heap.objs.size + 1)) { s with heap := h' }) :
    wpAny (model prog w) A (call (.type "enumerate") [.ref l]) Q E s := by
  refine callType_new F.called_enumerate (by decide) (F.typeCall_enumerate_1 _) (F.newCall_enumerate_1 _) (fun obj => F.args_object_init_2 obj _) F.entry_enumerate_new
    (SK.meetsEnum b l items) ⟨hL, ?_⟩
  have hz : (s.heap.push (b.ob l)).objs.size = s.heap.objs.size + 1 := Heap.size_push ..
  show _ ∧ _
  rw [hz]
  have he : IsEnum ((s.heap.push (b.ob l)).push
      { cls := .type "enumerate", data := .fields #[.none, .bool false, .ref s.heap.objs.size, rawInt 0, .none, .none] }) (s.heap.objs.size + 1) s.heap.objs.size 0 .none := by
    have := Heap.get?_push_size (s.heap.push (b.ob l))
      (o := { cls := .type "enumerate", data := .fields #[.none, .bool false, .ref s.heap.objs.size, rawInt 0, .none, .none] }) rfl
    rw [hz] at this; exact this
  refine ⟨⟨_, he, rfl⟩, h _ he (SK.ob_it (Heap.get?_push_of_some _ (Heap.get?_push_size _ (by cases b <;> rfl)))) fun b o x => Heap.get?_push_of_some _ (Heap.get?_push_of_some _ x)⟩
end
def ItE (K : PySem.W.Frag) (b : SK) (a : Addr) : It :=
  ⟨fun i H => ∃ xs x, b.SqV K H a xs ∧ xs[i]? = some x,
    fun i H v H' => ∃ (T : Addr) (x : V), v = .ref T ∧ H T = none ∧ H' = upd H T (.tup [.int (i : Nat), x]) ∧ ∀ xs, b.SqV K H a xs → xs[i]? = some x,
    fun i H => ∃ xs, b.SqV K H a xs ∧ xs.length ≤ i⟩
theorem turn_enumS {P : Program} {w : World} {K : PySem.W.Frag} {elts : List Expr} {kk : Nat} {tpos : Pos} (b : SK) (a e it : Addr) :
    Turn P w K (.Tuple elts kk tpos) (ItE K b a) [e, it] e (fun i h => (∃ old, IsEnum h e it ((i : Nat) : Int) old) ∧ b.It h it a i ∧ e ≠ it) where
  mem := by simp
  obj := fun i h st c hc => by
    obtain ⟨⟨old, he⟩, h1, _⟩ := st
    have e' : c = e ∨ c = it := by simpa using hc
    rcases e' with z | z
    · rw [z]; exact ⟨_, he, fun v q => nomatch q⟩
    · rw [z]; exact h1.get
  keep := fun i h h' st k => let ⟨⟨old, he⟩, hi, hne⟩ := st; ⟨⟨old, k e (by simp) _ he⟩, hi.to fun o q => k it (by simp) o q, hne⟩
  item := by
    intro X hP hw hK hc i pins s σ H E I hf st hg
    subst hP hw hK
    obtain ⟨⟨old, he⟩, hit, hne⟩ := st
    obtain ⟨xs, x, hq, hx⟩ := hg
    obtain ⟨its, rv, p⟩ := b.inv I hq
    obtain ⟨u, hu, ru⟩ := rv.get hx
    have hel : e < s.heap.objs.size := Heap.lt_size he
    have hil : it < s.heap.objs.size := by obtain ⟨_, q, _⟩ := hit.get; exact Heap.lt_size q
    refine SK.pyNextEnum he hit p (x := u) (by simpa using hu) hne fun h' ho hit' hT hk => ?_
    refine ⟨_, rfl, wpAny_letOwnedTupleGo_enum (s := { s with heap := h', toks := s.toks + 1 }) ho fun h'' he' sb => ?_⟩
    have hT2 : h''.get? s.heap.objs.size = some { cls := .type "tuple", data := .seq #[.int i s.toks, u] } := (sb.2 _ (Nat.ne_of_gt hel)).trans hT
    have new : ObjOk X.prog X.w (upd H s.heap.objs.size (.tup [.int (i : Nat), x])) h'' s.heap.objs.size (.tup [.int (i : Nat), x]) :=
      ⟨by show 2 ≤ sizeLine; decide, [.int i s.toks, u], .cons ⟨_, rfl⟩ (.cons ru .nil), ⟨_, hT2, rfl, _, rfl⟩⟩
    have I1 : Inv X pins σ (upd H s.heap.objs.size (.tup [.int (i : Nat), x])) { s with heap := h'', toks := s.toks + 1 } :=
      I.turnedNew (ch := [e, it]) (fun b ob hb q => (sb.2 b (fun z => hb (by simp [z]))).trans (hk b ob (fun z => hb (by simp [z])) (fun z => hb (by simp [z])) q)) hf (Nat.le_refl _) new
    refine ⟨.ref s.heap.objs.size, _, I1, rfl, ⟨_, x, rfl, I.hok.fresh (Nat.le_refl _), rfl, fun ys hy => by rw [b.inj I hy hq]; exact hx⟩, ⟨⟨u, ?_⟩, hit'.to fun o q => (sb.2 it (Ne.symm hne)).trans q, hne⟩, fun c hb => ?_⟩
    · have e1 : ((i + 1 : Nat) : Int) = (i : Int) + 1 := by omega
      rw [e1]; exact he'
    · have hb' : c < s.heap.objs.size := by
        have e' : c = e ∨ c = it := by simpa using hb
        rcases e' with z | z
        · rw [z]; exact hel
        · rw [z]; exact hil
      rw [upd_ne (Nat.ne_of_lt hb')]
      exact (hf c hb).1
  done := by
    intro X hP hw hK hc i pins s σ H E I hf st hg
    subst hP hw hK
    obtain ⟨⟨old, he⟩, hit, hne⟩ := st
    obtain ⟨xs, hq, hx⟩ := hg
    obtain ⟨its, rv, p⟩ := b.inv I hq
    obtain ⟨f0, f1, f2, f3, f4, f5⟩ := hf it (by simp)
    have hl := rv.length
    exact SK.pyEndEnum (I.ok.hd hc) he hit p (by simp; omega) fun h' eb => ⟨rfl, I.turned (t' := s.toks) (fun b o hb q => eb b o hb q) f0 f1 f3 f4 f5⟩
  self := fun A i s Q E st h => let ⟨⟨_, he⟩, _⟩ := st; wpAny_pyIter_enum he h
def iEnumS (K : PySem.W.Frag) (ta : TA) : TI := fun σ H R => ta σ H fun vs H1 => ∃ (b : SK) (a : Addr) (xs : List V), vs = [.ref a] ∧ b.SqV K H1 a xs ∧ R (ItE K b a) H1
theorem pi_enumS {X : Cx} {e : Expr} {ta : TA} {p pos tpos : Pos} {elts : List Expr} {kk : Nat} (hg : Gl X "enumerate") (hm : X.mg "enumerate" = none) (ha : PA X [e] ta) (hs : starEach [e] X.env = [(false, eval e X.env)] := by rfl) :
    PI X (.Tuple elts kk tpos) (.Call (.Name "enumerate" p) [e] [] pos) (iEnumS X.K ta) := by
  refine ⟨fun pins s σ H R I h => ?_⟩
  refine Call_ (ld_blt I hg hm boot_enumerate (PyProof.Rows.callWith_type1 (thn (ha.run pos pins s σ H _ I h) fun us s1 ⟨vs, H1, I1, r1, q1⟩ => ?_) hs rfl))
  obtain ⟨b, a, xs, ex, hq, q⟩ := q1
  subst ex
  cases r1 with
  | cons r rr =>
    cases rr
    cases r
    obtain ⟨its, rv, p'⟩ := b.inv I1 hq
    refine SK.callEnum p' fun h' he hit hk => wpAny_pyIter_enum he ?_
    have I2 : Inv X pins σ H1 { s1 with heap := h' } := I1.kept (t' := s1.toks) hk
    refine ⟨s1.heap.objs.size + 1, [s1.heap.objs.size + 1, s1.heap.objs.size], _, _, H1, rfl, I2, turn_enumS b a (s1.heap.objs.size + 1) s1.heap.objs.size, ⟨⟨.none, he⟩, hit, Nat.succ_ne_self _⟩, fun b hb => ?_, q⟩
    have e' : b = s1.heap.objs.size + 1 ∨ b = s1.heap.objs.size := by simpa using hb
    have hle : s1.heap.objs.size ≤ b := by
      rcases e' with z | z
      · rw [z]; exact Nat.le_add_right _ _
      · rw [z]; exact Nat.le_refl _
    exact I1.fpOk hle (I1.hok.fresh hle)
theorem enumL_get : ∀ {ds : List D} {k i : Nat} {d : D}, (enumL k ds)[i]? = some d → ∃ c, d = .tup [.int ((k + i : Nat) : Int), c] ∧ ds[i]? = some c
  | [], _, _, _, h => by simp [enumL] at h
  | a :: as, k, 0, d, h => by simp [enumL] at h; exact ⟨a, h.symm, rfl⟩
  | a :: as, k, i + 1, d, h => by
    obtain ⟨c, e, h1⟩ := enumL_get (ds := as) (k := k + 1) (i := i) (d := d) (by simpa [enumL] using h)
    exact ⟨c, by rw [e, show k + 1 + i = k + (i + 1) by omega], by simpa using h1⟩
theorem enumL_len : ∀ {ds : List D} {k : Nat}, (enumL k ds).length = ds.length
  | [], _ => rfl
  | a :: as, k => by show (enumL (k + 1) as).length + 1 = _; rw [enumL_len]; rfl
theorem follows_enum {K : PySem.W.Frag} {F0 : Hp} {b : SK} {a : Addr} {ds : List D} {xs : List V} (h1 : b.SqV K F0 a xs) (r1 : Reps K F0 ds xs) : Follows K F0 (ItE K b a) (enumL 0 ds) where
  go := fun B i g t σ H hi s rl => by
    obtain ⟨c, _, e1⟩ := enumL_get (List.getElem?_eq_getElem hi)
    obtain ⟨v, w, _⟩ := r1.get e1
    exact ⟨xs, v, SK.SqV.up rl.sub (SK.SqV.up s h1), w⟩
  yld := fun B i d g t σ H x H' hi s rl hy => by
    obtain ⟨c, rfl, e1⟩ := enumL_get hi
    obtain ⟨v, w, t1⟩ := r1.get e1
    obtain ⟨T, y, rfl, hT, rfl, f1⟩ := hy
    cases (f1 _ (SK.SqV.up rl.sub (SK.SqV.up s h1))).symm.trans w
    obtain ⟨g', s', rl', rr⟩ := newTup rl hT (ds := [.int ((0 + i : Nat) : Int), c]) (.cons (by rw [Nat.zero_add]; exact .int _) (.cons (t1.up s) .nil))
    exact ⟨g', s', rl', rr⟩
  stop := fun B i g t σ H hi s rl => ⟨xs, SK.SqV.up rl.sub (SK.SqV.up s h1), by rw [r1.length]; rw [enumL_len] at hi; exact hi⟩
theorem IT_enumerate {B : Base} {X : Cx} {e : Expr} {wa : WA} {p pos tpos : Pos} {elts : List Expr} {kk : Nat} (hm : X.mg "enumerate" = none) (h : PAT B X [e] wa) (hg : Gl X "enumerate" := by rfl) (hs : starEach [e] X.env = [(false, eval e X.env)] := by rfl) :
    PIT B X (.Tuple elts kk tpos) (.Call (.Name "enumerate" p) [e] [] pos) (wIenumerate wa) := by
  refine fun W tk => PI.imp (pi_enumS hg hm (h W tk) hs) fun σ H R q => ?_
  obtain ⟨g, t, P, rl, m, k⟩ := q
  refine ⟨g, t, _, rl, m, fun ds t1 m1 g1 vs H1 s1 rl1 rs1 => ?_⟩
  obtain ⟨c1, e0, m1⟩ := oP_get m1
  obtain ⟨l, e1, m1⟩ := oP_get m1
  obtain rfl : ds = [c1] := by
    match ds, e0 with
    | [_], e => cases e; rfl
  obtain ⟨v1, rfl, q1⟩ := rs1.one
  have e1' : (seqX c1).bind (fun a => some (enumL 0 a)) = some l := e1
  obtain ⟨d1, z1, e1'⟩ := Option.bind_eq_some_iff.mp e1'
  cases e1'
  obtain ⟨b1, a1, x1, rfl, p1, r1⟩ := seq_rep q1 z1
  exact ⟨b1, a1, x1, rfl, SK.SqV.up rl1.sub p1, k _ _ m1 g1 H1 _ s1 rl1 (follows_enum p1 r1)⟩
theorem Reps.reverse {K : PySem.W.Frag} {F : Hp} : ∀ {ds : List D} {vs : List V}, Reps K F ds vs → Reps K F ds.reverse vs.reverse
  | _, _, .nil => .nil
  | _, _, .cons a b => by
    rw [List.reverse_cons, List.reverse_cons]
    exact (Reps.reverse b).append (.cons a .nil)
end TL
namespace TL
open PySem PySem.Spec PyProof.Rows L2
section
variable {K : PySem.W.Frag} {B B' : Base} {g g' : Gh} {t : TSt} {σ : L2.St} {H H' : Hp} {r : R} {v : V} {fp fq : List Addr}
/-- objects of nobody -/
def Fre (B : Base) (g : Gh) (H : Hp) (fp : List Addr) : Prop := ∀ b ∈ fp, g.ow b = none ∧ g.F b = none ∧ B.H b = none ∧ ∃ o, H b = some o
def ResF (K : PySem.W.Frag) (B : Base) (g : Gh) (H : Hp) (fp : List Addr) : R → V → Prop
  | .v d, v => fp = [] ∧ Rep K g.F d v
  | .own c, v => ∃ a, v = .ref a ∧ CellRel K g.F H c a fp ∧ fp.Nodup ∧ Fre B g H fp
theorem ResF.free (x : ResF K B g H fp r v) : Fre B g H fp := by
  cases r with
  | v d => rw [x.1]; exact fun b hb => nomatch hb
  | own c => obtain ⟨a, e, cr, nd, h⟩ := x; exact h
theorem ResF.up (x : ResF K B g H fp r v) (s : Same g.F g'.F) (k : ∀ b ∈ fp, H' b = H b) (f : Fre B' g' H' fp) : ResF K B' g' H' fp r v := by
  cases r with
  | v d => exact ⟨x.1, Rep.up s x.2⟩
  | own c => obtain ⟨a, e, cr, nd, h⟩ := x; exact ⟨a, e, cr.up s k, nd, f⟩
/-- the ground with these objects in it -/
structure Ext (B : Base) where
  H0 : Hp
  fp : List Addr
  h : ∀ b ∈ fp, B.H b = none ∧ B.F b = none ∧ ∃ o, H0 b = some o
  ft : ∀ b ∈ B.foot, ∃ o, B.H b = some o
noncomputable def Ext.bs {B : Base} (x : Ext B) : Base := { B with H := fun b => if b ∈ x.fp then x.H0 b else B.H b }
theorem Ext.at {B : Base} (x : Ext B) {b : Addr} (hb : b ∈ x.fp) : x.bs.H b = x.H0 b := if_pos hb
theorem Ext.out {B : Base} (x : Ext B) {b : Addr} (hb : b ∉ x.fp) : x.bs.H b = B.H b := if_neg hb
theorem Ext.non {B : Base} (x : Ext B) {b : Addr} (e : x.bs.H b = none) : b ∉ x.fp ∧ B.H b = none := by
  have n : b ∉ x.fp := fun hb => by
    obtain ⟨_, _, o, ho⟩ := x.h b hb
    rw [x.at hb, ho] at e; cases e
  exact ⟨n, by rw [← x.out n]; exact e⟩
end
section
variable {B : Base} {X : Cx} {x y z : Str} {a b c : Expr} {wa wb wc : WE} {px py pz pt pos : Pos} {kt k2 : Nat} {pt2 : Pos}
end
end TL
namespace TL
open PySem PySem.Spec PyProof.Rows L2
/-- what so many levels of calls may need of the stack: three each for the first sixty, then one -/
def dco (k : Nat) : Nat := k + 2 * min k 60
structure RoomX (k : Nat) (A : Around) : Prop where
  hd : A.handled = none
  dp : A.depth + dco k + 5 < recursionLimit
  un : A.units + 16 * k + 200 < cLine
structure RoomG (k : Nat) (A : Around) : Prop where
  q : RoomX k A
  g : A.guards = some []
theorem dco_mono {j k : Nat} (h : j ≤ k) : dco j ≤ dco k := by unfold dco; omega
theorem dco_s (k : Nat) : dco k + 1 ≤ dco (k + 1) := by unfold dco; omega
theorem RoomG.mono {j k : Nat} {A : Around} (h : RoomG k A) (l : j ≤ k) : RoomG j A := ⟨⟨h.q.hd, by have := h.q.dp; have := dco_mono l; omega, by have := h.q.un; omega⟩, h.g⟩
theorem RoomG.un {k : Nat} {A : Around} (h : RoomG k A) : A.units + 16 * k + 200 < cLine := h.q.un
theorem RoomG.r {k : Nat} {A : Around} (h : RoomG k A) : Room (min k 60) A := ⟨h.q.hd, by have := h.q.dp; unfold dco at this; omega, by have := h.q.un; omega⟩
theorem RoomG.deeper {k : Nat} {A : Around} (h : RoomG (k + 1) A) (env : Env) : RoomG k (A.deeper env) := ⟨⟨h.q.hd, by have := h.q.dp; have := dco_s k; show A.depth + 1 + dco k + 5 < _; omega, by have := h.q.un; show A.units + 3 + 16 * k + 200 < _; omega⟩, h.g⟩
structure FnG (P : Program) (w : World) (K : PySem.W.Frag) (mg : Str → Option Value) (base : Heap) (CX : CXT) (k : Nat) (f : Addr) (fd : FuncData) (ps : List Str) (sp : Sp) : Prop where
  len : ∀ vs H Q E, sp vs H Q E → vs.length = ps.length
  run : ∀ (A : Around) (outer : List Env) (s : Shared) (H : Hp) (args : Args) (us : List Value) (vs : List V) (Q : VK) (E : XK), RoomG k A → Env0 P w K mg base A outer s H → BindsTo s fd args (ps.zip us) → Vals vs us → sp vs H Q E →
    codeAny (model P w) A (.call (.ref f) args) (CR CX outer P w H s Q E) s
theorem FnG.mono {P : Program} {w : World} {K : PySem.W.Frag} {mg : Str → Option Value} {base : Heap} {CX : CXT} {j k : Nat} {f : Addr} {fd : FuncData} {ps : List Str} {sp : Sp} (F : FnG P w K mg base CX j f fd ps sp) (h : j ≤ k) :
    FnG P w K mg base CX k f fd ps sp := ⟨F.len, fun A outer s H args us vs Q E hr => F.run A outer s H args us vs Q E (hr.mono h)⟩
section
variable {P : Program} {w : World} {K : PySem.W.Frag} {mg : Str → Option Value} {base : Heap}
theorem okG {x qual : Str} {st : Stmt} {f : Addr} {fd : FuncData} {N ps : List Str} {k : Nat} {sp : Sp} (F : Fun K x qual st f fd) (S : FnScope N ps (defScope st)) (len : ∀ vs H Q E, sp vs H Q E → vs.length = ps.length)
    (hbody : ∀ (cdv : Value) (A : Around) (outer : List Env) (s : Shared) (H : Hp) (vs : List V) (Q : VK) (E : XK), RoomG k (A.deeper (envOfC qual (defScope st) s.heap.objs.size f cdv)) → sp vs H Q E →
      ∃ t, PSs (cxOf (L2N.CX P w) P w K mg base N qual (defScope st) f cdv A outer s H E) (defBody st) t ∧ t { nx := fun _ H' => Q .non H', rt := Q } (start N vs) H) : FnG P w K mg base (L2N.CX P w) (k + 1) f fd ps sp := by
  obtain ⟨oc, od, kV, doc, pm, an, cdv, ct, osl, rfl, lk, hcd⟩ := F.ex
  refine ⟨len, fun A outer s H args us vs Q E hr e0 hb r hsp => ?_⟩
  have hin : K.In s.heap := e0.mod.kin.keeps fun b o e => (e0.bs b o e).1
  have hli : s.heap.NoLimit := e0.mod.nolimit.keeps fun b o e => (e0.bs b o e).1
  refine codeAny_call_function hr.r.depth (hin _ _ lk) rfl S.co S.gen rfl (PySem.W.codeRec_of hin hcd) (hb _ _ _ _ ?_)
  refine wpAny_newFunctionEnv_cells S.kind (fun y hy => ?_) fun env he s1 x => ?_
  · rcases S.par y.1 (List.of_mem_zip hy).1 with q | q
    · exact .inl q
    · exact .inr ⟨q, PySem.W.cellsFrom_some _ _ _ (.inl q)⟩
  subst he
  refine ⟨hli.keeps x.toInCall.keep, codeAny_func ?_⟩
  obtain ⟨t, ht, hq⟩ := hbody cdv A outer s H vs Q E (hr.deeper _) hsp
  refine wpAny_mono (ht.run [] s1 (start N vs) H _ (inv_start S hr.r.hd e0 (len _ _ _ _ hsp) r x) hq) (fun fl s' hs => ?_) fun e s' hs => hs
  cases fl with
  | next => obtain ⟨σ', H', J, q⟩ := hs; exact ⟨.non, H', J.os, J.bare, J.base, J.hok, rfl, q⟩
  | ret u => obtain ⟨v, σ', H', J, rv, q⟩ := hs; exact ⟨v, H', J.os, J.bare, J.base, J.hok, rv, q⟩
  | brk => obtain ⟨_, _, _, q⟩ := hs; exact False.elim q
  | cont => obtain ⟨_, _, _, q⟩ := hs; exact False.elim q
theorem fnG {x qual : Str} {st : Stmt} {f : Addr} {fd : FuncData} {N ps : List Str} {k : Nat} {ts : TSpec} {wb : WS} (F : Fun K x qual st f fd) (S : FnScope N ps (defScope st)) (hl : ∀ args PQ PX, ts args PQ PX → args.length = ps.length)
    (hb : ∀ (B : Base) (cdv : Value) (A : Around) (outer : List Env) (s : Shared) (H : Hp) (E : XK), RoomG k (A.deeper (envOfC qual (defScope st) s.heap.objs.size f cdv)) → PSsT B (cxOf (L2N.CX P w) P w K mg base N qual (defScope st) f cdv A outer s H E) (defBody st) wb)
    (hw : ∀ args PQ PX, ts args PQ PX → wb (fnX args PX) (start0 N.length args) (fnD args PQ)) : FnG P w K mg base (L2N.CX P w) (k + 1) f fd ps (toSp K ps.length ts) := by
  have hN : ps.length ≤ N.length := by
    have := congrArg List.length S.pre
    rw [List.length_take] at this
    omega
  refine okG F S (fun vs H Q E h => h.1) (fun cdv A outer s H vs Q E hr h => ?_)
  obtain ⟨hv, F0, args, fp, PQ, PX, sF, ar, hts, hq, hx⟩ := h
  have hlen := hl _ _ _ hts
  have tk : L2N.Takes (cxOf (L2N.CX P w) P w K mg base N qual (defScope st) f cdv A outer s H E) (wxOf K (base0 H F0 args vs fp) (fnX args PX)) := by
    refine (L2N.takes_of rfl rfl rfl rfl).imp fun cls d σ H' z => ?_
    obtain ⟨nm, hcl, g, t, pay, rl, pr, m⟩ := z
    unfold fnX retO at m
    split at m
    · rename_i outs ho
      obtain ⟨fp', po, _⟩ := post_of ar rl ho
      exact hx nm pay outs m cls hcl d g.F H' fp' po pr
    · exact m.elim
  refine ⟨_, hb (base0 H F0 args vs fp) cdv A outer s H E hr (fnX args PX) tk, ?_⟩
  obtain ⟨ow, r0⟩ := rel0 (N := N) sF ar (by omega)
  refine ⟨_, _, _, r0, hw _ _ _ hts, fun t' m g σ H' s1 rl => ?_, fun r t' m g σ v H' s1 rl rr => ?_, fun _ m => m.elim, fun _ m => m.elim⟩
  · have m' : retO args t' (PQ (.v .non)) := m
    unfold retO at m'
    split at m'
    · rename_i outs ho
      obtain ⟨fp', po, _⟩ := post_of ar rl ho
      exact hq _ _ m' _ g.F H' fp' po .non
    · exact m'.elim
  · have m' : retO args t' (PQ r) := m
    unfold retO at m'
    split at m'
    · rename_i outs ho
      obtain ⟨fp', po, hf⟩ := post_of ar rl ho
      exact hq _ _ m' _ g.F H' fp' po (ret_of hf rr)
    · exact m'.elim
end
section
variable {B : Base} {X : Cx} {e : Expr} {es : List Expr} {pos p : Pos} {wa : WAA}
theorem pe_callG {CX : CXT} {k : Nat} {f : Addr} {fd : FuncData} {ps : List Str} {x : Str} {sp : Sp} {t : TA} {E : L2.St → XK} (F : FnG X.prog X.w X.K X.mg X.base CX k f fd ps sp) (hr : RoomG k X.A) (hg : Gl X x) (hm : X.mg x = some (.ref f)) (hk : PySem.W.keepIn X.K (.ref f) = true) (hb : Binds X.K fd ps []) (hx : ∀ σ, PassesAt CX X σ (E σ))
    (ha : PA X (e :: es) t) (hdb : (x == ("__debug__" : Str)) = false := by decide) (he : starEach (e :: es) X.env = (false, eval e X.env) :: starEach es X.env := by rfl) (hpl : (backTo pos (starEach es X.env)).any (·.1) = false := by rfl) :
    PE X (.Call (.Name x p) (e :: es) [] pos) (tCallS sp E t) := by
  refine ⟨fun pins s σ H Q I h => ?_⟩
  refine wpAny_Call_Name_kw (ld_glob I hg hm ?_ hdb)
  refine PySem.W.callWith_K (h₀ := X.base) I.ok.mod.kin hk (thn (ha.run pos pins s σ H _ I h) fun us s1 ⟨vs, H1, I1, r, q⟩ => ⟨I1.kIn, ?_⟩) he hpl
  have b := hb s1 us I1.kIn (by rw [List.append_nil, ← r.length]; exact F.len _ _ _ _ q)
  rw [List.append_nil] at b
  refine wpAny_call (codeAny_mono (F.run X.A X.stack s1 H1 ⟨us, []⟩ us vs Q (E σ) hr I1.env0 b r q) fun z s' hq => ?_)
  match z, hq with
  | .error e, hq => exact hx σ pins H1 s1 e s' I1 hq
  | .ok (.ret u), hq => exact I1.after hq
  | .ok .next, hq => exact False.elim hq
  | .ok .brk, hq => exact False.elim hq
  | .ok .cont, hq => exact False.elim hq
theorem T_callG {ts : TSpec} {k : Nat} {f : Addr} {fd : FuncData} {ps : List Str} {x : Str} (F : FnG X.prog X.w X.K X.mg X.base (L2N.CX X.prog X.w) k f fd ps (toSp X.K ps.length ts)) (hr : RoomG k X.A) (hm : X.mg x = some (.ref f)) (hk : PySem.W.keepIn X.K (.ref f) = true) (hb : Binds X.K fd ps [])
    (hl : ∀ args PQ PX, ts args PQ PX → args.length = ps.length) (ha : PAAT B X (e :: es) wa) (hg : Gl X x := by rfl) (hdb : (x == ("__debug__" : Str)) = false := by rfl) (he : starEach (e :: es) X.env = (false, eval e X.env) :: starEach es X.env := by rfl) (hpl : (backTo pos (starEach es X.env)).any (·.1) = false := by rfl) :
    PET B X (.Call (.Name x p) (e :: es) [] pos) (wCall ts wa) := by
  refine fun W tk => PE.imp (pe_callG F hr hg hm hk hb (fun σ => L2N.passAt tk σ) (ha W tk) hdb he hpl) fun σ H Q q => ?_
  obtain ⟨g, t, P, rl, m, kk⟩ := q
  refine ⟨g, t, _, rl, m, fun as t1 m1 g1 vs H1 s1 rl1 av => ?_⟩
  obtain ⟨nd, args, hres, hts⟩ := m1
  obtain ⟨fp, ar, hf⟩ := args_of rl1 nd hres av
  refine ⟨by rw [ar.len]; exact hl _ _ _ hts, g1.F, args, fp, _, _, rl1.sub, ar, hts, fun r outs hq v F' H' fp' po rr => ?_, fun nm pay outs hx cls hcl d F' H' fp' po pr => ?_⟩
  · obtain ⟨ow', rl2, ho⟩ := rel_post rl1 nd hres av hf ar po
    refine kk _ _ hq ⟨F', ow'⟩ v H' (s1.trans po.up) rl2 ?_
    cases r with
    | v d => exact rr
    | own c =>
      obtain ⟨a, l, rfl, cr, n, hh⟩ := rr
      refine ⟨a, l, rfl, cr, n, fun b hb => ⟨?_, (hh b hb).1, rl1.dom b (hh b hb).2.1⟩⟩
      refine Classical.byContradiction fun z => ?_
      rcases ho b z with w | w
      · exact (hh b hb).2.2 w
      · cases q : g1.ow b with
        | none => exact w q
        | some i =>
          obtain ⟨u, hu⟩ := rl1.there b i q
          rw [(hh b hb).2.1] at hu; cases hu
  · obtain ⟨ow', rl2, _⟩ := rel_post rl1 nd hres av hf ar po
    exact ⟨nm, hcl, ⟨F', ow'⟩, _, pay, rl2, pr, hx⟩
end
structure CalG (P : Program) (w : World) (K : PySem.W.Frag) (mg : Str → Option Value) (base : Heap) (k : Nat) (x : Str) (n : Nat) (ts : TSpec) : Prop where
  ex : ∃ f fd ps, ps.length = n ∧ FnG P w K mg base (L2N.CX P w) k f fd ps (toSp K n ts) ∧ mg x = some (.ref f) ∧ PySem.W.keepIn K (.ref f) = true ∧ Binds K fd ps []
  hl : ∀ args PQ PX, ts args PQ PX → args.length = n
section
variable {B : Base} {X : Cx} {e : Expr} {es : List Expr} {wA : WAA} {pos p : Pos} {P : Program} {w : World} {K : PySem.W.Frag} {mg : Str → Option Value} {base : Heap}
theorem T_calG {k n : Nat} {x : Str} {ts : TSpec} (c : CalG X.prog X.w X.K X.mg X.base k x n ts) (hr : RoomG k X.A) (ha : PAAT B X (e :: es) wA) (hg : Gl X x := by rfl) (hdb : (x == ("__debug__" : Str)) = false := by rfl) (he : starEach (e :: es) X.env = (false, eval e X.env) :: starEach es X.env := by rfl) (hpl : (backTo pos (starEach es X.env)).any (·.1) = false := by rfl) :
    PET B X (.Call (.Name x p) (e :: es) [] pos) (wCall ts wA) := by
  obtain ⟨f, fd, ps, rfl, F, hm, hk, hb⟩ := c.ex
  exact T_callG F hr hm hk hb c.hl ha hg hdb he hpl
theorem CalG.mono {j k n : Nat} {x : Str} {ts : TSpec} (c : CalG P w K mg base j x n ts) (h : j ≤ k) : CalG P w K mg base k x n ts := by
  obtain ⟨f, fd, ps, h1, F, h2⟩ := c.ex
  exact ⟨⟨f, fd, ps, h1, F.mono h, h2⟩, c.hl⟩
theorem calG_of {x : Str} {st : Stmt} {N ps : List Str} {k : Nat} {ts : TSpec} {wb : WS} (Df : Def K mg x st ps) (S : FnScope N ps (defScope st)) (hl : ∀ args PQ PX, ts args PQ PX → args.length = ps.length)
    (hb : ∀ (f : Addr) (B : Base) (cdv : Value) (A : Around) (outer : List Env) (s : Shared) (H : Hp) (E : XK), RoomG k (A.deeper (envOfC x (defScope st) s.heap.objs.size f cdv)) → PSsT B (cxOf (L2N.CX P w) P w K mg base N x (defScope st) f cdv A outer s H E) (defBody st) wb)
    (hw : ∀ args PQ PX, ts args PQ PX → wb (fnX args PX) (start0 N.length args) (fnD args PQ)) : CalG P w K mg base (k + 1) x ps.length ts := by
  obtain ⟨f, fd, F, hm, hbi⟩ := Df.ex
  exact ⟨⟨f, fd, ps, rfl, fnG F S hl (hb f) hw, hm, F.kp, hbi⟩, hl⟩
/-- the law's call, from its def's promise under callerA -/
theorem lawG {mb : Str → Option Value} {CX : CXT} {k : Nat} {fa a : Addr} {fd : FuncData} {x : Str} {sp : Sp} {s₁ : Shared} {vs : List Value} {ns : List Int}
    (KX : K.In s₁.heap) (hns : s₁.heap.Ns mainGlobals mg) (hb : s₁.heap.Ns builtinsNs mb) (hbb : ∀ x : Str, x ≠ "__name__" → mb x = bootBuiltins x) (hlim : s₁.heap.NoLimit) (hg : s₁.gens = #[])
    (ha : s₁.heap.get? a = some { cls := .type "list", data := .seq vs.toArray }) (hi : IntsAre vs ns) (hl : ns.length ≤ sizeLine) (hr : RoomG k callerA)
    (F : ∀ base : Heap, K.In base → base.Ns mainGlobals mg → FnG P w K mg base CX k fa fd [x] sp) (hbind : ∀ (s : Shared) (u : Value), BindsTo s fd ⟨[u], []⟩ [(x, u)])
    (hsp : ∀ H : Hp, SqL K H a (ns.map V.int) → sp [.ref a] H (fun v _ => v = .bl true) fun _ _ _ => False)
    (hCX : ∀ H e s', CX [] H s₁ (fun _ _ _ => False) e s' → False) :
    codeAny (model P w) callerA (.call (.ref fa) ⟨[.ref a], []⟩) (fun r s' => r = .ok (.ret (.bool true)) ∧ OldK s₁.heap s'.heap ∧ s'.os = s₁.os ∧ AllBare s'.gens) s₁ := by
  have rv := vals_ints hi
  -- the abstract heap: the script alone, if it is not one of the fragment's own objects
  let o : HO := .frz { cls := .type "list", data := .seq vs.toArray } (.lst (ns.map V.int))
  let H : Hp := fun b => if b = a ∧ K.lookup a = none then some o else none
  have Hs : ∀ {b u}, H b = some u → b = a ∧ K.lookup a = none ∧ u = o := fun {b u} z => by
    by_cases c : b = a ∧ K.lookup a = none
    · exact ⟨c.1, c.2, (Option.some.inj ((if_pos c).symm.trans z)).symm⟩
    · exact absurd ((if_neg c).symm.trans z) (by simp)
  have hok : HOk P w H s₁.heap := fun b u z => by
    obtain ⟨rfl, _, rfl⟩ := Hs z
    exact ⟨ha, by rw [List.length_map]; exact hl, vs, _, rv, ha⟩
  have hS : SqL K H a (ns.map V.int) := by
    cases hk : K.lookup a with
    | none => exact .inl (.inr ⟨_, if_pos ⟨rfl, hk⟩⟩)
    | some o' =>
      have e := KX a o' hk
      rw [ha] at e
      cases e
      exact .inr ⟨_, vs.toArray, _, hk, rfl, rfl, rfl, by rw [List.size_toArray, hi.length]; exact hl, by simpa using rv⟩
  have hid : ∀ {b : Addr} {m : Str → Option Value}, s₁.heap.Ns b m → (hidT s₁.heap H).Ns b m := fun {b m} ⟨ob, es, ep, e, d, r⟩ => ⟨ob, es, ep, hidT_get e (by
    cases q : H b with
    | none => rfl
    | some u =>
      obtain ⟨rfl, _, _⟩ := Hs q
      rw [ha] at e; cases e
      cases (show Data.seq vs.toArray _ = Data.dict es ep from d)), d, r⟩
  have hin : K.In (hidT s₁.heap H) := fun b ob e => hidT_get (KX b ob e) (by
    cases q : H b with
    | none => rfl
    | some u =>
      obtain ⟨rfl, hk, _⟩ := Hs q
      rw [hk] at e; cases e)
  obtain ⟨mc, c1, c2⟩ := hlim
  have e0 : Env0 P w K mg (hidT s₁.heap H) callerA [] s₁ H :=
    ⟨rfl, ⟨hin, hid hns, ⟨mb, hid hb, hbb⟩, mc, hid c1, c2⟩, fun b ob e => of_hidT e, Nat.le_of_eq (hidT_size _ _), trivial, fun b z => absurd z (by simp [frs]), hok, .of_eq hg⟩
  refine codeAny_mono ((F _ hin (hid hns)).run callerA [] s₁ H ⟨[.ref a], []⟩ [.ref a] [.ref a] _ _ hr e0 (hbind s₁ (.ref a)) (.cons rfl .nil) (hsp H hS)) fun r s' h => ?_
  match r, h with
  | .error e, h => exact (hCX H e s' h).elim
  | .ok .next, h => exact False.elim h
  | .ok .brk, h => exact False.elim h
  | .ok .cont, h => exact False.elim h
  | .ok (.ret u), h =>
    obtain ⟨v, H', os, bare, un, hok', r', q⟩ := h
    obtain rfl : v = .bl true := q
    obtain rfl : u = Value.bool true := r'
    refine ⟨rfl, OldK.of_keep fun b ob e => ?_, os, bare⟩
    cases q : H b with
    | none => exact un.keep b ob e q (by simp [frs]) (by simp)
    | some u =>
      obtain ⟨rfl, hk, rfl⟩ := Hs q
      have z := (hok' b _ (un.frzs b _ _ q)).1
      rw [ha] at e; cases e
      exact z
end
theorem walk_ofG {l : PySem.W.OpenLaw} {n k : Nat} {q : Program} {loose : List Str} {XP : (Str → Option Value) → Heap → Prop} {YP : World → Heap → Prop} {d : DefRec} {K : Params → PySem.W.Frag} {CX : World → CXT} {sp : World → Sp} {x : Str}
    (hn : l.most = some n) (hn2 : n ≤ sizeLine) (hdf : d.params.defaults = []) (hr : RoomG k callerA)
    (hY : ∀ (w : World) (h : Heap), YP w h → (K w.params).In h)
    (F : ∀ (w : World) (mg : Str → Option Value) (fa : Addr) (h : Heap), (K w.params).In h → h.Ns mainGlobals mg → mg d.name = some (.ref fa) →
      ∃ fd : FuncData, (∀ (s : Shared) (u : Value), BindsTo s fd ⟨[u], []⟩ [(x, u)]) ∧
        ∀ base : Heap, (K w.params).In base → base.Ns mainGlobals mg → FnG l.prog w (K w.params) mg base (CX w) k fa fd [x] (sp w))
    (hsp : ∀ (w : World) (H : Hp) (a : Addr) (ns : List Int), ns.length ≤ n → SqL (K w.params) H a (ns.map V.int) → sp w [.ref a] H (fun v _ => v = .bl true) fun _ _ _ => False)
    (hCX : ∀ (w : World) (H : Hp) (s : Shared) (e : Value) (s' : Shared), CX w [] H s (fun _ _ _ => False) e s' → False) :
    PySem.W.WalkO q loose XP YP l.row.toRowW d [] (fun f vs => PySem.call f vs) := by
  refine Att.attach_call hn hdf fun w s₀ s₁ mg mb fa o pm cd doc a vs ns G Y ho hd hcd hmg hobj hints hlen hg => ?_
  have KX := hY w _ Y
  obtain ⟨fd, hb, hF⟩ := F w mg fa _ KX G.T.g hmg
  exact lawG KX G.T.g G.T.b G.T.builtins G.T.nolimit hg hobj hints (Nat.le_trans hlen hn2) hr hF hb (fun H hS => hsp w H a ns hlen hS) fun H e s' => hCX w H s₁ e s'
mutual
theorem D.noDict : ∀ d : D, d.py.hasDict = false
  | .non => rfl
  | .bl _ => rfl
  | .int _ => rfl
  | .str _ => rfl
  | .tup l => by simpa [D.py, PyData.hasDict] using D.noDictL l
  | .lst l => by simpa [D.py, PyData.hasDict] using D.noDictL l
  | .scr l => by simpa [D.py, PyData.hasDict] using D.noDictL l
  | .dct _ _ => rfl
  | .ty _ => rfl
  | .ref _ => rfl
  | .exc _ => rfl
  | .exp _ => rfl
  | .xtp _ => rfl
  | .cl _ => rfl
  | .obj _ _ => rfl
theorem D.noDictL : ∀ l : List D, PyData.hasDictAll (D.pyL l) = false
  | [] => rfl
  | d :: l => by simp [D.pyL, PyData.hasDictAll, D.noDict d, D.noDictL l]
end
theorem N_repr {B : Base} {X : Cx} (hg : X.A.guards = some []) (hu : X.A.units + 66 < cLine) : CallT B X (.builtin "repr") nRepr := .mk fun pins s σ H xs us Q g t σ' ds P I rs rl r m k => by
  unfold nRepr at m
  split at m
  · rename_i d
    unfold reprX at m
    split at m
    · rename_i h
      obtain ⟨p1, p2, p3, p4⟩ := h
      obtain ⟨v, rfl, r1⟩ := r.one
      obtain ⟨u, rfl, rv⟩ := vals1 rs
      obtain ⟨as, e⟩ := Dp.reads I _ v u (r1.dp rl.sub p1) rv
      have fin : ∀ (h' : Heap) (u' tk : Tok), (∀ b o, s.heap.get? b = some o → h'.get? b = some o) → ∃ v H', Inv X pins σ H' { s with heap := h', toks := tk } ∧ RelV v (.str d.py.shown u') ∧ Q v H' :=
        fun h' u' tk hk => ⟨.str _, H, I.kept hk, ⟨_, rfl⟩, k _ m g _ H sRefl rl (Rep.str _)⟩
      have nd := D.noDict d
      generalize d.py = y at e p2 p3 p4 fin nd
      have go : ∀ {u : Value} (q : ∃ a, u = .ref a), Reads s.heap u y as → wpAny (model X.prog X.w) X.A (call (.builtin "repr") [u]) (EP X pins σ Q) X.xe s := fun {u} ⟨a, z⟩ e => by
        subst z
        exact repr_of_reads' e p3 (fun z => by rw [nd] at z; cases z) hg (by omega) (fun _ _ z => z) (fun h' u' tk hk => fin h' u' tk hk) p4
      cases e with
      | none => exact PySem.P.repr_of_none (fin _ _ _ fun _ _ z => z)
      | bool b => exact PySem.P.repr_of_bool (fin _ _ _ fun _ _ z => z)
      | int i => exact PySem.P.repr_of_int (of_decide_eq_true p3) (fin _ _ _ fun _ _ z => z)
      | str x => exact PySem.P.repr_of_str (fin _ _ _ fun _ _ z => z) p4
      | list h1 h2 h3 h4 => exact go ⟨_, rfl⟩ (.list h1 h2 h3 h4)
      | tuple h1 h2 h3 h4 => exact go ⟨_, rfl⟩ (.tuple h1 h2 h3 h4)
      | dict h1 h2 h3 h4 h5 => exact go ⟨_, rfl⟩ (.dict h1 h2 h3 h4 h5)
    · exact m.elim
  · exact m.elim
section
variable {B : Base} {X : Cx}
end
end TL
namespace TL
open PySem PySem.Spec PyProof.Rows L2
section
variable {K : PySem.W.Frag} {F : Hp}
/-- a value that stands for d -/
def RD (K : PySem.W.Frag) (F : Hp) (u : Value) (d : D) : Prop := ∃ v, RelV v u ∧ Rep K F d v
theorem each_rd : ∀ {ds : List D} {vs : List V} {us : List Value}, Reps K F ds vs → Vals vs us → PySem.W.EachIs (RD K F) us ds
  | _, _, _, .nil, .nil => .nil
  | _, _, _, .cons r rs, .cons v vs => .cons ⟨_, v, r⟩ (each_rd rs vs)
theorem rd_each : ∀ {ds : List D} {us : List Value}, PySem.W.EachIs (RD K F) us ds → ∃ vs, Vals vs us ∧ Reps K F ds vs
  | _, _, .nil => ⟨[], .nil, .nil⟩
  | _, _, .cons ⟨v, h1, h2⟩ r => by
    obtain ⟨vs, a, b⟩ := rd_each r
    exact ⟨v :: vs, .cons h1 a, .cons h2 b⟩
theorem each_reads {X : Cx} {pins : List (Addr × Obj)} {σ : L2.St} {H : Hp} {s : Shared} (I : Inv X pins σ H s) (sF : Same F H) : ∀ {ds : List D} {vs : List V} {us : List Value}, Reps X.K F ds vs → Vals vs us → D.plL ds = true → PySem.W.EachIs (fun u d => ∃ as, Reads s.heap u d.py as) us ds
  | _, _, _, .nil, .nil, _ => .nil
  | d :: ds, _, _, .cons r rs, .cons v vs, h => by
    obtain ⟨h1, h2⟩ := Bool.and_eq_true_iff.mp (show (d.pl && D.plL ds) = true from h)
    exact .cons (Dp.reads I _ _ _ (r.dp sF h1) v) (each_reads I sF rs vs h2)
end
theorem N_sorted {B : Base} {X : Cx} (hu : X.A.units + 66 < cLine) : CallT B X (.builtin "sorted") nSorted := .mk fun pins s σ H xs us Q g t σ' ds P I rs rl r m k => by
  unfold nSorted at m
  split at m
  · rename_i d
    unfold sortedX at m
    split at m
    · rename_i l
      split at m
      · rename_i h
        obtain ⟨p1, p2, p3, p4, p5⟩ := h
        obtain ⟨v, rfl, r1⟩ := r.one
        obtain ⟨a, vs, rfl, ha, ra⟩ := r1.lst_inv rl.sub
        obtain ⟨u, rfl, rv⟩ := vals1 rs
        cases (show u = .ref a from rv)
        obtain ⟨z, its, n, rvs, hl, e⟩ := I.lstM ha
        refine PySem.W.sorted_data (enc := D.py) (R := RD X.K g.F) ⟨_, e, rfl, n, rfl⟩ (each_rd ra rvs) (each_reads I rl.sub ra rvs p1) p2 p3 p4 (fun b hb => by have := p5 b hb; omega) fun out ho eo => ?_
        obtain ⟨ws, w1, w2⟩ := rd_each eo
        obtain ⟨c, hc⟩ := sortedAll_at s.heap its out.toArray
        have hf : H (s.heap.objs.size + 1) = none := I.hok.fresh (Nat.le_succ _)
        obtain ⟨rl', rr⟩ := newOwn rl hf w2
        refine ⟨.ref (s.heap.objs.size + 1), upd H (s.heap.objs.size + 1) (.lst ws), I.laid (fun b o q => sortedAll_old q) (Nat.le_succ _) ⟨?_, out, c, w1, hc⟩, rfl, k _ m g _ _ sRefl rl' rr⟩
        rw [w1.length, ho]; exact p4
      · exact m.elim
    · exact m.elim
  · exact m.elim
end TL
namespace TL
open PySem PySem.Spec PyProof.Rows L2
section
variable {X : Cx} {pins : List (Addr × Obj)} {σ : L2.St} {H F : Hp} {s : Shared}
/-- a list of pairs as the library wants it -/
theorem tpairs_of (I : Inv X pins σ H s) (sF : Same F H) : ∀ {ds : List D} {vs : List V} {us : List Value}, Reps X.K F ds vs → Vals vs us → ds.all pairT = true →
    ∃ (as : List Addr) (ps : List (List Key × Addr × Value)), us = as.map Value.ref ∧ ps.length = as.length ∧ (∀ (j : Nat) (x : List Key × Addr × Value), ps[j]? = some x → ∃ b, as[j]? = some b ∧ IsTup s.heap b #[.ref x.2.1, x.2.2]) ∧
      (∀ x ∈ ps, H x.2.1 = some (.tup (x.1.map kV))) ∧ ∀ (acc : List (D × D)) (kvs : List (List Key × V)) (xs : List (List Key × Addr × Value)), RepT X.K F acc kvs → KT H kvs xs →
        ∃ kvs', RepT X.K F (ds.foldl putP acc) kvs' ∧ KT H kvs' (storedAllH xs ps)
  | _, _, _, .nil, .nil, _ => ⟨[], [], rfl, rfl, fun j x h => by simp at h, (fun x h => nomatch h), fun acc kvs xs r q => ⟨kvs, r, q⟩⟩
  | d :: ds, _, _, .cons r rs, .cons v vs, h => by
    rw [List.all_cons, Bool.and_eq_true] at h
    obtain ⟨h1, h2⟩ := h
    obtain ⟨as, ps, rfl, e, hp, hk, hf⟩ := tpairs_of I sF rs vs h2
    unfold pairT at h1
    split at h1
    · rename_i kd vd
      cases r with
      | tup ea ra =>
        rename_i a ws
        cases ra with
        | cons rk ra =>
          cases ra with
          | cons rv ra =>
            cases ra
            rename_i kv vv
            obtain ⟨_, its, wv, ht⟩ := I.hok a _ (sF _ _ ea)
            cases wv with
            | cons u1 wv =>
              cases wv with
              | cons u2 wv =>
                cases wv
                rename_i ku vu
                have hkd : ∃ l ks, kd = .tup l ∧ D.keys? l = some ks := by
                  cases kd with
                  | tup l =>
                    obtain ⟨ks, hks⟩ := Option.isSome_iff_exists.mp (show (D.keys? l).isSome = true from h1)
                    exact ⟨l, ks, rfl, hks⟩
                  | _ => exact absurd (show false = true from h1) (by decide)
                obtain ⟨l, ks, rfl, hks⟩ := hkd
                have el := keys_some hks
                subst el
                obtain ⟨ka, kws, rfl, ek, rk⟩ : ∃ ka kws, kv = .ref ka ∧ F ka = some (.tup kws) ∧ Reps X.K F (ks.map kD) kws := by
                  cases rk with
                  | tup ek rk => exact ⟨_, _, rfl, ek, rk⟩
                have ekk := Reps.keys rk
                subst ekk
                cases (show ku = .ref ka from u1)
                cases (show _ = Value.ref a from v)
                refine ⟨a :: as, (ks, ka, vu) :: ps, rfl, by simp [e], fun j x hj => ?_, fun x hx => ?_, fun acc kvs xs r q => ?_⟩
                · cases j with
                  | zero => cases hj; exact ⟨a, rfl, ht⟩
                  | succ j => exact hp j x hj
                · rcases List.mem_cons.mp hx with rfl | hx
                  · exact sF _ _ ek
                  · exact hk x hx
                · obtain ⟨kvs', g1, g2⟩ := hf (putD acc (kT ks) vd) (putK kvs ks vv) (storedH xs ks ka vu) (r.put ks rv) (q.put ks (sF _ _ ek) u2)
                  exact ⟨kvs', g1, g2⟩
    · cases h1
end
theorem N_dictT {B : Base} {X : Cx} {k0 : Nat} (hr : Room k0 X.A) : CallT B X (.type "dict") nDictT := .mk fun pins s σ H xs us Q g t σ' ds P I rs rl r m k => by
  unfold nDictT at m
  split at m
  · rename_i d
    unfold dictTX at m
    split at m
    · rename_i l
      split at m
      · rename_i h
        obtain ⟨p1, p2⟩ := h
        obtain ⟨v, rfl, r1⟩ := r.one
        obtain ⟨a, vs, rfl, ha, ra⟩ := r1.lst_inv rl.sub
        obtain ⟨u, rfl, rv⟩ := vals1 rs
        cases (show u = .ref a from rv)
        obtain ⟨z, its, n, rvs, hl, e⟩ := I.lstM ha
        obtain ⟨as, ps, rfl, el, hp, hk, hf⟩ := tpairs_of I rl.sub ra rvs p1
        have P := PairArg.list (prog := X.prog) (w := X.w) a (as.map Value.ref).toArray (fun j => as.getD j 0) (ps.map fun x => (Value.ref x.2.1, x.2.2))
        rw [List.length_map] at P
        have hlen : ps.length ≤ sizeLine := by rw [el, ← List.length_map (f := Value.ref), ← hl]; exact z
        have hun := hr.un
        refine call_dict_pairsH (knd := tupleKind (mixKind X.prog X.w)) (ps := ps) P hr.hd (show X.A.in1.in1.units < cLine by show X.A.units + 1 + 1 < cLine; omega) ⟨⟨_, n, e, rfl, rfl, rfl⟩, by simp [el], fun j kk vv hj => ?_⟩ ⟨rfl, fun i kk vv hi => ?_⟩ (fun h' hk' x hx => ?_) hlen fun h' tk hd' hk' => ?_
        · rw [List.getElem?_map] at hj
          obtain ⟨x, hx, ex⟩ := Option.map_eq_some_iff.mp hj
          cases ex
          obtain ⟨b, hb, ht⟩ := hp j x hx
          refine ⟨?_, .inl ?_⟩
          · rw [List.getElem?_toArray, List.getElem?_map, hb]
            show some _ = some (Value.ref (as.getD j 0))
            rw [List.getD_eq_getElem?_getD, hb]; rfl
          · show s.heap.IsTuple (as.getD j 0) _
            rw [List.getD_eq_getElem?_getD, hb]
            exact ht
        · have hi : (ps.map fun x => (Value.ref x.2.1, x.2.2))[i]? = some (kk, vv) := hi
          rw [List.getElem?_map] at hi
          obtain ⟨x, hx, ex⟩ := Option.map_eq_some_iff.mp hi
          cases ex
          exact ⟨_, _, hx, rfl⟩
        · obtain ⟨o, its2, n2, h1, h2, h3, h4⟩ := L2.key_of I.hok (hk x hx)
          exact ⟨o, its2, n2, hk' _ _ (Nat.ne_of_lt (Heap.lt_size h1)) (by simp) h1, h2, h3, h4⟩
        · have hk2 : ∀ b o, s.heap.get? b = some o → h'.get? b = some o := fun b o q => hk' b o (by simp) q
          obtain ⟨kvs', g1, g2⟩ := hf [] [] [] .nil .nil
          have hf0 : H s.heap.objs.size = none := I.hok.fresh (Nat.le_refl _)
          obtain ⟨rl', o1, o2, o3⟩ := rl.newO (o := .dT kvs') hf0
          obtain ⟨o, es, ep, q1, q2, q3, q4, q5, q6⟩ := hd'
          refine ⟨.ref s.heap.objs.size, upd H s.heap.objs.size (.dT kvs'), I.laid hk2 (Nat.le_refl _) ⟨?_, ?_, _, g2.keeps fun b ys q => ?_, o, es, ep, q1, q2, q3, q4, q6⟩, rfl, k _ m g _ _ sRefl rl' ⟨_, [_], rfl, .dT upd_same g1, by simp, fun b hb => by rw [List.mem_singleton.mp hb]; exact ⟨o1, o2, o3⟩⟩⟩
          · have e1 := g2.length
            have e2 := storedAllH_length ps []
            simp at e2
            omega
          · exact beq_eq_false_iff_ne.mpr (Ne.symm (Nat.ne_of_lt I.big))
          · rw [upd_ne (ne_of_none q hf0)]; exact q
      · exact m.elim
    · exact m.elim
  · exact m.elim
end TL
namespace TL
open PySem PySem.Spec PyProof.Rows L2
section
variable {X : Cx} {pins : List (Addr × Obj)} {σ : L2.St} {H : Hp} {sI s' : Shared} {Gr : Heap} {a C : Addr}
theorem ext_ok {P : Program} {w : World} {h : Heap} {oe : Obj} {vs : Array Value} (e : h.get? a = some oe) (z : L2N.Zn (.ref C) none oe) (q : oe.data = .fields vs) : ObjOk P w H h a (ExT C a) :=
  ⟨⟨oe, vs, e, z, q⟩, ⟨oe, e⟩, fun h1 h2 hh k => by
    obtain ⟨o, v, e1, e2, e3⟩ := hh
    exact ⟨o, v, k o e1, e2, e3⟩⟩
theorem landT (I : Inv X pins σ H sI) (nb : ∀ c u, sI.heap.get? c = some u → c ∉ frs X.stack → Gr.get? c = some u) (st : Gr.StaysIn s'.heap) (up : sI.heap.UpToSlots s'.heap) (eo : s'.os = sI.os) (eg : AllBare s'.gens) (gn : Gr.get? a = none) (nf : a ∉ frs X.stack) (na : H a = none)
    {oe : Obj} {vs : Array Value} (ea : s'.heap.get? a = some oe) (z : L2N.Zn (.ref C) none oe) (q : oe.data = .fields vs) : Inv X pins σ (upd H a (ExT C a)) s' := by
  have slots : ∀ c ∈ frs X.stack, ∀ u, sI.heap.get? c = some u → ∃ sl, s'.heap.get? c = some { u with slots := sl } := fun c hc u hu => by
    obtain ⟨_, u', hu', hd⟩ := I.stack.mem hc
    cases hu.symm.trans hu'
    exact up c u hu hd
  have un : Un (frs X.stack) [] H (upd H a (ExT C a)) sI.heap s'.heap := {
    keep := fun c u hu _ hc _ => st c u (nb c u hu hc)
    slot := fun c u hu _ hc _ => slots c hc u hu
    free := fun c u hu hn _ => by
      have ne : c ≠ a := by
        rintro rfl
        cases gn.symm.trans (nb c u hu nf)
      rw [upd_ne ne]; exact hn
    there := fun c u hu _ => by
      by_cases hc : c ∈ frs X.stack
      · obtain ⟨sl, hh⟩ := slots c hc u hu; exact ⟨_, hh⟩
      · exact ⟨u, st c u (nb c u hu hc)⟩
    tups := fun c xs hu => by rw [upd_ne (ne_of_none hu na)]; exact hu
    frzs := fun c o u hu => by rw [upd_ne (ne_of_none hu na)]; exact hu
    tbls := fun c ps hu => ⟨#[], by rw [upd_ne (ne_of_none hu na), hu]; simp⟩ }
  exact I.call' eo un (((I.inGround nb).kept st).laidN (fun _ _ k => k) na (ext_ok ea z q)) eg fun _ hm => nomatch hm
theorem inSuite (I : Inv X pins σ H sI) (a : Addr) : Inv (X.suite a (X.pn ++ pins)) [] σ H sI :=
  ⟨I.ok.suite _ _, I.os, I.bare, I.base, I.loc, I.cell, I.free, I.freeC, fun p hp => I.pin p (by rw [List.append_nil] at hp; exact hp), I.hok, I.len⟩
theorem outSuite (ok : X.Ok) (I : Inv (X.suite a (X.pn ++ pins)) [] σ H sI) : Inv X pins σ H sI :=
  ⟨ok, I.os, I.bare, I.base, I.loc, I.cell, I.free, I.freeC, fun p hp => I.pin p (List.mem_append_left _ hp), I.hok, I.len⟩
end
/-- what 'except x as n' wishes: every exception of the body is one of these, and is tracked from there on -/
def wKept (K : PySem.W.Frag) (c : Value) (i : Nat) (ts : Addr → TS) (D : Ends) : WX := fun cls d σ H =>
  PySem.W.exmOne K cls c = some true ∧ ∃ C, cls = .ref C ∧ d = none ∧ ∀ a, H a = none →
    ts a { nx := fun σ' H' => D.nx (σ'.set i none) H', rt := D.rt, bk := fun σ' H' => D.bk (σ'.set i none) H', ct := fun σ' H' => D.ct (σ'.set i none) H' } (σ.set i (some (.ref a))) (upd H a (ExT C a))
section
variable {X : Cx} {x n : Str} {c : Value} {i : Nat} {body suite : List Stmt} {b₀ : Stmt} {np pos pos' : Pos} {tb : WX → TS} {ts : Addr → TS}
theorem ps_tryK (hs : X.stack = X.env :: X.outer) (hf : X.env.frame = some X.env.locals) (hN : X.N.Nodup) (hi : X.N[i]? = some n) (hl : X.env.kindOf n = some .local) (hc : Names X x c)
    (hb : ∀ (W : WX) (pn : List (Addr × Obj)) (xe : Value → Shared → Prop), L2N.Takes (X.tr pn xe) W → PassesOwn (model X.prog X.w) X.A X.env xe → PSs (X.tr pn xe) body (tb W))
    (hu : ∀ (a : Addr) (pn : List (Addr × Obj)), PSs (X.suite a pn) (b₀ :: suite) (ts a)) :
    PS X (.Try body [.ExceptHandler (some (.Name x np)) (some n) (b₀ :: suite) pos'] [] [] pos) (fun D σ H => tb (wKept X.K c i ts D) D σ H) := by
  refine ⟨fun pins s σ H D I h => wpAny_Try_except ?_⟩
  have ok := I.ok
  have hfr := ok.frames.trans (congrArg some hs)
  refine wpAny_mono ((hb (wKept X.K c i ts D) (X.pn ++ pins) (fun e s₁ => wpAny (model X.prog X.w) X.A (noteFrame e X.env) (fun _ s₂ => wpAny (model X.prog X.w) X.A (setFlight e none) (fun _ s₃ => wpAny (model X.prog X.w) X.A (handleBy e X.env [.ExceptHandler (some (.Name x np)) (some n) (b₀ :: suite) pos']) (SP X pins D) X.xe s₃) X.xe s₂) X.xe s₁) (fun u s1 xx => ?_) PassesOwn.looking).run [] s σ H D (I.toTry _) h) (fun f s1 hsp => ?_) fun _ _ he => he
  · obtain ⟨a, Gr, sI, pins2, σ2, H2, cls, d, rfl, J0, nb, up, sky, na, eo, eg, hx, C, rfl, rfl, hgo⟩ := xx
    have J := J0.ofTry ok
    rw [show (X.tr (X.pn ++ pins) _).stack = X.stack from rfl, hs] at sky
    show wpAny (model X.prog X.w) X.A (noteFrame (.ref a) X.env) _ _ _
    refine L2N.Sky.land L2N.Zn.steady hfr hf sky fun h3 fl3 up3 => ?_
    have J3 : Inv X pins σ2 H2 { s1 with heap := h3 } := J.landed nb fl3.1 (up.trans up3) eo eg
    obtain ⟨o3, v3, e3, z3, d3⟩ := fl3.there
    have nfr : a ∉ frs (X.env :: X.outer) := fun hm => by
      obtain ⟨_, o', e', k⟩ := fl3.2.2.1.mem hm
      cases e3.symm.trans e'
      exact k _ d3
    have nL : a ≠ X.env.locals := fun q => nfr (List.mem_filterMap.mpr ⟨X.env, List.mem_cons_self, hf.trans (congrArg some q.symm)⟩)
    have nF : a ∉ X.fs := fun hm => by
      obtain ⟨e, he, q⟩ := List.mem_filterMap.mp hm
      exact nfr (List.mem_filterMap.mpr ⟨e, List.mem_cons_of_mem _ he, q⟩)
    have S3 := J3.suite e3 d3 na nL nF
    refine wpAny_handleBy_cons (codeAny_handlers_test ?_) nofun
    have LT : PySem.W.Looks (model X.prog X.w) h3 (typeOf (.ref a)) (.ref C) := fun A Q E s k q => wpAny_typeOf_ref (k _ _ e3) (by rw [z3.1]; exact q)
    have LM := PySem.W.exm_one (M := model X.prog X.w) J3.kIn LT hx
    have test : ∀ {Q : Value → Shared → Prop} {E : Value → Shared → Prop}, Q c { s1 with heap := h3 } → wpAny (model X.prog X.w) (X.A.mark (some (.ref a))) (eval (.Name x np) X.env) Q E { s1 with heap := h3 } := by
      intro Q E q
      obtain ⟨hg, hd, hm | ⟨hm, hv, hn⟩⟩ := hc
      · exact ld_glob (X := X.suite a ((a, o3) :: (X.pn ++ pins))) S3 hg hm q hd
      · exact ld_blt (X := X.suite a ((a, o3) :: (X.pn ++ pins))) S3 hg hm hv q hn hd
    refine test (LM.here ?_)
    show codeAny _ _ _ _ _
    refine codeAny_handlers_suite_as (HandSPX.lands_againZ fl3 fun h4 fl4 up4 => ?_)
    obtain ⟨o4, v4, e4, z4, d4⟩ := fl4.there
    have J4 : Inv X pins σ2 (upd H2 a (ExT C a)) { s1 with heap := h4 } := landT J nb fl4.1 ((up.trans up3).trans up4) eo eg fl4.2.1 (by rw [hs]; exact nfr) na e4 z4 d4
    refine store_ok (X := X.suite a (X.pn ++ pins)) (v := .ref a) (inSuite J4 a) hN hi (.inl hl) rfl (fun s5 S5 => ?_) (.inr hl)
    refine wpAny_mono ((hu a (X.pn ++ pins)).run [] s5 _ _ _ S5 (hgo a na)) (fun f s6 hsp => ?_) fun _ _ z => z.elim
    have fin : ∀ {σ6 : L2.St} {H6 : Hp} {Q : Shared → Prop}, Inv (X.suite a (X.pn ++ pins)) [] σ6 H6 s6 → (∀ s7, Inv X pins (σ6.set i none) H6 s7 → Q s7) → wpAny (model X.prog X.w) X.A (do bindName X.env n .none; unbindBehindTheSuite X.env n pos') (fun _ s7 => Q s7) X.xe s6 :=
      fun S6 hq => gone_ok (outSuite ok S6) hN hi hl hq
    cases f with
    | next => obtain ⟨σ6, H6, S6, q6⟩ := hsp; exact fin S6 fun s7 J7 => ⟨_, _, J7, q6⟩
    | brk => obtain ⟨σ6, H6, S6, q6⟩ := hsp; exact fin S6 fun s7 J7 => ⟨_, _, J7, q6⟩
    | cont => obtain ⟨σ6, H6, S6, q6⟩ := hsp; exact fin S6 fun s7 J7 => ⟨_, _, J7, q6⟩
    | ret u => obtain ⟨v6, σ6, H6, S6, r6, q6⟩ := hsp; exact fin S6 fun s7 J7 => ⟨_, _, _, J7, r6, q6⟩
  · cases f with
    | next => obtain ⟨σ2, H2, J, q⟩ := hsp; exact wpAny_execs_nil ⟨σ2, H2, J.ofTry ok, q⟩
    | brk => obtain ⟨σ2, H2, J, q⟩ := hsp; exact ⟨σ2, H2, J.ofTry ok, q⟩
    | cont => obtain ⟨σ2, H2, J, q⟩ := hsp; exact ⟨σ2, H2, J.ofTry ok, q⟩
    | ret u => obtain ⟨v, σ2, H2, J, r, q⟩ := hsp; exact ⟨v, σ2, H2, J.ofTry ok, r, q⟩
end
end TL
namespace TL
open PySem PySem.Spec PyProof.Rows L2
/-- what the text's top says of the exception class n -/
def ClsF (K : PySem.W.Frag) (mg : Str → Option Value) (n : String) : Prop := ∃ C, mg (Str.ofString n) = some (.ref C) ∧ ClsAt K n C
structure RaiseF (K : PySem.W.Frag) (mg : Str → Option Value) (n : String) : Prop where
  ex : ∃ C, mg (Str.ofString n) = some (.ref C) ∧ ClsAt K n C ∧ PySem.W.excIn K C [.type "ValueError", .type "Exception", .type "BaseException", .type "object"] "ValueError.__new__" = true ∧ PySem.W.keepIn K (.ref C) = true ∧
    PySem.W.subIn K (.ref C) (.type "BaseException") = some true ∧ PySem.W.typeIn K (.ref C) = some (.type "type")
section
variable {B : Base} {X : Cx} {e : Expr} {w : WE} {pos p p2 : Pos} {n : String}
theorem T_noX (h : PET B X e w) : PET B X e (wNoX w) := fun W _ => h noX takes_noX
theorem T_cls (hc : ClsF X.K X.mg n) (hg : Gl X (Str.ofString n) := by rfl) (hd : ((Str.ofString n) == ("__debug__" : Str)) = false := by rfl) : PET B X (.Name (Str.ofString n) pos) (wC (.cl n)) := by
  obtain ⟨C, h1, h2⟩ := hc
  exact T_glob (v := .ref C) hg h1 rfl (fun _ => .cl h2) hd
theorem S_raise {m : Str} {j : Nat} {pos' : Pos} (hr : RaiseF X.K X.mg n) (hc : X.calm = true := by rfl) (hg : Gl X (Str.ofString n) := by rfl) (hd : ((Str.ofString n) == ("__debug__" : Str)) = false := by rfl) :
    PST B X (.Raise (some (.Call (.Name (Str.ofString n) p) [.Constant (.str m) j p2] [] pos)) none pos') (wRaise n) := by
  obtain ⟨C, h1, h2, h3, h4, h5, h6⟩ := hr.ex
  refine fun W tk => PS.imp (L2N.ps_raise hc tk (L2N.pmk_own PySem.F.excBase_ValueError h3 h1 h4 (raises_own h5 h6) hg hd)) fun D σ H h => ?_
  obtain ⟨g, t, P, rl, mm, _⟩ := h
  exact ⟨n, ⟨C, rfl, h2⟩, g, t, none, rl, .no, mm⟩
end
theorem Rel.toB {K : PySem.W.Frag} {B : Base} {g : Gh} {t : TSt} {σ : L2.St} {H : Hp} (r : Rel K B g t σ H) : Rel K { B with F := g.F } g t σ H :=
  ⟨sRefl, r.sub, r.ff, fun a o e n => ⟨(r.old a o e n).1, (r.old a o e n).2.1, fun z => z⟩, r.ft, r.dm, r.there, r.len, fun i s e => by
    have := r.slot i s e
    cases s <;> exact this⟩
theorem Rel.ofB {K : PySem.W.Frag} {B : Base} {g g' : Gh} {t t' : TSt} {σ σ' : L2.St} {H H' : Hp} (r : Rel K B g t σ H) (r' : Rel K { B with F := g.F } g' t' σ' H') : Rel K B g' t' σ' H' :=
  ⟨r.base.trans r'.base, r'.sub, r'.ff, fun a o e n => ⟨(r'.old a o e n).1, (r'.old a o e n).2.1, fun z => (r'.old a o e n).2.2 ((r.old a o e n).2.2 z)⟩, r'.ft, r'.dm, r'.there, r'.len, fun i s e => by
    have := r'.slot i s e
    cases s <;> exact this⟩
theorem ResRel.ofB {K : PySem.W.Frag} {B : Base} {g g' : Gh} {H : Hp} {r : R} {v : V} (h : ResRel K { B with F := g.F } g' H r v) : ResRel K B g' H r v := by
  cases r <;> exact h
theorem Rel.ofB2 {K : PySem.W.Frag} {B : Base} {F2 : Hp} {g' : Gh} {t' : TSt} {σ' : L2.St} {H' : Hp} (hs : Same B.F F2) (hF : ∀ a o, B.H a = some o → a ∉ B.foot → B.F a = none → F2 a = none) (r' : Rel K { B with F := F2 } g' t' σ' H') : Rel K B g' t' σ' H' :=
  ⟨hs.trans r'.base, r'.sub, r'.ff, fun a o e n => ⟨(r'.old a o e n).1, (r'.old a o e n).2.1, fun z => (r'.old a o e n).2.2 (hF a o e n z)⟩, r'.ft, r'.dm, r'.there, r'.len, fun i s e => by
    have := r'.slot i s e
    cases s <;> exact this⟩
theorem ResRel.ofB2 {K : PySem.W.Frag} {B : Base} {F2 : Hp} {g' : Gh} {H : Hp} {r : R} {v : V} (h : ResRel K { B with F := F2 } g' H r v) : ResRel K B g' H r v := by
  cases r <;> exact h
/-- the exception that is handled is tracked -/
def HotB (B : Base) (X : Cx) : Prop := ∃ a C, X.A.handled = some (.ref a) ∧ B.F a = some (ExT C a)
section
variable {B : Base} {X : Cx} {x nm : Str} {c : Value} {body suite : List Stmt} {b₀ : Stmt} {np pos pos' : Pos} {u v : WS}
theorem S_tryAs (i : Nat) (ns : List String) (hN : X.N.Nodup) (hx : ∀ n, ns.contains n = true → ∀ C, ClsAt X.K n C → PySem.W.exmOne X.K (.ref C) c = some true) (hm : X.mg x = some c)
    (hb : ∀ B pn xe, PassesOwn (model X.prog X.w) X.A X.env xe → PSsT B (X.tr pn xe) body u) (hu : ∀ B a pn, HotB B (X.suite a pn) → PSsT B (X.suite a pn) (b₀ :: suite) v)
    (hg : Gl X x := by rfl) (hd : (x == ("__debug__" : Str)) = false := by rfl) (hs : X.stack = X.env :: X.outer := by rfl) (hf : X.env.frame = some X.env.locals := by rfl) (hi : X.N[i]? = some nm := by rfl) (hl : X.env.kindOf nm = some .local := by rfl) :
    PST B X (.Try body [.ExceptHandler (some (.Name x np)) (some nm) (b₀ :: suite) pos'] [] [] pos) (wTryAs i ns u v) := by
  refine fun W tk => PS.imp (ps_tryK (tb := fun Wx D σ H => ∃ B' W', (∀ cls d σ H, wxOf X.K B' W' cls d σ H → Wx cls d σ H) ∧ sOf X.K B' (u W') D σ H) (ts := fun a D σ H => ∃ B', HotB B' (X.suite a []) ∧ sOf X.K B' (v noX) D σ H) hs hf hN hi hl ⟨hg, hd, .inl hm⟩ (fun Wx pn xe tx po => ⟨?_⟩) (fun a pn => ⟨?_⟩)) fun D σ H h => ?_
  · intro pins s σ H D I q
    obtain ⟨B', W', im, q⟩ := q
    exact (hb B' pn xe po W' (tx.imp im)).run pins s σ H D I q
  · intro pins s σ H D I q
    obtain ⟨B', hot, q⟩ := q
    exact (hu B' a pn hot noX takes_noX).run pins s σ H D I q
  · obtain ⟨g, t, P, rl, m, k1, k2, k3, k4⟩ := h
    have m' : u (fun n pay t1 => catchK i ns v n pay t1 P) t P := m
    refine ⟨{ B with F := g.F }, _, fun cls d σ1 H1 hw => ?_, g, t, P, rl.toB, m', fun t' m1 g' σ' H' s1 rl1 => k1 t' m1 g' σ' H' s1 (rl.ofB rl1), fun r t' m1 g' σ' v' H' s1 rl1 rr1 => k2 r t' m1 g' σ' v' H' s1 (rl.ofB rl1) rr1.ofB, fun t' m1 g' σ' H' s1 rl1 => k3 t' m1 g' σ' H' s1 (rl.ofB rl1), fun t' m1 g' σ' H' s1 rl1 => k4 t' m1 g' σ' H' s1 (rl.ofB rl1)⟩
    obtain ⟨n, ⟨C, rfl, hC⟩, g1, t1, pay, rl1, pr, hmem, rfl, hst⟩ := hw
    have hd : d = none := by cases pr; rfl
    refine ⟨hx n hmem C hC, C, rfl, hd, fun a na => ?_⟩
    obtain ⟨sF, rl2⟩ := rl1.newF (o := ExT C a) na
    obtain ⟨ow', t2, hv, rl3⟩ := Rel.set (i := i) (r := .v (.exc n)) (x := .ref a) rl2 (show Rep X.K (upd g1.F a (ExT C a)) (.exc n) (.ref a) from .exc hC upd_same) hst
    have up : Same g.F (upd g1.F a (ExT C a)) := (show Same g.F g1.F from rl1.base).trans sF
    have sB : Same B.F (upd g1.F a (ExT C a)) := rl.base.trans up
    have nB : B.H a = none := rl1.dom a na
    have hF : ∀ a' o, B.H a' = some o → a' ∉ B.foot → B.F a' = none → upd g1.F a (ExT C a) a' = none := fun a' o e n z => by
      have ne : a' ≠ a := by rintro rfl; rw [nB] at e; cases e
      rw [upd_ne ne]
      exact (rl1.old a' o e n).2.2 ((rl.old a' o e n).2.2 z)
    refine ⟨{ B with F := upd g1.F a (ExT C a) }, ⟨a, C, rfl, upd_same⟩, ⟨upd g1.F a (ExT C a), ow'⟩, t2, _, rl3.toB, hv, fun t3 m3 g3 σ3 H3 s3 rl4 => ?_, fun r t3 m3 g3 σ3 v3 H3 s3 rl4 rr => ?_, fun t3 m3 g3 σ3 H3 s3 rl4 => ?_, fun t3 m3 g3 σ3 H3 s3 rl4 => ?_⟩
    · exact k1 _ m3 g3 _ H3 (up.trans s3) (.ofB2 sB hF rl4.setUn)
    · exact k2 _ _ m3 g3 _ v3 H3 (up.trans s3) (.ofB2 sB hF rl4) rr.ofB2
    · exact k3 _ m3 g3 _ H3 (up.trans s3) (.ofB2 sB hF rl4.setUn)
    · exact k4 _ m3 g3 _ H3 (up.trans s3) (.ofB2 sB hF rl4.setUn)
end
/-- of each class that may be caught: how it is asked; of these and each that is asked for: the answer -/
structure XTab (K : PySem.W.Frag) (ns ms : List String) : Prop where
  c : ∀ n, ns.contains n = true → ∃ C, ClsAt K n C ∧ ExcC K C ∧ PySem.W.kitOne K (.ref C) (.type "ValueError") = some true ∧ ∀ m, ms.contains m = true → ∃ M, ClsAt K m M ∧ PySem.W.kitOne K (.ref C) (.ref M) = some (subB n m)
theorem ClsAt.eq {K : PySem.W.Frag} {n : String} {C M : Addr} (h : ClsAt K n C) (h' : ClsAt K n M) : C = M := by
  have := h.symm.trans h'
  simpa using this
section
variable {B : Base} {X : Cx} {ns ms : List String}
theorem kit_one (T : XTab X.K ns ms) {n : String} {F : Hp} {C : Addr} (hC : ClsAt X.K n C) {c : D} {v : V} {b : Bool} (r : Rep X.K F c v) (h : isE1 ns ms n c = some b) : ∃ u, ClsV v u ∧ PySem.W.kitOne X.K (.ref C) u = some b := by
  unfold isE1 at h
  split at h
  · split at h
    · rename_i m hh
      rw [Bool.and_eq_true] at hh
      obtain ⟨C', c1, c2, c3, c4⟩ := T.c n hh.1
      cases hC.eq c1
      obtain ⟨M, m1, m2⟩ := c4 m hh.2
      cases h
      cases r with
      | cl hM => cases hM.eq m1; exact ⟨_, .own _, m2⟩
    · cases h
  · split at h
    · rename_i m hh
      rw [Bool.and_eq_true] at hh
      obtain ⟨C', c1, c2, c3, c4⟩ := T.c n hh.1
      cases hC.eq c1
      have em : m = "ValueError" := by simpa using hh.2
      subst em
      cases h
      cases r with
      | ty _ => exact ⟨_, .ty _, c3⟩
    · cases h
  · cases h
theorem kit_any (T : XTab X.K ns ms) {n : String} {F : Hp} {C : Addr} (hC : ClsAt X.K n C) : ∀ {cs : List D} {vs : List V} {b : Bool}, Reps X.K F cs vs → isEs ns ms n cs = some b → ∃ us, Paired ClsV vs us ∧ PySem.W.kitAny X.K (.ref C) us = some b
  | _, _, _, .nil, h => by cases h; exact ⟨[], .nil, rfl⟩
  | c :: cs, _, b, .cons r rs, h => by
    obtain ⟨b1, h1, h⟩ := Option.bind_eq_some_iff.mp (show (isE1 ns ms n c).bind _ = some b from h)
    obtain ⟨b2, h2, h⟩ := Option.bind_eq_some_iff.mp h
    cases h
    obtain ⟨u, k1, k2⟩ := kit_one T hC r h1
    obtain ⟨us, k3, k4⟩ := kit_any T hC rs h2
    refine ⟨u :: us, .cons k1 k3, kitAny_cons k2 (fun e => ?_) fun e => ?_⟩
    · rw [k4, e]; rfl
    · rw [e]; rfl
theorem isE_has {n : String} {c : D} {b : Bool} (h : isE1 ns ms n c = some b) : ns.contains n = true := by
  unfold isE1 at h
  split at h
  · split at h
    · rename_i hh; rw [Bool.and_eq_true] at hh; exact hh.1
    · cases h
  · split at h
    · rename_i hh; rw [Bool.and_eq_true] at hh; exact hh.1
    · cases h
  · cases h
theorem N_isE (T : XTab X.K ns ms) : CallT B X (.builtin "isinstance") (nIsE ns ms) := .mk fun pins s σ H xs us Q g t σ' ds P I rs rl r m k => by
  unfold nIsE at m
  split at m
  · rename_i d c
    obtain ⟨b, hb, mp⟩ := oP_get m
    obtain ⟨v, u, rfl, r1, r2⟩ := r.two
    obtain ⟨u1, u2, rfl, q1, q2⟩ := vals2 rs
    unfold isEX at hb
    split at hb
    · rename_i n
      have hx : ∃ a C, v = .ref a ∧ ClsAt X.K n C ∧ g.F a = some (ExT C a) := by
        cases r1 with
        | rep r1 => cases r1 with
          | exc hC ha => exact ⟨_, _, rfl, hC, ha⟩
      obtain ⟨a, C, rfl, hC, ha⟩ := hx
      cases (show u1 = Value.ref a from q1)
      have inst : (∃ c', ns.contains n = true ∧ c' = c) → ∃ oe, PySem.W.InstAt s.heap a oe C none ∧ ExcC X.K C := by
        rintro ⟨_, hn, _⟩
        obtain ⟨C', c1, c2, _, _⟩ := T.c n hn
        cases hC.eq c1
        obtain ⟨⟨oe, vs, e1, z, e3⟩, _, _⟩ := I.hok a _ (rl.sub _ _ ha)
        obtain ⟨oc, od, oda, osl⟩ := oe
        obtain ⟨z1, z2, _⟩ := z
        simp only at z1 z2 e3
        subst z1 z2 e3
        exact ⟨_, ⟨e1, rfl, rfl, trivial⟩, c2⟩
      have last : ∀ tk, EP X pins σ Q (.bool b) { s with toks := tk } := fun tk => ⟨.bl b, H, I.kept (t' := tk) fun _ _ z => z, rfl, k _ mp g _ H sRefl rl (Rep.bl _)⟩
      split at hb
      · rename_i cs
        cases cs with
        | nil => cases hb
        | cons c0 cs =>
          have hb : isEs ns ms n (c0 :: cs) = some b := hb
          obtain ⟨b1, h1, _⟩ := Option.bind_eq_some_iff.mp (show (isE1 ns ms n c0).bind _ = some b from hb)
          obtain ⟨oe, J, EC⟩ := inst ⟨_, isE_has h1, rfl⟩
          cases r2 with
          | rep r2 => cases r2 with
            | @tup tp _ ws hT rT =>
              cases (show u2 = Value.ref tp from q2)
              obtain ⟨us, k1, k2⟩ := kit_any T hC rT hb
              obtain ⟨_, its, rv, o, o1, o2, nn, o3⟩ := (show ObjOk X.prog X.w H s.heap tp (.tup ws) from I.hok tp _ (rl.sub _ _ hT))
              cases ClsV.all k1 rv
              obtain ⟨oc, od, dt, sl⟩ := o
              simp only at o2 o3
              subst o2 o3
              exact PySem.W.kia_tup (PySem.W.handS_kitx_exc EC.hg EC.hk EC.hs EC.hd EC.ha EC.hn EC.ht EC.hm) I.kIn J o1 k2 (fun z => nomatch z) last
      · rename_i hnt
        obtain ⟨oe, J, EC⟩ := inst ⟨_, isE_has hb, rfl⟩
        have r2 : Rep X.K g.F c u := by
          cases r2 with
          | rep r2 => exact r2
          | _ => unfold isE1 at hb; cases hb
        obtain ⟨w, k1, k2⟩ := kit_one T hC r2 hb
        cases k1.eq q2
        exact PySem.W.kia_one (PySem.W.handS_kitx_exc EC.hg EC.hk EC.hs EC.hd EC.ha EC.hn EC.ht EC.hm) I.kIn J k2 (fun z => nomatch z) last
    · cases hb
  · exact m.elim
end
end TL
namespace TL
open PySem PySem.Spec PyProof.Rows L2
structure RoomW (k : Nat) (A : Around) : Prop where
  dp : A.depth + dco k + 5 < recursionLimit
  un : A.units + 16 * k + 200 < cLine
theorem RoomW.mono {j k : Nat} {A : Around} (r : RoomW k A) (h : j ≤ k) : RoomW j A := ⟨by have := r.dp; have := dco_mono h; omega, by have := r.un; omega⟩
theorem RoomW.of {k : Nat} {A : Around} (r : RoomG k A) : RoomW k A := ⟨r.q.dp, r.q.un⟩
theorem RoomW.mark {k : Nat} {A : Around} {v : Option Value} (r : RoomW k A) : RoomW k (A.mark v) := ⟨r.dp, r.un⟩
theorem RoomW.down {k : Nat} {A : Around} (r : RoomW (k + 1) A) (env : Env) : RoomW k (A.deeper env) :=
  ⟨by have := r.dp; have := dco_s k; show A.depth + 1 + dco k + 5 < _; omega, by have := r.un; show A.units + 3 + 16 * k + 200 < _; omega⟩
structure FnW (P : Program) (w : World) (K : PySem.W.Frag) (mg : Str → Option Value) (base : Heap) (CX : CXT) (k : Nat) (f : Addr) (fd : FuncData) (ps : List Str) (sp : Sp) : Prop where
  len : ∀ vs H Q E, sp vs H Q E → vs.length = ps.length
  run : ∀ (A : Around) (outer : List Env) (s : Shared) (H : Hp) (args : Args) (us : List Value) (vs : List V) (Q : VK) (E : XK), RoomW k A → Env0 P w K mg base A outer s H → BindsTo s fd args (ps.zip us) → Vals vs us → sp vs H Q E →
    codeAny (model P w) A (.call (.ref f) args) (CR CX outer P w H s Q E) s
section
variable {P : Program} {w : World} {K : PySem.W.Frag} {mg : Str → Option Value} {base : Heap}
end
section
variable {B : Base} {X : Cx} {e : Expr} {es : List Expr} {pos p : Pos} {wa : WAA}
end
structure CalW (P : Program) (w : World) (K : PySem.W.Frag) (mg : Str → Option Value) (base : Heap) (k : Nat) (x : Str) (n : Nat) (ts : TSpec) : Prop where
  ex : ∃ f fd ps, ps.length = n ∧ FnW P w K mg base (L2N.CX P w) k f fd ps (toSp K n ts) ∧ mg x = some (.ref f) ∧ PySem.W.keepIn K (.ref f) = true ∧ Binds K fd ps []
  hl : ∀ args PQ PX, ts args PQ PX → args.length = n
section
variable {B : Base} {X : Cx} {e : Expr} {es : List Expr} {wA : WAA} {pos p : Pos} {P : Program} {w : World} {K : PySem.W.Frag} {mg : Str → Option Value} {base : Heap}
end
section
variable {B : Base} {X : Cx} {e : Expr} {we : WE} {pos pos' apos cpos : Pos} {x name : Str} {id : String}
end
section
variable {B : Base} {X : Cx}
end
end TL
namespace TL
open PySem PySem.Spec PyProof.Rows L2
/-- an except clause that names E takes each of these -/
def TryF (K : PySem.W.Frag) (mg : Str → Option Value) (ns : List String) (E : String) : Prop := ∃ c, mg (Str.ofString E) = some c ∧ ∀ n, ns.contains n = true → ∀ C, ClsAt K n C → PySem.W.exmOne K (.ref C) c = some true
section
variable {B : Base} {X : Cx} {E : String} {nm : Str} {body suite : List Stmt} {b₀ : Stmt} {np pos pos' : Pos} {u v : WS}
theorem S_tryE (i : Nat) (ns : List String) (hN : X.N.Nodup) (tf : TryF X.K X.mg ns E)
    (hb : ∀ B pn xe, PassesOwn (model X.prog X.w) X.A X.env xe → PSsT B (X.tr pn xe) body u) (hu : ∀ B a pn, HotB B (X.suite a pn) → PSsT B (X.suite a pn) (b₀ :: suite) v)
    (hg : Gl X (Str.ofString E) := by rfl) (hd : ((Str.ofString E) == ("__debug__" : Str)) = false := by rfl) (hs : X.stack = X.env :: X.outer := by rfl) (hf : X.env.frame = some X.env.locals := by rfl) (hi : X.N[i]? = some nm := by rfl) (hl : X.env.kindOf nm = some .local := by rfl) :
    PST B X (.Try body [.ExceptHandler (some (.Name (Str.ofString E) np)) (some nm) (b₀ :: suite) pos'] [] [] pos) (wTryAs i ns u v) := by
  obtain ⟨c, hm, hx⟩ := tf
  exact S_tryAs i ns hN hx hm hb hu hg hd hs hf hi hl
end
theorem kit_ref {K : PySem.W.Frag} {D M : Addr} {b : Bool} (hs : PySem.W.subIn K (.ref D) (.ref M) = some b) (hd : PySem.W.subIn K (.ref D) (.ref D) = some true) (hc : PySem.W.hasDictIn K M = true) (ht : PySem.W.typeIn K (.ref M) = some (.type "type")) : PySem.W.kitOne K (.ref D) (.ref M) = some b := by
  obtain ⟨cd, h1, _⟩ := PySem.W.any_some hc
  have e : ((PySem.W.clsIn K M).isSome && PySem.W.typeIn K (.ref M) == some (.type "type")) = true := by rw [h1, ht]; rfl
  unfold PySem.W.kitOne
  by_cases z : (Value.ref D == Value.ref M) = true
  · rw [if_pos z]
    have : D = M := Value.ref.inj (beq_iff_eq.mp z)
    subst this
    rw [← hs, hd]
  · rw [if_neg z]
    show (if ((PySem.W.clsIn K M).isSome && PySem.W.typeIn K (.ref M) == some (.type "type")) = true then PySem.W.subIn K (.ref D) (.ref M) else none) = some b
    rw [if_pos e, hs]
theorem kit_val {K : PySem.W.Frag} {D : Addr} (hs : PySem.W.subIn K (.ref D) (.type "ValueError") = some true) : PySem.W.kitOne K (.ref D) (.type "ValueError") = some true := by
  unfold PySem.W.kitOne
  split
  · rfl
  · show (if PySem.W.kitMeta "ValueError" = true then PySem.W.subIn K (.ref D) (.type "ValueError") else none) = some true
    rw [if_pos (by decide +kernel), hs]
theorem exm_ref' {K : PySem.W.Frag} {C E : Addr} (h1 : PySem.W.subIn K (.ref E) (.type "BaseException") = some true) (hc : PySem.W.hasDictIn K E = true) (ht : PySem.W.typeIn K (.ref E) = some (.type "type")) (h4 : PySem.W.subIn K (.ref C) (.ref E) = some true) : PySem.W.exmOne K (.ref C) (.ref E) = some true := PySem.W.exm_ref h1 hc ht h4
end TL
namespace TL
open PySem PySem.Spec PyProof.Rows L2
def maxL : List Int → Option D
  | [] => none
  | n :: ns => some (.int (ns.foldl max n))
def minL : List Int → Option D
  | [] => none
  | n :: ns => some (.int (ns.foldl min n))
def itI : D → Option (List Int)
  | .lst l => D.ints l
  | .tup l => D.ints l
  | _ => none
def max1X (d : D) : Option D := (itI d).bind maxL
def min1X (d : D) : Option D := (itI d).bind minL
def nMax1 : OpN
  | [d], Q => oP (max1X d) fun d => Q (.v d)
  | _, _ => False
def nMin1 : OpN
  | [d], Q => oP (min1X d) fun d => Q (.v d)
  | _, _ => False
theorem e_nMax1 (d : D) (Q : R → Prop) : nMax1 [d] Q = oP (max1X d) fun d => Q (.v d) := rfl
theorem e_nMin1 (d : D) (Q : R → Prop) : nMin1 [d] Q = oP (min1X d) fun d => Q (.v d) := rfl
theorem foldl_max_of : ∀ (ns : List Int) (n m : Int), m ∈ n :: ns → (∀ y, y ∈ n :: ns → y ≤ m) → ns.foldl max n = m
  | [], n, m, h, _ => (List.mem_singleton.mp h).symm
  | k :: ns, n, m, h, g => by
    refine foldl_max_of ns (max n k) m ?_ fun y hy => ?_
    · have h1 := g n (by simp)
      have h2 := g k (by simp)
      rcases List.mem_cons.mp h with rfl | h
      · rw [Int.max_eq_left h2]; exact .head _
      · rcases List.mem_cons.mp h with rfl | h
        · rw [Int.max_eq_right h1]; exact .head _
        · exact .tail _ h
    · rcases List.mem_cons.mp hy with rfl | hy
      · exact Int.max_le.mpr ⟨g n (by simp), g k (by simp)⟩
      · exact g y (by simp [hy])
theorem foldl_min_of : ∀ (ns : List Int) (n m : Int), m ∈ n :: ns → (∀ y, y ∈ n :: ns → m ≤ y) → ns.foldl min n = m
  | [], n, m, h, _ => (List.mem_singleton.mp h).symm
  | k :: ns, n, m, h, g => by
    refine foldl_min_of ns (min n k) m ?_ fun y hy => ?_
    · have h1 := g n (by simp)
      have h2 := g k (by simp)
      rcases List.mem_cons.mp h with rfl | h
      · rw [Int.min_eq_left h2]; exact .head _
      · rcases List.mem_cons.mp h with rfl | h
        · rw [Int.min_eq_right h1]; exact .head _
        · exact .tail _ h
    · rcases List.mem_cons.mp hy with rfl | hy
      · exact Int.le_min.mpr ⟨g n (by simp), g k (by simp)⟩
      · exact g y (by simp [hy])
end TL
namespace TL
open PySem PySem.Spec PyProof.Rows L2
theorem readsI {h : Heap} : ∀ {us : List Value} {ns : List Int}, Vals (ns.map V.int) us → ReadsAll h us (ns.map PyData.int) []
  | _, [], .nil => .nil
  | _, n :: ns, .cons v vs => by
    obtain ⟨t, rfl⟩ := v
    exact .cons (as := []) (.int n t) (readsI vs)
theorem alikeI (ns : List Int) : PySem.W.AlikeAll (ns.map PyData.int) := by
  refine ⟨fun a ha b hb => ?_, fun a ha => ?_⟩
  · obtain ⟨x, _, rfl⟩ := List.mem_map.mp ha
    obtain ⟨y, _, rfl⟩ := List.mem_map.mp hb
    rfl
  · obtain ⟨x, _, rfl⟩ := List.mem_map.mp ha
    exact fun z => nomatch z
theorem depthI : ∀ ns : List Int, PyData.depthAll (ns.map PyData.int) ≤ 1
  | [] => by decide
  | n :: ns => by
    have := depthI ns
    simp only [List.map_cons, PyData.depthAll, PyData.depth]
    omega
section
variable {B : Base} {X : Cx}
theorem N_max1 (hu : X.A.units + 66 < cLine) (hc : X.calm = true := by rfl) : CallT B X (.builtin "max") nMax1 := .mk fun pins s σ H xs us Q g t σ' ds P I rs rl r m k => by
  unfold nMax1 at m
  split at m
  · rename_i d
    obtain ⟨e, he, m2⟩ := oP_get m
    obtain ⟨ns, hn, he⟩ := Option.bind_eq_some_iff.mp he
    obtain ⟨v, rfl, r1⟩ := r.one
    cases ns with
    | nil => cases he
    | cons n ns =>
      cases he
      unfold itI at hn
      split at hn
      · obtain ⟨a, vs, rfl, ha, ra⟩ := r1.lst_inv rl.sub
        rw [ints_some hn] at ra
        rw [ra.ints] at ha
        refine cr_max hc pins s σ H _ us Q I rs ⟨a, n :: ns, rfl, .of ha, by simp, fun z h1 h2 => ?_⟩
        rw [← foldl_max_of ns n z h1 h2]
        exact k _ m2 g _ H sRefl rl (Rep.int _)
      · obtain ⟨a, vs, rfl, ha, ra⟩ := r1.tup_inv rl.sub
        rw [ints_some hn] at ra
        rw [ra.ints] at ha
        obtain ⟨u, rfl, rv⟩ := vals1 rs
        cases (show u = .ref a from rv)
        obtain ⟨its, rvs, hl, _⟩ := I.tuple (.of ha)
        refine PySem.W.max_tuple_data (I.ok.hd hc) (show s.heap.IsTuple a its.toArray from hl) (readsI (ns := n :: ns) rvs) (alikeI (n :: ns)) (by have := depthI (n :: ns); show _ + 1 + PyData.depthAll ((n :: ns).map PyData.int) < _; omega) fun i v h' tk bs hv hr hk => ?_
        rw [PySem.W.maxD_ints] at hr
        cases hr
        exact ⟨.int _, H, I.kept hk, ⟨_, rfl⟩, k _ m2 g _ H sRefl rl (Rep.int _)⟩
      · cases hn
  · exact m.elim
theorem N_min1 (hu : X.A.units + 66 < cLine) (hc : X.calm = true := by rfl) : CallT B X (.builtin "min") nMin1 := .mk fun pins s σ H xs us Q g t σ' ds P I rs rl r m k => by
  unfold nMin1 at m
  split at m
  · rename_i d
    obtain ⟨e, he, m2⟩ := oP_get m
    obtain ⟨ns, hn, he⟩ := Option.bind_eq_some_iff.mp he
    obtain ⟨v, rfl, r1⟩ := r.one
    cases ns with
    | nil => cases he
    | cons n ns =>
      cases he
      unfold itI at hn
      split at hn
      · obtain ⟨a, vs, rfl, ha, ra⟩ := r1.lst_inv rl.sub
        rw [ints_some hn] at ra
        rw [ra.ints] at ha
        refine cr_min hc pins s σ H _ us Q I rs ⟨a, n :: ns, rfl, .of ha, by simp, fun z h1 h2 => ?_⟩
        rw [← foldl_min_of ns n z h1 h2]
        exact k _ m2 g _ H sRefl rl (Rep.int _)
      · obtain ⟨a, vs, rfl, ha, ra⟩ := r1.tup_inv rl.sub
        rw [ints_some hn] at ra
        rw [ra.ints] at ha
        obtain ⟨u, rfl, rv⟩ := vals1 rs
        cases (show u = .ref a from rv)
        obtain ⟨its, rvs, hl, _⟩ := I.tuple (.of ha)
        refine PySem.W.min_tuple_data (I.ok.hd hc) (show s.heap.IsTuple a its.toArray from hl) (readsI (ns := n :: ns) rvs) (alikeI (n :: ns)) (by have := depthI (n :: ns); show _ + 1 + PyData.depthAll ((n :: ns).map PyData.int) < _; omega) fun i v h' tk bs hv hr hk => ?_
        rw [PySem.W.minD_ints] at hr
        cases hr
        exact ⟨.int _, H, I.kept hk, ⟨_, rfl⟩, k _ m2 g _ H sRefl rl (Rep.int _)⟩
      · cases hn
  · exact m.elim
end
end TL
namespace TL
open PySem PySem.Spec PyProof.Rows L2
end TL
namespace TL
open PySem PySem.Spec PyProof.Rows L2
section
variable {B : Base} {X : Cx}
end
end TL
namespace TL
open PySem PySem.Spec PyProof.Rows L2
end TL
namespace TL
open PySem PySem.Spec PyProof.Rows L2
section
variable {prog : Program} {w : World} {A : Around} {E : Value → Shared → Prop} {s : Shared}
end
end TL
namespace TL
open PySem PySem.Spec PyProof.Rows L2
end TL
namespace PySem.W
open PySem PySem.Calls PyProof.Rows PySem.Spec
section
variable {prog : Program} {w : World} {A : Around} {E : Value → Shared → Prop} {s : Shared} {α : Type} {R : Value → α → Prop} {enc : α → PyData} {vs : List Value} {bs : List α}
end
end PySem.W
namespace TL
open PySem PySem.Spec PyProof.Rows L2
end TL
set_option maxHeartbeats 1000000
namespace RT
open PySem PySem.Spec PyProof.Rows
section
variable {prog : Program} {w : World} {A : Around} {E : Value → Shared → Prop} {s : Shared}
end
section
open L2
variable {X : Cx}
end
end RT
namespace TL
open PySem PySem.Spec PyProof.Rows L2
end TL
namespace TL
open PySem PySem.Spec PyProof.Rows L2
end TL
namespace TL
open PySem PySem.Spec PyProof.Rows L2
section
variable {B : Base} {X : Cx}
end
end TL
namespace HotX
open PySem PySem.Spec PyProof.Rows
section
variable {prog : Program} {w : World} {A : Around} {E : Value → Shared → Prop} {s : Shared}
end
end HotX
namespace TL
open PySem PySem.Spec PyProof.Rows L2
section
variable {X : Cx}
end
end TL
namespace TL
open PySem PySem.Spec PyProof.Rows L2
end TL
namespace TL
open PySem PySem.Spec PyProof.Rows L2
end TL
namespace TL
open PySem PySem.Spec PyProof.Rows L2
theorem RepT.len {K : PySem.W.Frag} {F : Hp} : ∀ {ds : List (D × D)} {kvs : List (List Key × V)}, RepT K F ds kvs → kvs.length = ds.length
  | _, _, .nil => rfl
  | _, _, .cons _ t => congrArg (· + 1) t.len
section
variable {X : Cx}
variable {B : Base} {e : Expr} {wA : WA} {pos pos' apos cpos : Pos} {x : Str}
end
end TL
namespace TL
open PySem PySem.Spec PyProof.Rows L2
end TL
namespace L2
open PySem PySem.Spec PyProof.Rows
end L2
namespace TL
open PySem PySem.Spec PyProof.Rows L2
theorem RepK.len {K : PySem.W.Frag} {F : Hp} : ∀ {ds : List (D × D)} {kvs : List (Key × V)}, RepK K F ds kvs → kvs.length = ds.length
  | _, _, .nil => rfl
  | _, _, .cons _ t => congrArg (· + 1) t.len
section
variable {B : Base} {X : Cx}
end
end TL
namespace TL
open PySem PySem.Spec PyProof.Rows L2
def ownC : R → Option Cell
  | .own c => some c
  | _ => none
def wCallO (ts : TSpec) (a : WE) : WE := fun W t Q => a W t fun r t1 => withO (ownC r) fun c => callK ts [.ref c] (fun r _ => Q r t1) (fun cls pay _ => W cls pay t1)
theorem e_wCallO (ts : TSpec) (a : WE) (W : TX) (t : TSt) (Q : R → TSt → Prop) : wCallO ts a W t Q = a W t fun r t1 => withO (ownC r) fun c => callK ts [.ref c] (fun r _ => Q r t1) (fun cls pay _ => W cls pay t1) := rfl
theorem e_ownC (c : Cell) : ownC (.own c) = some c := rfl
end TL
namespace TL
open PySem PySem.Spec PyProof.Rows L2
theorem rel_post1 {K : PySem.W.Frag} {B : Base} {g : Gh} {t : TSt} {σ : L2.St} {H : Hp} {c : Cell} {a : Addr} {l : List Addr} {fp fp' : Nat → List Addr} {outs : List Cell} {F' H' : Hp} (rl : Rel K B g t σ H) (hl : ∀ b ∈ l, g.ow b = none ∧ g.F b = none ∧ B.H b = none) (hf : ∀ b, InF fp b → b ∈ l)
    (po : Post K g.F H [.ref c] [.ref a] fp outs F' H' fp') : Rel K B ⟨F', g.ow⟩ t σ H' := by
  have nf : ∀ b i, g.ow b = some i → ¬ InF fp b := fun b i h z => by
    rw [(hl b (hf b z)).1] at h; cases h
  refine ⟨fun a o e => po.up _ _ (rl.base _ _ e), po.sub, fun b o e => ?_, fun b o e n => ?_, rl.ft, ⟨fun b e => rl.dom b (po.dom b e), po.dm.tf⟩, fun b i e => ?_, rl.len, fun i s e => ?_⟩
  · show g.ow b = none
    cases q : g.ow b with
    | none => rfl
    | some i =>
      obtain ⟨u, hu⟩ := rl.there b i q
      have e' : F' b = some o := e
      rw [(po.keep b u hu (nf b i q)).2 (rl.fNone q)] at e'; cases e'
  · obtain ⟨z1, z2, z3⟩ := rl.old b o e n
    have nb : ¬ InF fp b := fun z => by
      rw [(hl b (hf b z)).2.2] at e; cases e
    exact ⟨(po.keep b o z1 nb).1, z2, fun z => (po.keep b o z1 nb).2 (z3 z)⟩
  · obtain ⟨u, hu⟩ := rl.there b i e
    exact ⟨u, (po.keep b u hu (nf b i e)).1⟩
  · refine (rl.slot i s e).up po.up fun b hb => ⟨hb, ?_⟩
    obtain ⟨u, hu⟩ := rl.there b i hb
    exact ((po.keep b u hu (nf b i hb)).1).trans hu.symm
section
variable {B : Base} {X : Cx} {e : Expr} {we : WE} {pos p : Pos}
theorem T_callO1 {ts : TSpec} {k : Nat} {f : Addr} {fd : FuncData} {ps : List Str} {x : Str} (F : FnG X.prog X.w X.K X.mg X.base (L2N.CX X.prog X.w) k f fd ps (toSp X.K ps.length ts)) (hr : RoomG k X.A) (hm : X.mg x = some (.ref f)) (hk : PySem.W.keepIn X.K (.ref f) = true) (hb : Binds X.K fd ps [])
    (hl : ∀ args PQ PX, ts args PQ PX → args.length = ps.length) (he : PET B X e we) (hg : Gl X x := by rfl) (hdb : (x == ("__debug__" : Str)) = false := by rfl) (hs : starEach [e] X.env = (false, eval e X.env) :: starEach [] X.env := by rfl) (hpl : (backTo pos (starEach [] X.env)).any (·.1) = false := by rfl) :
    PET B X (.Call (.Name x p) [e] [] pos) (wCallO ts we) := by
  refine fun W tk => PE.imp (pe_callG F hr hg hm hk hb (fun σ => L2N.passAt tk σ) (pa_cons (he W tk) pa_nil hs) hdb hs hpl) fun σ H Q q => ?_
  obtain ⟨g, t, P, rl, m, kk⟩ := q
  refine ⟨g, t, _, rl, m, fun r1 t1 m1 g1 v1 H1 s1 rl1 rr1 => ?_⟩
  rw [withO_oP] at m1
  obtain ⟨c, hc, hts⟩ := oP_get m1
  cases r1 with
  | v d => cases hc
  | own c' =>
    cases hc
    obtain ⟨a, l, rfl, cr, nd, hh⟩ := rr1
    have ar : ArgsRel X.K g1.F H1 [.ref c] [.ref a] (fun i => if i = 0 then l else []) := by
      refine ⟨rfl, fun i d hi => ?_, fun i c2 hi => ?_, fun i hi => ?_, fun i j b hb hb' => ?_, fun i b hb => ?_, rl1.tf⟩
      · cases i with
        | zero => simp at hi
        | succ i => simp at hi
      · cases i with
        | zero => simp at hi; subst hi; exact ⟨a, rfl, cr, nd⟩
        | succ i => simp at hi
      · cases i with
        | zero => exact absurd rfl (hi c)
        | succ i => rfl
      · have hb : b ∈ (if i = 0 then l else []) := hb
        have hb' : b ∈ (if j = 0 then l else []) := hb'
        split at hb
        · rename_i h
          split at hb'
          · rename_i h'; rw [h, h']
          · cases hb'
        · cases hb
      · have hb : b ∈ (if i = 0 then l else []) := hb
        split at hb
        · exact (hh b hb).2.1
        · cases hb
    refine ⟨by have := hl _ _ _ hts; exact this, g1.F, [.ref c], _, _, _, rl1.sub, ar, hts, fun r outs hq v F' H' fp' po rr => ?_, fun nm pay outs hx cls hcl d F' H' fp' po pr => ?_⟩
    · have rl2 := rel_post1 rl1 hh (fun b ⟨i, hb⟩ => by
        have hb : b ∈ (if i = 0 then l else []) := hb
        split at hb
        · exact hb
        · cases hb) po
      refine kk _ _ hq ⟨F', g1.ow⟩ v H' (s1.trans po.up) rl2 ?_
      cases r with
      | v d => exact rr
      | own c =>
        obtain ⟨a2, l2, rfl, cr2, n2, h2⟩ := rr
        refine ⟨a2, l2, rfl, cr2, n2, fun b hb => ⟨?_, (h2 b hb).1, rl1.dom b (h2 b hb).2.1⟩⟩
        show g1.ow b = none
        cases q : g1.ow b with
        | none => rfl
        | some i =>
          obtain ⟨u, hu⟩ := rl1.there b i q
          rw [(h2 b hb).2.1] at hu; cases hu
    · have rl2 := rel_post1 rl1 hh (fun b ⟨i, hb⟩ => by
        have hb : b ∈ (if i = 0 then l else []) := hb
        split at hb
        · exact hb
        · cases hb) po
      exact ⟨nm, hcl, ⟨F', g1.ow⟩, _, pay, rl2, pr, hx⟩
theorem T_callO {k n : Nat} {x : Str} {ts : TSpec} (c : CalG X.prog X.w X.K X.mg X.base k x n ts) (hr : RoomG k X.A) (he : PET B X e we) (hg : Gl X x := by rfl) (hdb : (x == ("__debug__" : Str)) = false := by rfl) (hs : starEach [e] X.env = (false, eval e X.env) :: starEach [] X.env := by rfl) (hpl : (backTo pos (starEach [] X.env)).any (·.1) = false := by rfl) :
    PET B X (.Call (.Name x p) [e] [] pos) (wCallO ts we) := by
  obtain ⟨f, fd, ps, rfl, F, hm, hk, hb⟩ := c.ex
  exact T_callO1 F hr hm hk hb c.hl he hg hdb hs hpl
end
end TL
namespace TL
open PySem PySem.Spec PyProof.Rows L2
end TL
namespace PySem.W
open PySem PySem.Calls PyProof.Rows PySem.Spec
section
variable {prog : Program} {w : World} {A : Around} {s : Shared}
end
end PySem.W
namespace TL
open PySem PySem.Spec PyProof.Rows L2
end TL
namespace TL
open PySem PySem.Spec PyProof.Rows L2
def wBinL (o : Op2) (i : Nat) (b : WE) : WE := fun W t Q => pk t i fun _ => b W t fun r t1 => fz r fun y => pk t1 i fun x => o x y fun z => Q z t1
theorem e_wBinL (o : Op2) (i : Nat) (b : WE) (W : TX) (t : TSt) (Q : R → TSt → Prop) : wBinL o i b W t Q = pk t i fun _ => b W t fun r t1 => fz r fun y => pk t1 i fun x => o x y fun z => Q z t1 := rfl
end TL
namespace TL
open PySem PySem.Spec PyProof.Rows L2
section
variable {B : Base} {X : Cx} {b : Expr} {wb : WE}
theorem twoL {W : TX} {o : D → D → (R → Prop) → Prop} {r : R2} {σ : L2.St} {H : Hp} {Q : VK} {i : Nat}
    (h : tOf X.K B (wBinL o i wb W) σ H Q)
    (ho : ∀ x y H Q g t dx dy P, Rel X.K B g t σ H → RepH X.K g.F H dx x → RepH X.K g.F H dy y → o dx dy P → (∀ r, P r → ∀ g' v H', Same g.F g'.F → Rel X.K B g' t σ H' → ResRel X.K B g' H' r v → Q v H') → r x y H Q) :
    tOp r (tVar i) (tOf X.K B (wb W)) σ H Q := by
  obtain ⟨g, t, P, rl, m, k⟩ := h
  unfold wBinL at m
  have m' := m
  unfold pk at m'
  split at m'
  · rename_i d0 hd0
    obtain ⟨u, hu, _⟩ := peek_at rl hd0
    refine ⟨u, hu, g, t, _, rl, m', fun r1 t1 m1 g1 v1 H1 s1 rl1 rr1 => ?_⟩
    unfold fz at m1
    split at m1
    · rename_i dy hy
      obtain ⟨F2, s2, rl2, rp⟩ := rr1.freeze rl1 hy
      split at m1
      · rename_i dx hx
        obtain ⟨u', hu', rx⟩ := peek_at rl2 hx
        rw [hu] at hu'
        cases hu'
        exact ho u v1 H1 Q ⟨F2, g1.ow⟩ t1 dx dy _ rl2 rx (.rep rp) m1 fun r5 m5 g5 v5 H5 s5 rl5 rr5 => k _ _ m5 g5 v5 H5 ((s1.trans s2).trans s5) rl5 rr5
      · exact m1.elim
    · exact m1.elim
  · exact m'.elim
theorem TT_cmpL (i : Nat) {op : CmpOp} {pos pos' : Pos} {x : Str} {o : D → D → (R → Prop) → Prop} (ho : OpT B X (compareOp op) o) (hb : PET B X b wb) (hm : behindInMarks op b = false) (hN : X.N[i]? = some x := by rfl) (hv : Vis X.env.scope x := by first | exact Or.inl rfl | exact Or.inr (Or.inl rfl) | exact Or.inr (Or.inr rfl)) (hd : (x == ("__debug__" : Str)) = false := by rfl) (hcd : (x == ("__classdict__" : Str)) = false := by rfl) : PTT B X (.Compare (.Name x pos') [op] [b] pos) (wTB (wBinL o i wb)) := by
  refine fun W tk => PT.imp (pt_cmpR ho (pe_var hN hv hd hcd) (hb W tk) hm) fun σ H Q h => ?_
  obtain ⟨g, t, P, rl, m, k⟩ := h
  refine twoL (W := W) (o := o) (wb := wb) ⟨g, t, _, rl, m, fun r1 t1 m1 g1 v1 H1 s1 rl1 rr1 => ?_⟩ fun x y H Q g t dx dy P rl r1 r2 m k => ⟨g, t, σ, dx, dy, P, rl, r1, r2, m, k⟩
  obtain ⟨b, rfl, m1⟩ := rB_get m1
  cases (show Rep X.K g1.F (.bl b) v1 from rr1)
  exact ⟨b, rfl, k _ _ m1 g1 H1 s1 rl1⟩
end
end TL
namespace TL
open PySem PySem.Spec PyProof.Rows L2
end TL
namespace TL
open PySem PySem.Spec PyProof.Rows L2
end TL
namespace TL
open PySem PySem.Spec PyProof.Rows L2
end TL
namespace TL
open PySem PySem.Spec PyProof.Rows L2
def putFV (f : Str) (v : FV) : List (Str × FV) → List (Str × FV)
  | [] => [(f, v)]
  | (g, x) :: r => if g = f then (g, v) :: r else (g, x) :: putFV f v r
end TL
namespace TL
open PySem PySem.Spec PyProof.Rows L2
end TL
namespace TL
open PySem PySem.Spec PyProof.Rows L2
section
variable {B : Base} {X : Cx}
end
end TL
namespace TL
open PySem PySem.Spec PyProof.Rows L2
section
variable {B : Base} {X : Cx}
end
end TL
namespace TL
open PySem PySem.Spec PyProof.Rows L2
section
variable {B : Base} {X : Cx}
end
end TL
namespace TL
open PySem PySem.Spec PyProof.Rows L2
theorem lookup_cons {α : Type} (f g : Str) (x : α) (r : List (Str × α)) : ((g, x) :: r).lookup f = if f = g then some x else r.lookup f := by
  by_cases h : f = g
  · have hb : (f == g) = true := beq_iff_eq.mpr h
    simp only [List.lookup, hb, if_pos h]
  · have hb : (f == g) = false := beq_eq_false_iff_ne.mpr h
    simp only [List.lookup, hb, if_neg h]
/-- a field's value -/
inductive FvRel (K : PySem.W.Frag) (F H : Hp) : FV → V → List Addr → Prop
  | v {d : D} {x : V} : Rep K F d x → FvRel K F H (.v d) x []
  | l {ds : List D} {a : Addr} {vs : List V} : H a = some (.lst vs) → Reps K F ds vs → FvRel K F H (.l ds) (.ref a) [a]
  | dK {ds : List (D × D)} {a : Addr} {kvs : List (Key × V)} : H a = some (.dK kvs) → RepK K F ds kvs → FvRel K F H (.d .k ds) (.ref a) [a]
  | dT {ds : List (D × D)} {a : Addr} {kvs : List (List Key × V)} : H a = some (.dT kvs) → RepT K F ds kvs → FvRel K F H (.d .t ds) (.ref a) [a]
section
variable {K : PySem.W.Frag} {F H : Hp}
theorem RepF.keys : ∀ {fs : List (Str × D)} {gs : List (Str × V)}, RepF K F fs gs → gs.map (·.1) = fs.map (·.1)
  | _, _, .nil => rfl
  | _, _, .cons _ r => by rw [List.map_cons, List.map_cons, RepF.keys r]
theorem RepF.look {f : Str} {d : D} : ∀ {fs : List (Str × D)} {gs : List (Str × V)}, RepF K F fs gs → fs.lookup f = some d → ∃ x, gs.lookup f = some x ∧ Rep K F d x
  | _, _, .cons (f := g) r rs, e => by
    rw [lookup_cons] at e
    rw [lookup_cons]
    by_cases h : f = g
    · rw [if_pos h] at e ⊢; cases e; exact ⟨_, rfl, r⟩
    · rw [if_neg h] at e ⊢; exact RepF.look rs e
theorem FsRel.inv {p : Str × FV} {fs : List (Str × FV)} {gs : List (Str × V)} {fp : List Addr} (h : FsRel K F H (p :: fs) gs fp) : ∃ y gs' fv fp', gs = (p.1, y) :: gs' ∧ fp = fv ++ fp' ∧ FvRel K F H p.2 y fv ∧ FsRel K F H fs gs' fp' := by
  cases h with
  | v r t => exact ⟨_, _, [], _, rfl, rfl, .v r, t⟩
  | l e r t => exact ⟨_, _, [_], _, rfl, rfl, .l e r, t⟩
  | dK e r t => exact ⟨_, _, [_], _, rfl, rfl, .dK e r, t⟩
  | dT e r t => exact ⟨_, _, [_], _, rfl, rfl, .dT e r, t⟩
theorem FsRel.add {f : Str} {v : FV} {y : V} {fv : List Addr} {fs : List (Str × FV)} {gs : List (Str × V)} {fp : List Addr} (h : FvRel K F H v y fv) (t : FsRel K F H fs gs fp) : FsRel K F H ((f, v) :: fs) ((f, y) :: gs) (fv ++ fp) := by
  cases h with
  | v r => exact .v r t
  | l e r => exact .l e r t
  | dK e r => exact .dK e r t
  | dT e r => exact .dT e r t
theorem FsRel.keys : ∀ {fs : List (Str × FV)} {gs : List (Str × V)} {fp : List Addr}, FsRel K F H fs gs fp → gs.map (·.1) = fs.map (·.1)
  | [], _, _, h => by cases h; rfl
  | p :: fs, _, _, h => by
    obtain ⟨y, gs', fv, fp', rfl, _, _, t⟩ := h.inv
    rw [List.map_cons, List.map_cons, FsRel.keys t]
theorem FsRel.look {f : Str} {v : FV} : ∀ {fs : List (Str × FV)} {gs : List (Str × V)} {fp : List Addr}, FsRel K F H fs gs fp → fs.lookup f = some v → ∃ x fv, gs.lookup f = some x ∧ FvRel K F H v x fv ∧ ∀ b ∈ fv, b ∈ fp
  | [], _, _, h, e => by cases e
  | (g, w) :: fs, _, _, h, e => by
    obtain ⟨y, gs', fv, fp', rfl, rfl, r, t⟩ := h.inv
    rw [lookup_cons] at e
    show ∃ x fv', List.lookup f ((g, y) :: gs') = some x ∧ _
    rw [lookup_cons]
    by_cases h : f = g
    · rw [if_pos h] at e ⊢
      cases e
      exact ⟨y, fv, rfl, r, fun b hb => List.mem_append_left _ hb⟩
    · rw [if_neg h] at e ⊢
      obtain ⟨x, fv', h1, h2, h3⟩ := FsRel.look t e
      exact ⟨x, fv', h1, h2, fun b hb => List.mem_append_right _ (h3 b hb)⟩
theorem FsRel.put {f : Str} {v : FV} {y : V} {fv : List Addr} (hv : FvRel K F H v y fv) : ∀ {fs : List (Str × FV)} {gs : List (Str × V)} {fp : List Addr}, FsRel K F H fs gs fp →
    ∃ fp', FsRel K F H (putFV f v fs) (putF f y gs) fp' ∧ (∀ b ∈ fp', b ∈ fp ∨ b ∈ fv) ∧ (fp.Nodup → fv.Nodup → (∀ b ∈ fv, b ∉ fp) → fp'.Nodup)
  | [], _, _, h => by
    cases h
    exact ⟨fv ++ [], FsRel.add hv .nil, fun b hb => .inr (by simpa using hb), fun _ n _ => by simpa using n⟩
  | (g, w) :: fs, _, _, h => by
    obtain ⟨y', gs', fw, fp', rfl, rfl, r, t⟩ := h.inv
    show ∃ fp2, FsRel K F H (if g = f then (g, v) :: fs else (g, w) :: putFV f v fs) (if g = f then (g, y) :: gs' else (g, y') :: putF f y gs') fp2 ∧ _
    by_cases h : g = f
    · rw [if_pos h, if_pos h]
      refine ⟨fv ++ fp', FsRel.add hv t, fun b hb => ?_, fun n1 n2 n3 => ?_⟩
      · rcases List.mem_append.mp hb with hb | hb
        · exact .inr hb
        · exact .inl (List.mem_append_right _ hb)
      · exact List.nodup_append.mpr ⟨n2, (List.nodup_append.mp n1).2.1, fun a ha b hb z => n3 a ha (List.mem_append_right _ (by rw [z]; exact hb))⟩
    · rw [if_neg h, if_neg h]
      obtain ⟨fp2, p1, p2, p3⟩ := FsRel.put hv t
      refine ⟨fw ++ fp2, FsRel.add r p1, fun b hb => ?_, fun n1 n2 n3 => ?_⟩
      · rcases List.mem_append.mp hb with hb | hb
        · exact .inl (List.mem_append_left _ hb)
        · rcases p2 b hb with z | z
          · exact .inl (List.mem_append_right _ z)
          · exact .inr z
      · obtain ⟨m1, m2, m3⟩ := List.nodup_append.mp n1
        refine List.nodup_append.mpr ⟨m1, p3 m2 n2 fun b hb z => n3 b hb (List.mem_append_right _ z), fun a ha b hb z => ?_⟩
        subst z
        rcases p2 a hb with z | z
        · exact m3 a ha a z rfl
        · exact n3 a z (List.mem_append_left _ ha)
theorem putFV_keys (f : Str) (v : FV) : ∀ fs : List (Str × FV), (putFV f v fs).map (·.1) = if f ∈ fs.map (·.1) then fs.map (·.1) else fs.map (·.1) ++ [f]
  | [] => rfl
  | (g, x) :: r => by
    show (if g = f then (g, v) :: r else (g, x) :: putFV f v r).map (·.1) = _
    by_cases h : g = f
    · rw [if_pos h, if_pos (by rw [← h]; exact List.mem_cons_self)]
      rfl
    · rw [if_neg h, List.map_cons, putFV_keys f v r, List.map_cons]
      have : (f ∈ g :: r.map (·.1)) = (f ∈ r.map (·.1)) := by
        rw [List.mem_cons]
        exact propext ⟨fun z => z.elim (fun z => absurd z.symm h) id, .inr⟩
      simp only [this]
      split <;> rfl
theorem KsOk.put {n f : String} {g : Str} {v : FV} {fs : List (Str × FV)} (h : KsOk n (fs.map (·.1))) (hg : g ∈ clsFields n) : KsOk n ((putFV g v fs).map (·.1)) := by
  rw [putFV_keys]
  split
  · exact h
  · rename_i z
    refine ⟨List.nodup_append.mpr ⟨h.1, List.nodup_cons.mpr ⟨List.not_mem_nil, List.nodup_nil⟩, fun a ha b hb e => z ?_⟩, fun k hk => ?_⟩
    · rw [List.mem_singleton.mp hb] at e
      rw [← e]; exact ha
    · rcases List.mem_append.mp hk with hk | hk
      · exact h.2 k hk
      · rw [List.mem_singleton.mp hk]; exact hg
end
structure ClsT (K : PySem.W.Frag) (mg : Str → Option Value) (n : String) : Prop where
  ex : ∃ C, mg (Str.ofString n) = some (.ref C) ∧ ClsAt K n C ∧ Cls K C ∧ ∀ f ∈ clsFields n, NoAttr K C f
/-- a new object is given to slot i -/
theorem Rel.give {K : PySem.W.Frag} {B : Base} {g : Gh} {t : TSt} {σ : L2.St} {H : Hp} (i : Nat) {fp : List Addr} (r : Rel K B g t σ H) (ho : ∀ b ∈ fp, g.ow b = none ∧ g.F b = none ∧ B.H b = none ∧ ∃ o, H b = some o) :
    Rel K B ⟨g.F, fun b => if b ∈ fp then some i else g.ow b⟩ t σ H := by
  refine r.owners (fun a o e => ?_) (fun a o e n => ?_) (fun a j e => ?_) r.len (fun j s e => (r.slot j s e).up sRefl fun b q => ⟨?_, rfl⟩)
  · rw [if_neg fun z => by rw [(ho a z).2.1] at e; cases e]; exact r.ff a o e
  · rw [if_neg fun z => by rw [(ho a z).2.2.1] at e; cases e]; exact (r.old a o e n).2.1
  · split at e
    · rename_i z; exact (ho a z).2.2.2
    · exact r.there a j e
  · show (if b ∈ fp then some i else g.ow b) = some j
    rw [if_neg fun z => by rw [(ho b z).1] at q; cases q]; exact q
section
variable {B : Base} {X : Cx} {e o : Expr} {es : List Expr} {we : WE} {wa : WAA} {pos pos' pos2 apos : Pos} {n : String} {f m : Str}
end
end TL
namespace TL
open PySem PySem.Spec PyProof.Rows L2
section
variable {X : Cx} {CX : CXT} {k : Nat} {f C : Addr} {fd : FuncData} {ps : List Str} {sp : Sp} {E : L2.St → XK} {x m : Str} {p pos apos : Pos} {e o : Expr} {es : List Expr} {ta : TE} {t : TA}
end
/-- a method that may be called -/
structure CalM (P : Program) (w : World) (K : PySem.W.Frag) (mg : Str → Option Value) (base : Heap) (k : Nat) (cn : String) (m : Str) (n : Nat) (ts : TSpec) : Prop where
  ex : ∃ C f fd ps, ClsAt K cn C ∧ Cls K C ∧ Meth K C m f ∧ ps.length = n ∧ FnG P w K mg base (L2N.CX P w) k f fd ps (toSp K n ts) ∧ Binds K fd ps []
  hl : ∀ args PQ PX, ts args PQ PX → args.length = n
  no : m ∉ clsFields cn
/-- a class of which instances may be made -/
structure CalI (P : Program) (w : World) (K : PySem.W.Frag) (mg : Str → Option Value) (base : Heap) (k : Nat) (cn : String) (n : Nat) (ts : TSpec) : Prop where
  ex : ∃ C f fd ps, mg (Str.ofString cn) = some (.ref C) ∧ ClsAt K cn C ∧ Mk K C f ∧ ps.length = n ∧ FnG P w K mg base (L2N.CX P w) k f fd ps (toSp K n ts) ∧ Binds K fd ps []
  hl : ∀ args PQ PX, ts args PQ PX → args.length = n
theorem CalM.mono {P : Program} {w : World} {K : PySem.W.Frag} {mg : Str → Option Value} {base : Heap} {j k n : Nat} {cn : String} {m : Str} {ts : TSpec} (c : CalM P w K mg base j cn m n ts) (h : j ≤ k) : CalM P w K mg base k cn m n ts := by
  obtain ⟨C, f, fd, ps, h1, h2, h3, h4, F, h5⟩ := c.ex
  exact ⟨⟨C, f, fd, ps, h1, h2, h3, h4, F.mono h, h5⟩, c.hl, c.no⟩
structure DefM (K : PySem.W.Frag) (cn : String) (m : Str) (qual : Str) (st : Stmt) (ps : List Str) : Prop where
  ex : ∃ C f fd, ClsAt K cn C ∧ Cls K C ∧ Meth K C m f ∧ Fun K m qual st f fd ∧ Binds K fd ps []
structure DefI (K : PySem.W.Frag) (mg : Str → Option Value) (cn : String) (qual : Str) (st : Stmt) (ps : List Str) : Prop where
  ex : ∃ C f fd, mg (Str.ofString cn) = some (.ref C) ∧ ClsAt K cn C ∧ Mk K C f ∧ Fun K "__init__" qual st f fd ∧ Binds K fd ps []
section
variable {P : Program} {w : World} {K : PySem.W.Frag} {mg : Str → Option Value} {base : Heap}
end
section
variable {B : Base} {X : Cx} {e o : Expr} {es : List Expr} {we : WE} {wa : WAA} {pos pos' apos p : Pos} {cn : String} {m x : Str} {k n : Nat} {ts : TSpec}
end
end TL
namespace TL
open PySem PySem.Spec PyProof.Rows L2
theorem Rel.keep {K : PySem.W.Frag} {B : Base} {g : Gh} {t : TSt} {σ : L2.St} {H F' H' : Hp} (r : Rel K B g t σ H) (up : Same g.F F') (sub : Same F' H') (k : ∀ a o, H a = some o → H' a = some o ∧ (g.F a = none → F' a = none)) (dm : Dm H F' H') : Rel K B ⟨F', g.ow⟩ t σ H' := by
  refine ⟨r.base.trans up, sub, fun a o e => ?_, fun a o e n => ?_, r.ft, ⟨fun a e => r.dom a (dm.dom a e), dm.tf⟩, fun a i e => ?_, r.len, fun i s e => (r.slot i s e).up up fun b q => ⟨q, ?_⟩⟩
  · show g.ow a = none
    cases q : g.ow a with
    | none => rfl
    | some i =>
      obtain ⟨u, hu⟩ := r.there a i q
      have e : F' a = some o := e
      rw [(k a u hu).2 (r.fNone q)] at e; cases e
  · obtain ⟨h1, h2, h3⟩ := r.old a o e n
    exact ⟨(k a o h1).1, h2, fun z => (k a o h1).2 (h3 z)⟩
  · obtain ⟨u, hu⟩ := r.there a i e
    exact ⟨u, (k a u hu).1⟩
  · obtain ⟨u, hu⟩ := r.there b i q
    rw [hu]; exact (k b u hu).1
section
variable {B : Base} {X : Cx} {e : Expr} {es : List Expr} {wa : WAA} {pos p : Pos} {cn : String} {k n : Nat} {ts : TSpec} {C : Addr}
end
section
variable {B : Base} {X : Cx}
end
section
variable {B : Base} {X : Cx}
end
end TL
namespace TL
open PySem PySem.Spec PyProof.Rows L2
end TL
namespace TL
open PySem PySem.Spec PyProof.Rows L2
end TL
namespace TL
open PySem PySem.Spec PyProof.Rows L2
open PySem.W (EachIs AllAlike Sortable dataLe SortsAt)
section
variable {prog : Program} {w : World} {A : Around} {E : Value → Shared → Prop} {s : Shared} {α : Type} {R : Value → α → Prop} {enc : α → PyData} {vs : List Value} {bs : List α}
end
end TL
namespace TL
open PySem PySem.Spec PyProof.Rows L2
theorem addX_i (i j : Int) : addX (.int i) (.int j) = some (.int (i + j)) := rfl
theorem subX_i (i j : Int) : subX (.int i) (.int j) = some (.int (i - j)) := rfl
theorem mulX_i {i j : Int} (h1 : i.natAbs < 2 ^ 250) (h2 : j.natAbs < 2 ^ 250) : mulAX (.int i) (.int j) = some (.int (i * j)) := if_pos ⟨h1, h2⟩
theorem divX_i {i j : Int} (h1 : 0 < j) (h2 : j < 2 ^ 250) : divX (.int i) (.int j) = some (.int (i / j)) := if_pos ⟨h1, by omega⟩
theorem modX_i {i j : Int} (h1 : 0 < j) : modX (.int i) (.int j) = some (.int (i % j)) := if_pos h1
theorem powX_i {i j : Int} (h1 : 0 ≤ j) (h2 : j ≤ 1000000) (h3 : i.natAbs < 2 ^ 64) : powX (.int i) (.int j) = some (.int (i ^ j.toNat)) := if_pos ⟨h1, h2, h3⟩
theorem iaddX_i (i j : Int) : iaddX (.int i) (.int j) = some (.int (i + j)) := rfl
theorem imulX_j {i j : Int} (h1 : -(2 ^ 64) < j) (h2 : j < 2 ^ 64) : imulX (.int i) (.int j) = some (.int (i * j)) := if_pos (.inr ⟨h1, h2⟩)
theorem pyEq_ints (i j : Int) : pyEq (.int i) (.int j) = decide (i = j) := encI.eqb i j
theorem eqX_i (i j : Int) : eqX (.int i) (.int j) = some (decide (i = j)) := by
  unfold eqX
  rw [if_pos (show eqOk (.int i) (.int j) from encI.eqOk (by decide) i j), pyEq_ints]
theorem neX_i (i j : Int) : neX (.int i) (.int j) = some (!decide (i = j)) := by
  unfold neX
  rw [if_pos (show eqOk (.int i) (.int j) from encI.eqOk (by decide) i j), pyEq_ints]
theorem Enc.eqX {α : Type} [DecidableEq α] (e : Enc α) (h : e.dep ≤ 64) (a b : α) : eqX (e.enc a) (e.enc b) = some (decide (a = b)) := by
  unfold TL.eqX
  rw [if_pos (e.eqOk h a b), e.eqb]
theorem Enc.neX {α : Type} [DecidableEq α] (e : Enc α) (h : e.dep ≤ 64) (a b : α) : neX (e.enc a) (e.enc b) = some (!decide (a = b)) := by
  unfold TL.neX
  rw [if_pos (e.eqOk h a b), e.eqb]
def encB : Enc Bool := ⟨.bl, 0, fun _ => rfl, fun i => by rw [show (D.bl i).py = .bool i from rfl, depth_bool]; exact Nat.le_refl _, fun a b => by
  show PyData.eqv (.bool a) (.bool b) = true ↔ _
  unfold PyData.eqv; simp⟩
theorem eqX_b (i j : Bool) : eqX (.bl i) (.bl j) = some (decide (i = j)) := encB.eqX (by decide) i j
theorem neX_b (i j : Bool) : neX (.bl i) (.bl j) = some (!decide (i = j)) := encB.neX (by decide) i j
theorem ltX_i (i j : Int) : ltX (.int i) (.int j) = some (decide (i < j)) := rfl
theorem ltAX_i (i j : Int) : ltAX (.int i) (.int j) = some (decide (i < j)) := rfl
theorem leX_i (i j : Int) : leX (.int i) (.int j) = some (decide (i ≤ j)) := rfl
theorem gtX_i (i j : Int) : gtX (.int i) (.int j) = some (decide (j < i)) := rfl
theorem geX_i (i j : Int) : geX (.int i) (.int j) = some (decide (j ≤ i)) := rfl
theorem truX_bl (b : Bool) : truX (.bl b) = some b := rfl
theorem truX_i (i : Int) : truX (.int i) = some (i != 0) := rfl
theorem truX_non : truX .non = some false := rfl
theorem truX_tup (l : List D) : truX (.tup l) = some (!l.isEmpty) := rfl
theorem truX_lst (l : List D) : truX (.lst l) = some (!l.isEmpty) := rfl
theorem itX_tup (l : List D) : itX (.tup l) = some l := rfl
theorem itX_lst (l : List D) : itX (.lst l) = some l := rfl
theorem itX_scr (l : List D) : itX (.scr l) = some l := rfl
theorem lenX_tup (l : List D) : lenX (.tup l) = some (.int l.length) := rfl
theorem lenX_lst (l : List D) : lenX (.lst l) = some (.int l.length) := rfl
theorem lenX_scr (l : List D) : lenX (.scr l) = some (.int l.length) := rfl
theorem lenX_dct (k : KK) (l : List (D × D)) : lenX (.dct k l) = some (.int l.length) := rfl
theorem tupleX_lst (l : List D) : tupleX (.lst l) = some (.tup l) := rfl
theorem tupleX_tup (l : List D) : tupleX (.tup l) = some (.tup l) := rfl
theorem listX_lst (l : List D) : listX (.lst l) = some l := rfl
theorem listX_tup (l : List D) : listX (.tup l) = some l := rfl
theorem seqX_lst (l : List D) : seqX (.lst l) = some l := rfl
theorem seqX_tup (l : List D) : seqX (.tup l) = some l := rfl
theorem intX_bl (b : Bool) : intX (.bl b) = some (.int (if b then 1 else 0)) := rfl
theorem intX_int (i : Int) : intX (.int i) = some (.int i) := rfl
theorem absX_i (i : Int) : absX (.int i) = some (.int (if i < 0 then -i else i)) := rfl
theorem max2X_i (i j : Int) : max2X (.int i) (.int j) = some (.int (if j > i then j else i)) := rfl
theorem min2X_i (i j : Int) : min2X (.int i) (.int j) = some (.int (if j < i then j else i)) := rfl
theorem slX_tup (l : List D) (a b : Option Int) : slX (.tup l) a b = some (.tup (cutD l a b)) := rfl
theorem slX_lst (l : List D) (a b : Option Int) : slX (.lst l) a b = some (.lst (cutD l a b)) := rfl
theorem slX_scr (l : List D) (a b : Option Int) : slX (.scr l) a b = some (.lst (cutD l a b)) := rfl
theorem addX_tup {a b : List D} (h : a.length + b.length ≤ sizeLine) : addX (.tup a) (.tup b) = some (.tup (a ++ b)) := if_pos h
theorem addX_lst {a b : List D} (h : a.length + b.length ≤ sizeLine) : addX (.lst a) (.lst b) = some (.lst (a ++ b)) := if_pos h
theorem addLX_lst {a b : List D} (h : a.length + b.length ≤ sizeLine) : addLX (.lst a) (.lst b) = some (a ++ b) := if_pos h
theorem appX_ok {l : List D} {d : D} (h : l.length < sizeLine) : appX l d = some (l ++ [d]) := if_pos h
theorem extX_ok {l m : List D} (h : l.length + m.length ≤ sizeLine) : extX l m = some (l ++ m) := if_pos h
theorem rg1X_i {j : Int} (h1 : -(2 ^ 62) ≤ j) (h2 : j < 2 ^ 62) : rg1X (.int j) = some (rangeD 0 1 j.toNat) := if_pos ⟨h1, h2⟩
theorem rg2X_i {i j : Int} (h1 : -(2 ^ 62) ≤ i) (h2 : i < 2 ^ 62) (h3 : -(2 ^ 62) ≤ j) (h4 : j < 2 ^ 62) : rg2X (.int i) (.int j) = some (rangeD i 1 (j - i).toNat) := if_pos ⟨⟨h1, h2⟩, h3, h4⟩
theorem ints_of (l : List Int) : D.ints (l.map D.int) = some l := ints_map l
theorem allX_ok (l : List Bool) : allX (.lst (l.map D.bl)) = some (l.all id) := by show (D.bls (l.map D.bl)).map _ = _; rw [bls_map]; rfl
theorem anyX_ok (l : List Bool) : anyX (.lst (l.map D.bl)) = some (l.any id) := by show (D.bls (l.map D.bl)).map _ = _; rw [bls_map]; rfl
theorem sumX_ok (l : List Int) : sumX (.lst (l.map D.int)) = some (.int l.sum) := by show (D.ints (l.map D.int)).map _ = _; rw [ints_map]; rfl
theorem atI_some {α : Type} {l : List α} {i : Int} (h0 : 0 ≤ i) (h : i < l.length) : ∃ x, x ∈ l ∧ l[i.toNat]? = some x ∧ L2.atI l i = some x := by
  have hn : i.toNat < l.length := by omega
  refine ⟨l[i.toNat], List.getElem_mem hn, List.getElem?_eq_getElem hn, ?_⟩
  obtain ⟨n, rfl⟩ : ∃ n : Nat, i = n := ⟨i.toNat, by omega⟩
  exact atI_nat (List.getElem?_eq_getElem hn)
theorem getX_lst {l : List D} {i : Int} (h0 : 0 ≤ i) (h : i < l.length) : ∃ x, x ∈ l ∧ l[i.toNat]? = some x ∧ getX (.lst l) (.int i) = some x := atI_some h0 h
theorem getX_scr {l : List D} {i : Int} (h0 : 0 ≤ i) (h : i < l.length) : ∃ x, x ∈ l ∧ l[i.toNat]? = some x ∧ getX (.scr l) (.int i) = some x := atI_some h0 h
theorem getX_nat {l : List D} {n : Nat} {x : D} (h : l[n]? = some x) : getX (.lst l) (.int n) = some x := atI_nat h
theorem getXt_nat {l : List D} {n : Nat} {x : D} (h : l[n]? = some x) : getX (.tup l) (.int n) = some x := atI_nat h
theorem tup2X_ok (a b : D) : tup2X (.tup [a, b]) = some (a, b) := rfl
theorem tup3X_ok (a b c : D) : tup3X (.tup [a, b, c]) = some (a, b, c) := rfl
/-- ranges as whole numbers -/
theorem range_eq (lo : Int) (n : Nat) : rangeD lo 1 n = (List.range n).map fun (i : Nat) => D.int (lo + i) := by
  unfold rangeD
  congr 1
  funext i
  rw [Int.mul_one]
theorem range0_eq (n : Nat) : rangeD 0 1 n = (List.range n).map fun (i : Nat) => D.int i := by
  rw [range_eq]
  congr 1
  funext i
  rw [Int.zero_add]
/-- .. each turn plain -/
theorem foldX_map {α β σ : Type} {step : σ → D → Option σ} (e : α → D) (st : β → σ) (g : β → α → β) : ∀ (xs : List α) (b : β), (∀ b x, x ∈ xs → step (st b) (e x) = some (st (g b x))) → foldX step (xs.map e) (st b) = some (st (xs.foldl g b))
  | [], b, _ => rfl
  | x :: xs, b, h => by
    rw [List.map_cons, foldX, h b x List.mem_cons_self]
    exact foldX_map e st g xs (g b x) fun b y hy => h b y (List.mem_cons_of_mem _ hy)
theorem forX_inv {σ ρ : Type} {step : σ → D → Option (SO σ ρ)} (I : Nat → σ → Prop) (Rt : ρ → Prop) : ∀ {ds : List D} {s : σ} (k : Nat), I k s → (∀ (i : Nat) (d : D) (s : σ), ds[i]? = some d → I (k + i) s → ∃ o, step s d = some o ∧ o.cs (I (k + i + 1)) Rt) → ∃ o, forX step ds s = some o ∧ o.cs (I (k + ds.length)) Rt
  | [], s, k, h, _ => ⟨.nx s, rfl, h⟩
  | d :: ds, s, k, h, hs => by
    obtain ⟨o, e1, h1⟩ := hs 0 d s rfl h
    cases o with
    | rt r => exact ⟨.rt r, by rw [forX, e1]; rfl, h1⟩
    | nx s1 =>
      obtain ⟨s2, e2, h2⟩ := forX_inv I Rt (ds := ds) (s := s1) (k + 1) h1 fun i d s hi hI => by
        have := hs (i + 1) d s (by simpa using hi) (by rw [show k + (i + 1) = k + 1 + i by omega]; exact hI)
        rw [show k + (i + 1) + 1 = k + 1 + i + 1 by omega] at this
        exact this
      refine ⟨s2, ?_, ?_⟩
      · rw [forX, e1]; exact e2
      · rw [List.length_cons, show k + (ds.length + 1) = k + 1 + ds.length by omega]; exact h2
/-- a loop that never leaves early -/
theorem forX_nx {σ ρ : Type} {step : σ → D → Option (SO σ ρ)} (I : Nat → σ → Prop) {ds : List D} {s : σ} (h0 : I 0 s) (hs : ∀ (i : Nat) (d : D) (s : σ), ds[i]? = some d → I i s → ∃ s', step s d = some (.nx s') ∧ I (i + 1) s') : ∃ s', forX step ds s = some (.nx s') ∧ I ds.length s' := by
  obtain ⟨o, e, h⟩ := forX_inv I (fun _ : ρ => False) 0 h0 fun i d s hi hI => by
    obtain ⟨s', e, h⟩ := hs i d s hi (by rw [Nat.zero_add] at hI; exact hI)
    refine ⟨_, e, ?_⟩
    rw [Nat.zero_add]; exact h
  rw [Nat.zero_add] at h
  cases o with
  | nx s' => exact ⟨s', e, h⟩
  | rt r => exact h.elim
/-- .. with nothing kept -/
theorem forX_unit {ρ : Type} {step : Unit → D → Option (SO Unit ρ)} {ds : List D} (hs : ∀ d, d ∈ ds → step () d = some (.nx ())) : forX step ds () = some (.nx ()) := by
  obtain ⟨s', e, _⟩ := forX_nx (step := step) (fun _ _ => True) (ds := ds) (s := ()) trivial fun i d s hi _ => ⟨(), hs d (List.mem_of_getElem? hi), trivial⟩
  exact e
theorem mapG_map {α : Type} {f : D → Option D} (e : α → D) (g : α → D) : ∀ (xs : List α), (∀ x, x ∈ xs → f (e x) = some (g x)) → mapG f (xs.map e) = some (xs.map g)
  | [], _ => rfl
  | x :: xs, h => by
    rw [List.map_cons, mapG, h x List.mem_cons_self]
    show (mapG f (xs.map e)).bind _ = _
    rw [mapG_map e g xs fun y hy => h y (List.mem_cons_of_mem _ hy)]
    rfl
theorem mapX_map {α : Type} {f : D → Option D} (e : α → D) (g : α → D) (xs : List α) (hl : xs.length ≤ sizeLine) (h : ∀ x, x ∈ xs → f (e x) = some (g x)) : mapX f (xs.map e) = some (xs.map g) := by
  unfold mapX
  rw [if_pos (by rw [List.length_map]; exact hl), mapG_map e g xs h]
theorem mapX_id {f : D → Option D} (g : D → D) (xs : List D) (hl : xs.length ≤ sizeLine) (h : ∀ x, x ∈ xs → f x = some (g x)) : mapX f xs = some (xs.map g) := by
  have := mapX_map (f := f) (fun d => d) g xs hl h
  rwa [List.map_id'] at this
theorem fmapG_map {α : Type} {f : D → Option (Option D)} (e : α → D) (p : α → Bool) (g : α → D) : ∀ (xs : List α), (∀ x, x ∈ xs → f (e x) = some (if p x then some (g x) else none)) → fmapG f (xs.map e) = some ((xs.filter p).map g)
  | [], _ => rfl
  | x :: xs, h => by
    rw [List.map_cons, fmapG, h x List.mem_cons_self, List.filter_cons]
    show (fmapG f (xs.map e)).bind _ = _
    rw [fmapG_map e p g xs fun y hy => h y (List.mem_cons_of_mem _ hy)]
    cases p x <;> rfl
theorem fmapX_map {α : Type} {f : D → Option (Option D)} (e : α → D) (p : α → Bool) (g : α → D) (xs : List α) (hl : xs.length ≤ sizeLine) (h : ∀ x, x ∈ xs → f (e x) = some (if p x then some (g x) else none)) : fmapX f (xs.map e) = some ((xs.filter p).map g) := by
  unfold fmapX
  rw [if_pos (by rw [List.length_map]; exact hl), fmapG_map e p g xs h]
theorem mapSX_inv {σ : Type} {f : σ → D → Option (D × σ)} (I : Nat → σ → Prop) (Pr : Nat → D → Prop) {ds : List D} {s : σ} (hl : ds.length ≤ sizeLine) (h0 : I 0 s) (hs : ∀ (i : Nat) (d : D) (s : σ), ds[i]? = some d → I i s → ∃ y s', f s d = some (y, s') ∧ Pr i y ∧ I (i + 1) s') :
    ∃ l s', mapSX f ds s = some (l, s') ∧ l.length = ds.length ∧ (∀ i y, l[i]? = some y → Pr i y) ∧ I ds.length s' := by
  have : ∀ (ds : List D) (s : σ) (k : Nat), I k s → (∀ (i : Nat) (d : D) (s : σ), ds[i]? = some d → I (k + i) s → ∃ y s', f s d = some (y, s') ∧ Pr (k + i) y ∧ I (k + i + 1) s') →
      ∃ l s', mapSG f ds s = some (l, s') ∧ l.length = ds.length ∧ (∀ i y, l[i]? = some y → Pr (k + i) y) ∧ I (k + ds.length) s' := by
    intro ds
    induction ds with
    | nil => exact fun s k h _ => ⟨[], s, rfl, rfl, fun i y h => by simp at h, h⟩
    | cons d ds ih =>
      intro s k h hs
      obtain ⟨y, s1, e1, p1, h1⟩ := hs 0 d s rfl h
      obtain ⟨l, s2, e2, l2, p2, h2⟩ := ih s1 (k + 1) h1 fun i d s hi hI => by
        have := hs (i + 1) d s (by simpa using hi) (by rw [show k + (i + 1) = k + 1 + i by omega]; exact hI)
        rw [show k + (i + 1) = k + 1 + i by omega] at this
        exact this
      refine ⟨y :: l, s2, by rw [mapSG, e1]; show (mapSG f ds s1).bind _ = _; rw [e2]; rfl, by simp [l2], fun i z hz => ?_, ?_⟩
      · cases i with
        | zero => simp at hz; subst hz; exact p1
        | succ i => rw [show k + (i + 1) = k + 1 + i by omega]; exact p2 i z (by simpa using hz)
      · rw [List.length_cons, show k + (ds.length + 1) = k + 1 + ds.length by omega]; exact h2
  obtain ⟨l, s', e, h1, h2, h3⟩ := this ds s 0 h0 fun i d s hi hI => by
    rw [Nat.zero_add] at hI ⊢
    exact hs i d s hi hI
  rw [Nat.zero_add] at h3
  refine ⟨l, s', by unfold mapSX; rw [if_pos hl]; exact e, h1, fun i y hy => ?_, h3⟩
  have := h2 i y hy
  rwa [Nat.zero_add] at this
theorem fmapSX_inv {σ : Type} {f : σ → D → Option (Option D × σ)} (I : Nat → σ → Prop) (Pr : D → Prop) {ds : List D} {s : σ} (hl : ds.length ≤ sizeLine) (h0 : I 0 s) (hs : ∀ (i : Nat) (d : D) (s : σ), ds[i]? = some d → I i s → ∃ y s', f s d = some (y, s') ∧ (∀ z, y = some z → Pr z) ∧ I (i + 1) s') :
    ∃ l s', fmapSX f ds s = some (l, s') ∧ l.length ≤ ds.length ∧ (∀ y ∈ l, Pr y) ∧ I ds.length s' := by
  have : ∀ (ds : List D) (s : σ) (k : Nat), I k s → (∀ (i : Nat) (d : D) (s : σ), ds[i]? = some d → I (k + i) s → ∃ y s', f s d = some (y, s') ∧ (∀ z, y = some z → Pr z) ∧ I (k + i + 1) s') →
      ∃ l s', fmapSG f ds s = some (l, s') ∧ l.length ≤ ds.length ∧ (∀ y ∈ l, Pr y) ∧ I (k + ds.length) s' := by
    intro ds
    induction ds with
    | nil => exact fun s k h _ => ⟨[], s, rfl, Nat.le_refl _, (fun y h => nomatch h), h⟩
    | cons d ds ih =>
      intro s k h hs
      obtain ⟨y, s1, e1, p1, h1⟩ := hs 0 d s rfl h
      obtain ⟨l, s2, e2, l2, p2, h2⟩ := ih s1 (k + 1) h1 fun i d s hi hI => by
        have := hs (i + 1) d s (by simpa using hi) (by rw [show k + (i + 1) = k + 1 + i by omega]; exact hI)
        rw [show k + (i + 1) = k + 1 + i by omega] at this
        exact this
      have h2' : I (k + (d :: ds).length) s2 := by rw [List.length_cons, show k + (ds.length + 1) = k + 1 + ds.length by omega]; exact h2
      cases y with
      | none => exact ⟨l, s2, by rw [fmapSG, e1]; show (fmapSG f ds s1).bind _ = _; rw [e2]; rfl, by simp; omega, p2, h2'⟩
      | some y =>
        refine ⟨y :: l, s2, by rw [fmapSG, e1]; show (fmapSG f ds s1).bind _ = _; rw [e2]; rfl, by simp; omega, fun z hz => ?_, h2'⟩
        rcases List.mem_cons.mp hz with rfl | hz
        · exact p1 _ rfl
        · exact p2 z hz
  obtain ⟨l, s', e, h1, h2, h3⟩ := this ds s 0 h0 fun i d s hi hI => by
    rw [Nat.zero_add] at hI ⊢
    exact hs i d s hi hI
  rw [Nat.zero_add] at h3
  exact ⟨l, s', by unfold fmapSX; rw [if_pos hl]; exact e, h1, h2, h3⟩
theorem whX_inv {σ ρ : Type} {step : σ → Option (WH σ ρ)} (I : σ → Prop) (μ : σ → Nat) (Dn : σ → Prop) (Rt : ρ → Prop) (hs : ∀ s, I s → ∃ o, step s = some o ∧ o.cs (fun s' => I s' ∧ μ s' < μ s) Dn Rt) : ∀ (n : Nat) (s : σ), I s → μ s ≤ n → ∃ o, whX step s = some o ∧ o.cs Dn Rt := by
  intro n
  induction n with
  | zero =>
    intro s hI hn
    obtain ⟨o, e, h⟩ := hs s hI
    rw [whX_eq, e]
    cases o with
    | go s' => have := h.2; omega
    | dn s' => exact ⟨_, rfl, h⟩
    | rt r => exact ⟨_, rfl, h⟩
  | succ n ih =>
    intro s hI hn
    obtain ⟨o, e, h⟩ := hs s hI
    rw [whX_eq, e]
    cases o with
    | go s' =>
      obtain ⟨h1, h2⟩ := (show I s' ∧ μ s' < μ s from h)
      exact ih s' h1 (by omega)
    | dn s' => exact ⟨_, rfl, h⟩
    | rt r => exact ⟨_, rfl, h⟩
end TL
namespace TL
open PySem PySem.Spec PyProof.Rows L2
theorem oP_mono {α : Type} {x : Option α} {Q R : α → Prop} (h : oP x Q) (i : ∀ a, Q a → R a) : oP x R := by
  cases x with
  | none => exact h.elim
  | some a => exact i a h
theorem oP_ex {α : Type} {x : Option α} {Q : α → Prop} (h : oP x Q) : ∃ a, x = some a ∧ Q a := by
  cases x with
  | none => exact h.elim
  | some a => exact ⟨a, rfl, h⟩
theorem oP_at {α : Type} {x : Option α} {a : α} {Q : α → Prop} (h : x = some a) (q : Q a) : oP x Q := by rw [h]; exact q
theorem oP_eq {α : Type} {x : Option α} {a : α} (h : oP x fun b => b = a) : x = some a := by
  obtain ⟨b, e, rfl⟩ := oP_ex h
  exact e
/-- a fork that waits for its test -/
def condK (c A B : Prop) (_ : Tg (A, B) := ⟨⟩) : Prop := (c → A) ∧ (¬ c → B)
theorem condK_t {A B : Prop} {g : Tg (A, B)} : condK True A B g = A := by simp [condK]
theorem condK_f {A B : Prop} {g : Tg (A, B)} : condK False A B g = B := by simp [condK]
theorem condK_i {c A B : Prop} {g : Tg (A, B)} (h : c → A) (h' : ¬ c → B) : condK c A B g := ⟨h, h'⟩
theorem oP_condK {α : Type} {c : Prop} [Decidable c] {x y : Option α} {Q : α → Prop} : oP (if c then x else y) Q = condK c (oP x Q) (oP y Q) := by
  by_cases h : c <;> simp [h, condK]
theorem withO_condK {α : Type} {c : Prop} [Decidable c] {x y : Option α} {k : α → Prop} {g : Tg k} : withO (if c then x else y) k g = condK c (withO x k) (withO y k) := by
  by_cases h : c <;> simp [h, condK]
theorem oP_bindT {α β : Type} {o : Option α} {f : α → Option β} {Q : β → Prop} : oP (o.bind f) Q = withO o (fun a => oP (f a) Q) := by cases o <;> rfl
theorem withO_bind {α β : Type} {o : Option α} {f : α → Option β} {k : β → Prop} {g : Tg k} : withO (o.bind f) k g = withO o (fun a => withO (f a) k) := by cases o <;> rfl
theorem withO_i {α : Type} {o : Option α} {k : α → Prop} {g : Tg k} (h : oP o k) : withO o k g := by rw [withO_oP]; exact h
theorem oP_nx {σ ρ β : Type} {s : σ} {f : σ → Option β} {g : ρ → Option β} {Q : β → Prop} : oP ((SO.nx s : SO σ ρ).cs f g) Q = oP (f s) Q := rfl
theorem oP_rt {σ ρ β : Type} {s : ρ} {f : σ → Option β} {g : ρ → Option β} {Q : β → Prop} : oP ((SO.rt s : SO σ ρ).cs f g) Q = oP (g s) Q := rfl
theorem iteB_some {c : Prop} [Decidable c] (a b : Bool) : (if c then some a else some b) = some (if c then a else b) := by split <;> rfl
theorem iteD_some {c : Prop} [Decidable c] (a b : D) : (if c then some a else some b) = some (if c then a else b) := by split <;> rfl
theorem ite_int {c : Prop} [Decidable c] (a b : Int) : (if c then D.int a else D.int b) = D.int (if c then a else b) := by split <;> rfl
theorem ite_and {c : Prop} [Decidable c] (b : Bool) : (if c then b else false) = (decide c && b) := by by_cases h : c <;> simp [h]
theorem ite_or {c : Prop} [Decidable c] (b : Bool) : (if c then true else b) = (decide c || b) := by by_cases h : c <;> simp [h]
theorem oP_getl {l : List D} {i : Int} {Q : D → Prop} (h0 : 0 ≤ i) (h : i < l.length) (k : ∀ x, x ∈ l → l[i.toNat]? = some x → Q x) : oP (getX (.lst l) (.int i)) Q := by
  obtain ⟨x, h1, h2, e⟩ := getX_lst h0 h
  exact oP_at e (k x h1 h2)
theorem oP_gets {l : List D} {i : Int} {Q : D → Prop} (h0 : 0 ≤ i) (h : i < l.length) (k : ∀ x, x ∈ l → l[i.toNat]? = some x → Q x) : oP (getX (.scr l) (.int i)) Q := by
  obtain ⟨x, h1, h2, e⟩ := getX_scr h0 h
  exact oP_at e (k x h1 h2)
theorem oP_each {f : D → Option D} {ds : List D} {Q : List D → Prop} (Pr : Nat → D → Prop) (hl : ds.length ≤ sizeLine) (h : ∀ (i : Nat) (d : D), ds[i]? = some d → oP (f d) (Pr i)) (k : ∀ l, l.length = ds.length → (∀ i y, l[i]? = some y → Pr i y) → Q l) : oP (mapX f ds) Q := by
  have : ∀ (ds : List D) (n : Nat), (∀ (i : Nat) (d : D), ds[i]? = some d → oP (f d) (Pr (n + i))) → ∃ l, mapG f ds = some l ∧ l.length = ds.length ∧ ∀ i y, l[i]? = some y → Pr (n + i) y := by
    intro ds
    induction ds with
    | nil => exact fun n _ => ⟨[], rfl, rfl, fun i y h => by simp at h⟩
    | cons d ds ih =>
      intro n h
      obtain ⟨y, e1, p1⟩ := oP_ex (h 0 d rfl)
      obtain ⟨l, e2, l2, p2⟩ := ih (n + 1) fun i d hi => by
        have := h (i + 1) d (by simpa using hi)
        rwa [show n + (i + 1) = n + 1 + i by omega] at this
      refine ⟨y :: l, by rw [mapG, e1]; show (mapG f ds).bind _ = _; rw [e2]; rfl, by simp [l2], fun i z hz => ?_⟩
      cases i with
      | zero => simp at hz; subst hz; exact p1
      | succ i => rw [show n + (i + 1) = n + 1 + i by omega]; exact p2 i z (by simpa using hz)
  obtain ⟨l, e, h1, h2⟩ := this ds 0 fun i d hi => by rw [Nat.zero_add]; exact h i d hi
  refine oP_at (a := l) (by unfold mapX; rw [if_pos hl]; exact e) (k l h1 fun i y hy => ?_)
  have := h2 i y hy
  rwa [Nat.zero_add] at this
theorem oP_eachS {σ : Type} {f : σ → D → Option (D × σ)} {ds : List D} {s : σ} {Q : List D × σ → Prop} (I : Nat → σ → Prop) (Pr : Nat → D → Prop) (hl : ds.length ≤ sizeLine) (h0 : I 0 s)
    (hs : ∀ (i : Nat) (d : D) (s : σ), ds[i]? = some d → I i s → oP (f s d) fun p => Pr i p.1 ∧ I (i + 1) p.2) (k : ∀ l s', l.length = ds.length → (∀ i y, l[i]? = some y → Pr i y) → I ds.length s' → Q (l, s')) : oP (mapSX f ds s) Q := by
  obtain ⟨l, s', e, h1, h2, h3⟩ := mapSX_inv I Pr hl h0 fun i d s hi hI => by
    obtain ⟨p, e, h⟩ := oP_ex (hs i d s hi hI)
    exact ⟨p.1, p.2, e, h⟩
  exact oP_at e (k l s' h1 h2 h3)
theorem oP_wh {σ ρ : Type} {step : σ → Option (WH σ ρ)} {s : σ} {Q : SO σ ρ → Prop} (I : σ → Prop) (μ : σ → Nat) (h0 : I s)
    (hs : ∀ s, I s → oP (step s) fun o => o.cs (fun s' => I s' ∧ μ s' < μ s) (fun s' => Q (.nx s')) fun r => Q (.rt r)) : oP (whX step s) Q := by
  obtain ⟨o, e, h⟩ := whX_inv (step := step) I μ (fun s' => Q (.nx s')) (fun r => Q (.rt r)) (fun s hI => oP_ex (hs s hI)) (μ s) s h0 (Nat.le_refl _)
  refine oP_at e ?_
  cases o with
  | nx s => exact h
  | rt r => exact h
theorem get3_0 (a b c : D) : getX (.lst [a, b, c]) (.int 0) = some a := rfl
theorem get3_1 (a b c : D) : getX (.lst [a, b, c]) (.int 1) = some b := rfl
theorem get3_2 (a b c : D) : getX (.lst [a, b, c]) (.int 2) = some c := rfl
theorem set3_0 (a b c x : D) : setX [a, b, c] (.int 0) x = some [x, b, c] := rfl
theorem set3_1 (a b c x : D) : setX [a, b, c] (.int 1) x = some [a, x, c] := rfl
theorem set3_2 (a b c x : D) : setX [a, b, c] (.int 2) x = some [a, b, x] := rfl
theorem gett2_0 (a b : D) : getX (.tup [a, b]) (.int 0) = some a := rfl
theorem gett2_1 (a b : D) : getX (.tup [a, b]) (.int 1) = some b := rfl
theorem isX_b (a b : Bool) : isX (.bl a) (.bl b) = some (decide (a = b)) := rfl
theorem isNotX_b (a b : Bool) : isNotX (.bl a) (.bl b) = some (!decide (a = b)) := rfl
theorem mulLX_i {l : List D} {k : Int} (h : small k) (h2 : l.length * k.toNat ≤ sizeLine) : mulLX (.lst l) (.int k) = some (List.replicate k.toNat l).flatten := if_pos ⟨h, h2⟩
/-- at most n draws so far -/
def PotOk (n : Nat) (p : List D) : Prop := ∃ a b c : Int, p = [.int a, .int b, .int c] ∧ 0 ≤ a ∧ 0 ≤ b ∧ b < 2 ^ 62 ∧ 0 ≤ c ∧ c ≤ n
theorem PotOk.mono {n m : Nat} {p : List D} (h : PotOk n p) (l : n ≤ m) : PotOk m p := by
  obtain ⟨a, b, c, e, h1, h2, h3, h4, h5⟩ := h
  exact ⟨a, b, c, e, h1, h2, h3, h4, by omega⟩
theorem natz : ((0 : Nat) : Int) = 0 := rfl
theorem sq_bound {c : Int} {n : Nat} (h0 : 0 ≤ c) (h : c ≤ n) (hn : n ≤ 2 ^ 60) : 0 ≤ c * c ∧ c * c ≤ 2 ^ 120 := by
  have := Int.mul_le_mul (show c ≤ 2 ^ 60 by omega) (show c ≤ 2 ^ 60 by omega) h0 (by omega)
  exact ⟨Int.mul_nonneg h0 h0, by omega⟩
theorem ofGet {l : List D} {P : D → Prop} (h : ∀ (i : Nat) y, l[i]? = some y → P y) : ∀ x ∈ l, P x := fun x hx => by
  obtain ⟨i, hi⟩ := List.getElem?_of_mem hx
  exact h i x hi
theorem in_range {m : Nat} {i : Nat} {d : D} (h : (rangeD 0 1 m)[i]? = some d) : i < m ∧ d = .int i := by
  obtain ⟨q, e⟩ := List.getElem?_eq_some_iff.mp h
  rw [range0_eq] at h
  simp only [List.getElem?_map, Option.map_eq_some_iff, List.getElem?_range'] at h
  obtain ⟨x, hx, rfl⟩ := h
  have := List.getElem?_eq_some_iff.mp hx
  obtain ⟨q2, e2⟩ := this
  rw [List.length_range] at q2
  rw [List.getElem_range] at e2
  exact ⟨q2, by rw [e2]⟩
end TL
namespace TL
open PySem PySem.Spec PyProof.Rows L2
def D.nice : Nat → D → Bool
  | _, .non => true
  | _, .bl _ => true
  | _, .int _ => true
  | _, .str _ => true
  | n + 1, .tup l => l.all (D.nice n)
  | n + 1, .lst l => l.all (D.nice n)
  | _, _ => false
theorem nice_tup {n : Nat} {l : List D} : D.nice n (.tup l) = true ↔ ∃ m, n = m + 1 ∧ ∀ x ∈ l, D.nice m x = true := by
  cases n with
  | zero => simp [D.nice]
  | succ n => simp [D.nice]
theorem nice_lst {n : Nat} {l : List D} : D.nice n (.lst l) = true ↔ ∃ m, n = m + 1 ∧ ∀ x ∈ l, D.nice m x = true := by
  cases n with
  | zero => simp [D.nice]
  | succ n => simp [D.nice]
theorem D.nice.up : ∀ {n m : Nat} {d : D}, D.nice n d = true → n ≤ m → D.nice m d = true
  | n, m, .non, _, _ => by cases m <;> rfl
  | n, m, .bl _, _, _ => by cases m <;> rfl
  | n, m, .int _, _, _ => by cases m <;> rfl
  | n, m, .str _, _, _ => by cases m <;> rfl
  | n, m, .tup l, h, hm => by
    obtain ⟨k, rfl, hk⟩ := nice_tup.mp h
    obtain ⟨j, rfl⟩ : ∃ j, m = j + 1 := ⟨m - 1, by omega⟩
    exact nice_tup.mpr ⟨j, rfl, fun x hx => D.nice.up (hk x hx) (by omega)⟩
  | n, m, .lst l, h, hm => by
    obtain ⟨k, rfl, hk⟩ := nice_lst.mp h
    obtain ⟨j, rfl⟩ : ∃ j, m = j + 1 := ⟨m - 1, by omega⟩
    exact nice_lst.mpr ⟨j, rfl, fun x hx => D.nice.up (hk x hx) (by omega)⟩
  | n, m, .scr l, h, _ => by cases n <;> cases h
  | n, m, .dct _ l, h, _ => by cases n <;> cases h
  | n, m, .ty _, h, _ => by cases n <;> cases h
  | n, m, .ref _, h, _ => by cases n <;> cases h
  | n, m, .exc _, h, _ => by cases n <;> cases h
  | n, m, .exp _, h, _ => by cases n <;> cases h
  | n, m, .xtp _, h, _ => by cases n <;> cases h
  | n, m, .cl _, h, _ => by cases n <;> cases h
  | n, m, .obj _ _, h, _ => by cases n <;> cases h
theorem plL_all {l : List D} (h : ∀ x ∈ l, D.pl x = true) : D.plL l = true := by
  induction l with
  | nil => rfl
  | cons d l ih => simp only [D.plL, Bool.and_eq_true]; exact ⟨h d List.mem_cons_self, ih fun x hx => h x (List.mem_cons_of_mem _ hx)⟩
theorem depthL_le {n : Nat} {l : List D} (h : ∀ x ∈ l, x.py.depth ≤ n) : PyData.depthAll (D.pyL l) ≤ n := by
  induction l with
  | nil => simp [D.pyL, PyData.depthAll]
  | cons d l ih =>
    simp only [D.pyL, PyData.depthAll]
    exact Nat.max_le.mpr ⟨h d List.mem_cons_self, ih fun x hx => h x (List.mem_cons_of_mem _ hx)⟩
theorem D.nice.plain : ∀ {n : Nat} {d : D}, D.nice n d = true → d.pl = true ∧ d.py.depth ≤ n ∧ d.tyN.isSome = true
  | n, .non, _ => ⟨rfl, by simp [D.py, PyData.depth], rfl⟩
  | n, .bl _, _ => ⟨rfl, by simp [D.py, PyData.depth], rfl⟩
  | n, .int _, _ => ⟨rfl, by simp [D.py, PyData.depth], rfl⟩
  | n, .str _, _ => ⟨rfl, by simp [D.py, PyData.depth], rfl⟩
  | n, .tup l, h => by
    obtain ⟨k, rfl, hk⟩ := nice_tup.mp h
    exact ⟨plL_all fun x hx => (D.nice.plain (hk x hx)).1, by simp only [D.py, PyData.depth]; have := depthL_le fun x hx => (D.nice.plain (hk x hx)).2.1; omega, rfl⟩
  | n, .lst l, h => by
    obtain ⟨k, rfl, hk⟩ := nice_lst.mp h
    exact ⟨plL_all fun x hx => (D.nice.plain (hk x hx)).1, by simp only [D.py, PyData.depth]; have := depthL_le fun x hx => (D.nice.plain (hk x hx)).2.1; omega, rfl⟩
  | n, .scr l, h => by cases n <;> cases h
  | n, .dct _ l, h => by cases n <;> cases h
  | n, .ty _, h => by cases n <;> cases h
  | n, .ref _, h => by cases n <;> cases h
  | n, .exc _, h => by cases n <;> cases h
  | n, .exp _, h => by cases n <;> cases h
  | n, .xtp _, h => by cases n <;> cases h
  | n, .cl _, h => by cases n <;> cases h
  | n, .obj _ _, h => by cases n <;> cases h
theorem inX_tup {n : Nat} {x : D} {l : List D} (hx : D.nice n x = true) (hn : n ≤ 64) (hl : ∀ y ∈ l, D.pl y = true) : inX x (.tup l) = some (memD x l) := if_pos ⟨(D.nice.plain hx).1, plL_all hl, Nat.le_trans (D.nice.plain hx).2.1 hn⟩
end TL
namespace TL
open PySem PySem.Spec PyProof.Rows L2
mutual
def D.rc : D → Nat
  | .int _ => 45
  | .non => 4
  | .bl _ => 5
  | .str x => (reprText x).length
  | .tup l => D.rcL l + 3
  | .lst l => D.rcL l + 3
  | .scr l => D.rcL l + 3
  | .dct _ _ => 4
  | .ty _ => 4
  | .ref _ => 4
  | .exc _ => 4
  | .exp _ => 4
  | .xtp _ => 4
  | .cl _ => 4
  | .obj _ _ => 4
def D.rcL : List D → Nat
  | [] => 0
  | d :: l => d.rc + 2 + D.rcL l
end
mutual
/-- no number of more than 40 places -/
def D.ib : D → Bool
  | .int i => decide (i.natAbs < 10 ^ 40)
  | .tup l => D.ibL l
  | .lst l => D.ibL l
  | .scr l => D.ibL l
  | _ => true
def D.ibL : List D → Bool
  | [] => true
  | d :: l => d.ib && D.ibL l
end
theorem tupText_len (ts : List Str) : (tupleText ts).length ≤ piled ts + 3 := by
  unfold tupleText
  rw [Str.length_append, Str.length_append]
  have h1 : (("(" : Str)).length = 1 := by decide
  have h2 : ((if ts.length == 1 then ",)" else ")" : String) : Str).length ≤ 2 := by split <;> decide
  cases ts with
  | nil =>
    have : (Str.join ", " []).length = 0 := rfl
    omega
  | cons a l =>
    have := join_length_add (a :: l) (by simp)
    omega
theorem textFrom_le : ∀ (ts : List Str) (k : Nat) (acc : Str), (textFrom k acc ts).length ≤ acc.length + piled ts
  | [], k, acc => Nat.le_refl _
  | t :: r, k, acc => by
    have ih := textFrom_le r (k + 1) (acc ++ (if k > 0 then ", " else "" : String) ++ t)
    have h2 : ((if k > 0 then ", " else "" : String) : Str).length ≤ 2 := by split <;> decide
    rw [Str.length_append, Str.length_append] at ih
    rw [piled_cons]
    show (textFrom (k + 1) (acc ++ (if k > 0 then ", " else "" : String) ++ t) r).length ≤ _
    omega
theorem lstText_len (ts : List Str) : (listText ts).length ≤ piled ts + 3 := by
  unfold listText
  rw [Str.length_append]
  have h1 : (("]" : Str)).length = 1 := by decide
  have h0 : (("[" : Str)).length = 1 := by decide
  have := textFrom_le ts 0 "["
  omega
mutual
theorem D.rc_ok : ∀ {d : D}, d.ib = true → d.py.shown.length ≤ d.rc ∧ d.py.showable = true
  | .int i, h => by
    have h' : i.natAbs < 10 ^ 40 := of_decide_eq_true h
    refine ⟨?_, ?_⟩
    · show (Str.ofString (toString i)).length ≤ 45
      rw [PySem.ofString_length]
      have := int_text_length_le10 (a := i) (k := 40) (by decide) h'
      omega
    · show decide (i.natAbs.log2 < 1920) = true
      refine decide_eq_true ?_
      by_cases z : i.natAbs = 0
      · rw [z]; decide
      · exact (Nat.log2_lt z).mpr (Nat.lt_of_lt_of_le h' (by decide +kernel))
  | .non, _ => ⟨by decide, rfl⟩
  | .bl b, _ => ⟨by cases b <;> decide, rfl⟩
  | .str x, _ => ⟨Nat.le_refl _, rfl⟩
  | .tup l, h => by
    obtain ⟨h1, h2⟩ := D.rcL_ok (l := l) h
    refine ⟨?_, h2⟩
    have := tupText_len (PyData.shownAll (D.pyL l))
    show (tupleText (PyData.shownAll (D.pyL l))).length ≤ D.rcL l + 3
    omega
  | .lst l, h => by
    obtain ⟨h1, h2⟩ := D.rcL_ok (l := l) h
    refine ⟨?_, h2⟩
    have := lstText_len (PyData.shownAll (D.pyL l))
    show (listText (PyData.shownAll (D.pyL l))).length ≤ D.rcL l + 3
    omega
  | .scr l, h => by
    obtain ⟨h1, h2⟩ := D.rcL_ok (l := l) h
    refine ⟨?_, h2⟩
    have := lstText_len (PyData.shownAll (D.pyL l))
    show (listText (PyData.shownAll (D.pyL l))).length ≤ D.rcL l + 3
    omega
  | .dct _ _, _ => ⟨(by decide : PyData.none.shown.length ≤ 4), rfl⟩
  | .ty _, _ => ⟨(by decide : PyData.none.shown.length ≤ 4), rfl⟩
  | .ref _, _ => ⟨(by decide : PyData.none.shown.length ≤ 4), rfl⟩
  | .exc _, _ => ⟨(by decide : PyData.none.shown.length ≤ 4), rfl⟩
  | .exp _, _ => ⟨(by decide : PyData.none.shown.length ≤ 4), rfl⟩
  | .xtp _, _ => ⟨(by decide : PyData.none.shown.length ≤ 4), rfl⟩
  | .cl _, _ => ⟨(by decide : PyData.none.shown.length ≤ 4), rfl⟩
  | .obj _ _, _ => ⟨(by decide : PyData.none.shown.length ≤ 4), rfl⟩
theorem D.rcL_ok : ∀ {l : List D}, D.ibL l = true → piled (PyData.shownAll (D.pyL l)) ≤ D.rcL l ∧ PyData.showableAll (D.pyL l) = true
  | [], _ => ⟨Nat.le_refl _, rfl⟩
  | d :: l, h => by
    obtain ⟨a, b⟩ := Bool.and_eq_true_iff.mp (show (d.ib && D.ibL l) = true from h)
    obtain ⟨h1, h2⟩ := D.rc_ok (d := d) a
    obtain ⟨h3, h4⟩ := D.rcL_ok (l := l) b
    refine ⟨?_, ?_⟩
    · show piled (d.py.shown :: PyData.shownAll (D.pyL l)) ≤ d.rc + 2 + D.rcL l
      rw [piled_cons]; omega
    · show (d.py.showable && PyData.showableAll (D.pyL l)) = true
      rw [h2, h4]; rfl
end
theorem reprX_ok {n : Nat} {d : D} (h : D.nice n d = true) (hn : n ≤ 64) (hi : d.ib = true) (hc : d.rc ≤ 2 ^ 24) : reprX d = some (.str d.py.shown) := by
  obtain ⟨a, b⟩ := D.rc_ok hi
  obtain ⟨p1, p2, p3⟩ := D.nice.plain h
  exact if_pos ⟨p1, Nat.le_trans p2 hn, b, Nat.le_trans a (Nat.le_trans hc (by decide))⟩
theorem rcL_le {l : List D} {c : Nat} (h : ∀ x ∈ l, x.rc ≤ c) : D.rcL l ≤ l.length * (c + 2) := by
  induction l with
  | nil => exact Nat.zero_le _
  | cons d l ih =>
    have h1 := h d List.mem_cons_self
    have h2 := ih fun x hx => h x (List.mem_cons_of_mem _ hx)
    show d.rc + 2 + D.rcL l ≤ (l.length + 1) * (c + 2)
    rw [Nat.succ_mul]
    omega
theorem ibL_of {l : List D} (h : ∀ x ∈ l, x.ib = true) : D.ibL l = true := by
  induction l with
  | nil => rfl
  | cons d l ih =>
    show (d.ib && D.ibL l) = true
    rw [h d List.mem_cons_self, ih fun x hx => h x (List.mem_cons_of_mem _ hx)]; rfl
theorem pyEq_str_self (x : Str) : pyEq (.str x) (.str x) = true := by
  show PyData.eqv (.str x) (.str x) = true
  simp [PyData.eqv]
theorem eqX_str_self (x : Str) : eqX (.str x) (.str x) = some true := by
  have : eqOk (.str x) (.str x) := ⟨rfl, rfl, by simp [D.py, PyData.depth]⟩
  unfold eqX
  rw [if_pos this, pyEq_str_self]
end TL
namespace TL
open PySem PySem.Spec PyProof.Rows L2
local macro_rules | `(tactic| walk_at $s:str) => do
  let names := (s.getString.splitOn " ").filter (· ≠ "")
  match names with
  | "mx" :: ls => do
    let pre := "wVar_ap nDictT_X nSorted_X dMulL_X dIsA_X dIsNotA_X wC_ap wBin_ap wBinK_ap wTB_ap wTru_ap wAnd_ap wOr_ap wNot_ap wAndV_ap wOrV_ap wNotT_ap wIte_ap wCh_ap wNext_ap wSeq_ap wDrop_ap wRet_ap wBrk_ap wCnt_ap wIf_ap wSet_ap wAsg_ap wPar_ap wPar3_ap wAug_ap wFor_ap wItS_ap wR1_X wR2_X wR3_X wNil_ap wCons_ap gN_ap wYes_ap wLc_ap aNil_ap aV_ap aR_ap wNeg_ap wTup_ap wLst_ap wBi_ap wBiK_ap wSubK_ap oNone_ap oSome_ap wSl_ap wApp_ap wExt_ap wPop_X wPut_ap wAugS_ap wDnew_ap kNil_ap kCons_ap wDisp_ap wPairs pk_ap stR_ap onLst_ap retO_ap goCall_ap putC_ap putC'_dct putC'_X getC_ap getC'_L getC'_D tup2_P tup3_P gT2_X gT3_X gsNil_ap gsCons_ap wLrg1_X wTrg1_X wWhile_ap wCall_ap wGhN_ap wRetG_ap wFr_ap wGhE_ap wGX_ap wIG_ap wIgh_ap fzv fzl fzd rB_v asB_bl_P truD_X itD_X dAdd_X dAddL_X dSub_X dMulA_X dDiv_X dMod_X dPow_X dShl_X dShr_X dAnd_X iAdd_X iMul_X dEq_X dNe_X dLt_X dLtA_X dLe_X dGt_X dGe_X dIn_X dNotIn_X dIs_X dIsNot_X dGet_X dSl_X nLen_X nInt_X nAbs_X nMax2_X nMin2_X nSum_X nAll_X nAny_X nTuple_X nList_X nIsi_X oP_some oP_none oP_bind oP_ite oP_cs appX_P extX_P putX_P dispX_P withO_asI withO_isi withO_asL itX_l itX_t truX_b wNever_ap wIzip2_ap wIzip3_ap wIenumerate_ap wIreversed_ap wParR2_ap wParR3_ap nRepr_X oP_exs oP_un oP_bindE wNoX_ap wRaise_ap wTryAs_ap catchK_ap nIsE_X wLm1_ap pkL_ap dCountT_X dIndexT_X guard_P".splitOn " "
    let post := "withO_some varS stS two? three? oneX rint_v rbl_v int_v oneL_X asL_lst asI_int asB_bl vAt lstAt peek cellAt setCell fnD fnX outsOf start0 toSlot refsA_nil refsA_inl refsA_inr List.nodup_nil List.nodup_cons List.not_mem_nil not_false_eq_true resA putA reSlot wipeT R.d? Cell.d? Cell.p? List.getElem?_cons_zero List.getElem?_cons_succ List.set_cons_zero List.set_cons_succ List.map_cons List.map_nil List.length_cons List.length_nil List.nil_append List.cons_append List.append_nil md_zero md_succ Option.isSome_some Option.map_some List.replicate Option.some.injEq if_true if_false ite_true ite_false Bool.false_eq_true Bool.true_eq_false reduceIte and_true true_and Bool.not_true Bool.not_false Bool.not_not Nat.reduceAdd Nat.reduceSub Nat.reduceLeDiff size_def ghZ_kp ghZ_fz ghZ_kl ghZ_nil klZ_t klZ_f klZ_nil frzS_l frzS_d frzS_v frzS_un killS_v killS_un killS_own killS_bor SO.cs_nx SO.cs_rt WH.cs_go WH.cs_dn WH.cs_rt List.mem_cons List.mem_singleton or_false false_or Ex.cs_ok Ex.cs_er noX_ap unS".splitOn " "
    let down := fun (l : String) => l.startsWith "b_" || l.startsWith "w_" || l.startsWith "e_" || l.startsWith "q_" || l.startsWith "j_" || l.startsWith "m_"
    let a ← (pre ++ ls.filter down).toArray.mapM fun (l : String) => do
      let i := Lean.mkIdent l.toName
      `(Lean.Parser.Tactic.simpLemma| ↓$i:term)
    let b ← (post ++ ls.filter (fun l => !down l)).toArray.mapM fun (l : String) => do
      let i := Lean.mkIdent l.toName
      `(Lean.Parser.Tactic.simpLemma| $i:term)
    let all := a ++ b
    `(tactic| simp -implicitDefEqProofs -dsimp only [$all,*])
  | _ => Lean.Macro.throwUnsupported
section
noncomputable section
def m_law_pot_j1 (v_script : D) (v_k : D) (v_cell : D) : Option (D) :=
  (lenX v_script).bind fun t1 =>
  (gtX t1 (.int 0)).bind fun t2 =>
  if t2 = true then
    (lenX v_script).bind fun t3 =>
    (modX v_k t3).bind fun t4 =>
    (getX v_script t4).bind fun t5 =>
    some t5
  else
    some v_cell
def j_law_pot_j1 : WS := wIf (wTB (wBin dGt (wBiK nLen 0) (wC (.int 0))))
  (wSeq (wSet 2 (wFr (wSubK dGet 0 (wBin dMod (wVar 1) (wBiK nLen 0))))) (wGhN [.kl, .kp, .kp, .kp]))
  (wSeq (wNext) (wGhN [.kl, .kp, .kp, .kp]))
theorem l_law_pot_j1 (W : TX) (nx : TSt → Prop) (rt : R → TSt → Prop) (bk ct : TSt → Prop) (v_script : D) (v_k : D) (v_cell : D) : j_law_pot_j1 W [.v v_script, .v v_k, .v v_cell, .un] ⟨nx, rt, bk, ct⟩ = oP (m_law_pot_j1 v_script v_k v_cell) fun s => nx [.un, .v v_k, .v s, .un] := by walk_at "mx  m_law_pot_j1 j_law_pot_j1"
def m_law_pot (v_script : D) (v_k : D) : Option (List D) :=
  (m_law_pot_j1 v_script v_k (.int 0)).bind fun t6 =>
  (modX t6 (.int 2305843009213693951)).bind fun t7 =>
  (mulAX (.int 7919) v_k).bind fun t8 =>
  (mulAX t8 v_k).bind fun t9 =>
  (addX t7 t9).bind fun t10 =>
  (addX t10 (.int 3)).bind fun t11 =>
  (mulAX t11 (.int 48271)).bind fun t12 =>
  (modX t12 (.int 2305843009213693921)).bind fun t13 =>
  (absX t6).bind fun t14 =>
  (powX (.int 10) (.int 18)).bind fun t15 =>
  (geX t14 t15).bind fun t16 =>
  (if t16 = true then (absX t6).bind fun t17 =>
    some t17 else some (.int 0)).bind fun t18 =>
  some ([t18, t13, (.int 0)])
def w_law_pot : WS :=
  wSeq (wSet 2 (wFr (wC (.int 0))))
  (wSeq (j_law_pot_j1)
  (wSeq (wSet 3 (wFr (wBin dMod (wBin dMulA (wBin dAdd (wBin dAdd (wBin dMod (wVar 2) (wC (.int 2305843009213693951))) (wBin dMulA (wBin dMulA (wC (.int 7919)) (wVar 1)) (wVar 1))) (wC (.int 3))) (wC (.int 48271))) (wC (.int 2305843009213693921)))))
  (wRetG [false, false, false, false] (wLst (wCons (wIte (wTB (wBin dGe (wBi nAbs (wCons (wVar 2) (wNil))) (wBin dPow (wC (.int 10)) (wC (.int 18))))) (wFr (wBi nAbs (wCons (wVar 2) (wNil)))) (wFr (wC (.int 0)))) (wCons (wVar 3) (wCons (wC (.int 0)) (wNil))))))))
def sp_law_pot : TSpec := fun args PQ _ => ∃ (v_script : D) (v_k : D), args = [.v v_script, .v v_k] ∧ oP (m_law_pot v_script v_k) fun r => PQ (.own (.lst r)) []
theorem cl_law_pot (v_script : D) (v_k : D) (PQ : R → List Cell → Prop) (PX : String → Pay → List Cell → Prop) : callK sp_law_pot [.v v_script, .v v_k] PQ PX ⟨⟩ = oP (m_law_pot v_script v_k) fun r => PQ (.own (.lst r)) [] := by
  unfold callK sp_law_pot
  refine propext ⟨fun h => ?_, fun h => ?_⟩
  · obtain ⟨_, _, e, h⟩ := h; cases e; exact h
  · exact ⟨_, _, rfl, h⟩
theorem e_law_pot (PQ : R → List Cell → Prop) (PX : String → Pay → List Cell → Prop) (v_script : D) (v_k : D) : w_law_pot (fnX [.v v_script, .v v_k] PX) (start0 4 [.v v_script, .v v_k]) (fnD [.v v_script, .v v_k] PQ) = oP (m_law_pot v_script v_k) fun r => PQ (.own (.lst r)) [] := by walk_at "mx l_law_pot_j1 m_law_pot w_law_pot"
theorem ok_law_pot : ∀ args PQ PX, sp_law_pot args PQ PX → w_law_pot (fnX args PX) (start0 4 args) (fnD args PQ) := by
  rintro args PQ PX ⟨_, _, rfl, h⟩
  rw [e_law_pot]; exact h
theorem hl_law_pot : ∀ args PQ PX, sp_law_pot args PQ PX → args.length = 2 := by
  rintro args PQ PX ⟨_, _, rfl, h⟩; rfl
def m_law_take (v_pot_here : List D) (v_many : D) : Option (D × (List D)) :=
  (getX (.lst v_pot_here) (.int 0)).bind fun t1 =>
  (gtX t1 (.int 0)).bind fun t2 =>
  if t2 = true then
    (getX (.lst v_pot_here) (.int 0)).bind fun t3 =>
    (modX t3 v_many).bind fun t4 =>
    (getX (.lst v_pot_here) (.int 0)).bind fun t5 =>
    (divX t5 v_many).bind fun t6 =>
    (setX v_pot_here (.int 0) t6).bind fun t7 =>
    some (t4, t7)
  else
    (getX (.lst v_pot_here) (.int 2)).bind fun t8 =>
    (addX t8 (.int 1)).bind fun t9 =>
    (setX v_pot_here (.int 2) t9).bind fun t10 =>
    (getX (.lst t10) (.int 1)).bind fun t11 =>
    (getX (.lst t10) (.int 2)).bind fun t12 =>
    (mulAX (.int 65537) t12).bind fun t13 =>
    (getX (.lst t10) (.int 2)).bind fun t14 =>
    (mulAX t13 t14).bind fun t15 =>
    (addX t11 t15).bind fun t16 =>
    (addX t16 (.int 11)).bind fun t17 =>
    (mulAX t17 (.int 48271)).bind fun t18 =>
    (modX t18 (.int 2305843009213693921)).bind fun t19 =>
    (modX t19 (.int 1000003)).bind fun t20 =>
    (getX (.lst t10) (.int 2)).bind fun t21 =>
    (mulAX (.int 99991) t21).bind fun t22 =>
    (addX t20 t22).bind fun t23 =>
    (mulAX t19 t23).bind fun t24 =>
    (modX t24 (.int 2305843009213693907)).bind fun t25 =>
    (divX t25 (.int 97)).bind fun t26 =>
    (divX t25 (.int 1000033)).bind fun t27 =>
    (addX t26 t27).bind fun t28 =>
    (modX t28 v_many).bind fun t29 =>
    some (t29, t10)
def w_law_take : WS :=
  wSeq (wIf (wTB (wBin dGt (wSubK dGet 0 (wC (.int 0))) (wC (.int 0))))
  (wSeq (wSet 2 (wFr (wBin dMod (wSubK dGet 0 (wC (.int 0))) (wVar 1))))
  (wSeq (wPut 0 (wC (.int 0)) (wBin dDiv (wSubK dGet 0 (wC (.int 0))) (wVar 1)))
  (wRetG [true, false, false, false] (wFr (wVar 2)))))
  (wNext))
  (wSeq (wPut 0 (wC (.int 2)) (wBin dAdd (wSubK dGet 0 (wC (.int 2))) (wC (.int 1))))
  (wSeq (wSet 3 (wFr (wBin dMod (wBin dMulA (wBin dAdd (wBin dAdd (wSubK dGet 0 (wC (.int 1))) (wBin dMulA (wBin dMulA (wC (.int 65537)) (wSubK dGet 0 (wC (.int 2)))) (wSubK dGet 0 (wC (.int 2))))) (wC (.int 11))) (wC (.int 48271))) (wC (.int 2305843009213693921)))))
  (wSeq (wSet 3 (wFr (wBin dMod (wBin dMulA (wVar 3) (wBin dAdd (wBin dMod (wVar 3) (wC (.int 1000003))) (wBin dMulA (wC (.int 99991)) (wSubK dGet 0 (wC (.int 2)))))) (wC (.int 2305843009213693907)))))
  (wRetG [true, false, false, false] (wFr (wBin dMod (wBin dAdd (wBin dDiv (wVar 3) (wC (.int 97))) (wBin dDiv (wVar 3) (wC (.int 1000033)))) (wVar 1)))))))
def sp_law_take : TSpec := fun args PQ _ => ∃ (v_pot_here : List D) (v_many : D), args = [.ref (.lst v_pot_here), .v v_many] ∧ oP (m_law_take v_pot_here v_many) fun r => PQ (.v r.1) [.lst r.2]
theorem cl_law_take (v_pot_here : List D) (v_many : D) (PQ : R → List Cell → Prop) (PX : String → Pay → List Cell → Prop) : callK sp_law_take [.ref (.lst v_pot_here), .v v_many] PQ PX ⟨⟩ = oP (m_law_take v_pot_here v_many) fun r => PQ (.v r.1) [.lst r.2] := by
  unfold callK sp_law_take
  refine propext ⟨fun h => ?_, fun h => ?_⟩
  · obtain ⟨_, _, e, h⟩ := h; cases e; exact h
  · exact ⟨_, _, rfl, h⟩
theorem e_law_take (PQ : R → List Cell → Prop) (PX : String → Pay → List Cell → Prop) (v_pot_here : List D) (v_many : D) : w_law_take (fnX [.ref (.lst v_pot_here), .v v_many] PX) (start0 4 [.ref (.lst v_pot_here), .v v_many]) (fnD [.ref (.lst v_pot_here), .v v_many] PQ) = oP (m_law_take v_pot_here v_many) fun r => PQ (.v r.1) [.lst r.2] := by walk_at "mx  m_law_take w_law_take"
theorem ok_law_take : ∀ args PQ PX, sp_law_take args PQ PX → w_law_take (fnX args PX) (start0 4 args) (fnD args PQ) := by
  rintro args PQ PX ⟨_, _, rfl, h⟩
  rw [e_law_take]; exact h
theorem hl_law_take : ∀ args PQ PX, sp_law_take args PQ PX → args.length = 2 := by
  rintro args PQ PX ⟨_, _, rfl, h⟩; rfl
end
end
section
noncomputable section
def m_law_size_f1  (s : D) (d : D) : Option (D) :=
  (mulAX s d).bind fun t2 =>
  some t2
def b_law_size_f1 : WS := wSeq (wSet 1 (wFr (wBin dMulA (wVar 1) (wVar 2))))
  (wGhN [.kp, .kp, .kl])
theorem l_law_size_f1 (W : TX) (nx : TSt → Prop) (rt : R → TSt → Prop) (bk ct : TSt → Prop)  (v_found : D) (ds : List D) : forK (gN 2) b_law_size_f1 W ds [.un, .v v_found, .un] ⟨nx, rt, bk, ct⟩ ⟨⟩ = oP (foldX (m_law_size_f1 ) ds v_found) fun s => nx [.un, .v s, .un] := forK_fold (fun s : D => [.un, .v s, .un]) (m_law_size_f1 ) (fun s d nxt => by walk_at "mx  m_law_size_f1 b_law_size_f1") ds v_found
def m_law_size (v_rings_here : D) : Option (D) :=
  (itX v_rings_here).bind fun t1 =>
  (foldX (m_law_size_f1 ) t1 (.int 1)).bind fun t3 =>
  some t3
def w_law_size : WS :=
  wSeq (wSet 1 (wFr (wC (.int 1))))
  (wSeq (wFor (wIgh [.kl, .kp, .kp] (wItS (wVar 0))) (gN 2) b_law_size_f1)
  (wRetG [false, false, false] (wFr (wVar 1))))
def sp_law_size : TSpec := fun args PQ _ => ∃ (v_rings_here : D), args = [.v v_rings_here] ∧ oP (m_law_size v_rings_here) fun r => PQ (.v r) []
theorem cl_law_size (v_rings_here : D) (PQ : R → List Cell → Prop) (PX : String → Pay → List Cell → Prop) : callK sp_law_size [.v v_rings_here] PQ PX ⟨⟩ = oP (m_law_size v_rings_here) fun r => PQ (.v r) [] := by
  unfold callK sp_law_size
  refine propext ⟨fun h => ?_, fun h => ?_⟩
  · obtain ⟨_, e, h⟩ := h; cases e; exact h
  · exact ⟨_, rfl, h⟩
theorem e_law_size (PQ : R → List Cell → Prop) (PX : String → Pay → List Cell → Prop) (v_rings_here : D) : w_law_size (fnX [.v v_rings_here] PX) (start0 3 [.v v_rings_here]) (fnD [.v v_rings_here] PQ) = oP (m_law_size v_rings_here) fun r => PQ (.v r) [] := by walk_at "mx l_law_size_f1 m_law_size w_law_size"
theorem ok_law_size : ∀ args PQ PX, sp_law_size args PQ PX → w_law_size (fnX args PX) (start0 3 args) (fnD args PQ) := by
  rintro args PQ PX ⟨_, rfl, h⟩
  rw [e_law_size]; exact h
theorem hl_law_size : ∀ args PQ PX, sp_law_size args PQ PX → args.length = 1 := by
  rintro args PQ PX ⟨_, rfl, h⟩; rfl
def m_law_board_c3 (v_one : D)  (d : D) : Option (D) :=
  (addX v_one (.tup [d])).bind fun t4 =>
  some t4
def e_law_board_c3 : WE := wBin dAdd (wVar 4) (wTup (wCons (wVar 5) (wNil)))
theorem l_law_board_c3 (v_size_here : D) (v_longer : List D) (v_one : D) (ds : List D) (Q : List D → TSt → Prop) : (lenOk ds ∧ lcK (gN 5) wYes e_law_board_c3 [5] ds [] [.un, .un, .v v_size_here, .own (.lst v_longer), .v v_one, .un] Q ⟨⟩) = oP (mapX (m_law_board_c3 v_one) ds) fun l => Q l [.un, .un, .v v_size_here, .own (.lst v_longer), .v v_one, .un] := lc_map [.un, .un, .v v_size_here, .own (.lst v_longer), .v v_one, .un] (m_law_board_c3 v_one) (fun d Y => by walk_at "mx  m_law_board_c3 e_law_board_c3") ds
def m_law_board_f2 (v_size_here : D) (s : List D) (d : D) : Option (List D) :=
  (rg1X v_size_here).bind fun t3 =>
  (mapX (m_law_board_c3 d) t3).bind fun t5 =>
  (extX s t5).bind fun t6 =>
  some t6
def b_law_board_f2 : WS := wSeq (wDrop (wExt 3 (wCons (wLc (wIG (wR1 (wCons (wVar 2) (wNil)))) (gN 5) (wYes) e_law_board_c3 [5]) (wNil))))
  (wGhN [.kp, .kp, .kp, .kp, .kl, .kp])
theorem l_law_board_f2 (W : TX) (nx : TSt → Prop) (rt : R → TSt → Prop) (bk ct : TSt → Prop) (v_size_here : D) (v_longer : List D) (ds : List D) : forK (gN 4) b_law_board_f2 W ds [.un, .un, .v v_size_here, .own (.lst v_longer), .un, .un] ⟨nx, rt, bk, ct⟩ ⟨⟩ = oP (foldX (m_law_board_f2 v_size_here) ds v_longer) fun s => nx [.un, .un, .v v_size_here, .own (.lst s), .un, .un] := forK_fold (fun s : List D => [.un, .un, .v v_size_here, .own (.lst s), .un, .un]) (m_law_board_f2 v_size_here) (fun s d nxt => by walk_at "mx l_law_board_c3 m_law_board_f2 b_law_board_f2") ds v_longer
def m_law_board_f1  (s : D) (d : D) : Option (D) :=
  (itX s).bind fun t2 =>
  (foldX (m_law_board_f2 d) t2 []).bind fun t7 =>
  some (.lst t7)
def b_law_board_f1 : WS := wSeq (wSeq (wSet 3 (wLst (wNil)))
  (wSeq (wFor (wIgh [.kp, .kl, .kp, .kp, .kp, .kp] (wItS (wVar 1))) (gN 4) b_law_board_f2)
  (wSet 1 (wFr (wVar 3)))))
  (wGhN [.kp, .kp, .kl, .kl, .kp, .kp])
theorem l_law_board_f1 (W : TX) (nx : TSt → Prop) (rt : R → TSt → Prop) (bk ct : TSt → Prop)  (v_found : D) (ds : List D) : forK (gN 2) b_law_board_f1 W ds [.un, .v v_found, .un, .un, .un, .un] ⟨nx, rt, bk, ct⟩ ⟨⟩ = oP (foldX (m_law_board_f1 ) ds v_found) fun s => nx [.un, .v s, .un, .un, .un, .un] := forK_fold (fun s : D => [.un, .v s, .un, .un, .un, .un]) (m_law_board_f1 ) (fun s d nxt => by walk_at "mx l_law_board_c3 l_law_board_f2 m_law_board_f1 b_law_board_f1") ds v_found
def m_law_board (v_rings_here : D) : Option (D) :=
  (itX v_rings_here).bind fun t1 =>
  (foldX (m_law_board_f1 ) t1 (.lst [(.tup [])])).bind fun t8 =>
  some t8
def w_law_board : WS :=
  wSeq (wSet 1 (wFr (wLst (wCons (wTup (wNil)) (wNil)))))
  (wSeq (wFor (wIgh [.kl, .kp, .kp, .kp, .kp, .kp] (wItS (wVar 0))) (gN 2) b_law_board_f1)
  (wRetG [false, false, false, false, false, false] (wFr (wVar 1))))
def sp_law_board : TSpec := fun args PQ _ => ∃ (v_rings_here : D), args = [.v v_rings_here] ∧ oP (m_law_board v_rings_here) fun r => PQ (.v r) []
theorem cl_law_board (v_rings_here : D) (PQ : R → List Cell → Prop) (PX : String → Pay → List Cell → Prop) : callK sp_law_board [.v v_rings_here] PQ PX ⟨⟩ = oP (m_law_board v_rings_here) fun r => PQ (.v r) [] := by
  unfold callK sp_law_board
  refine propext ⟨fun h => ?_, fun h => ?_⟩
  · obtain ⟨_, e, h⟩ := h; cases e; exact h
  · exact ⟨_, rfl, h⟩
theorem e_law_board (PQ : R → List Cell → Prop) (PX : String → Pay → List Cell → Prop) (v_rings_here : D) : w_law_board (fnX [.v v_rings_here] PX) (start0 6 [.v v_rings_here]) (fnD [.v v_rings_here] PQ) = oP (m_law_board v_rings_here) fun r => PQ (.v r) [] := by walk_at "mx l_law_board_c3 l_law_board_f2 l_law_board_f1 m_law_board w_law_board"
theorem ok_law_board : ∀ args PQ PX, sp_law_board args PQ PX → w_law_board (fnX args PX) (start0 6 args) (fnD args PQ) := by
  rintro args PQ PX ⟨_, rfl, h⟩
  rw [e_law_board]; exact h
theorem hl_law_board : ∀ args PQ PX, sp_law_board args PQ PX → args.length = 1 := by
  rintro args PQ PX ⟨_, rfl, h⟩; rfl
def m_law_rings_c1 (v_most : D)  (d : D) : Option (Option D) :=
  (m_law_size d).bind fun t1 =>
  (leX t1 v_most).bind fun t2 =>
  if t2 = true then some (some d) else some none
def e_law_rings_c1 : WE := wVar 3
def q_law_rings_c1 : WT := wTB (wBin dLe (wCall sp_law_size (aV (wVar 3) (aNil))) (wVar 1))
theorem l_law_rings_c1 (v_pot_here : List D) (v_most : D) (v_known : D) (ds : List D) (Q : List D → TSt → Prop) : (lenOk ds ∧ lcK (gN 3) q_law_rings_c1 e_law_rings_c1 [3] ds [] [.bor (.lst v_pot_here), .v v_most, .v v_known, .un, .un, .un] Q ⟨⟩) = oP (fmapX (m_law_rings_c1 v_most) ds) fun l => Q l [.bor (.lst v_pot_here), .v v_most, .v v_known, .un, .un, .un] := lc_fmap [.bor (.lst v_pot_here), .v v_most, .v v_known, .un, .un, .un] (m_law_rings_c1 v_most) (fun d Y N => by walk_at "mx cl_law_size m_law_rings_c1 e_law_rings_c1 q_law_rings_c1") ds
def m_law_rings_w2 (v_most : D) (s : (List D) × D) : Option (WH ((List D) × D) (D × (List D))) :=
  (lenX s.2).bind fun t15 =>
  (ltAX t15 (.int 4)).bind fun t16 =>
  (if t16 = true then (m_law_size s.2).bind fun t17 =>
    (mulAX t17 (.int 2)).bind fun t18 =>
    (leX t18 v_most).bind fun t19 =>
    (if t19 = true then (m_law_take s.1 (.int 3)).bind fun t20 =>
      (gtX t20.1 (.int 0)).bind fun t21 =>
      some (t21, t20.2) else some (false, s.1)).bind fun t22 =>
    some (t22.1, t22.2) else some (false, s.1)).bind fun t23 =>
  if t23.1 = true then
    (m_law_size s.2).bind fun t24 =>
    (divX v_most t24).bind fun t25 =>
    (subX t25 (.int 1)).bind fun t26 =>
    (m_law_take t23.2 t26).bind fun t27 =>
    (addX (.int 2) t27.1).bind fun t28 =>
    (addX s.2 (.tup [t28])).bind fun t29 =>
    some (.go (t27.2, t29))
  else
    some (.dn (t23.2, s.2))
def q_law_rings_w2 : WT := wAnd (wTB (wBin dLtA (wBiK nLen 5) (wC (.int 4)))) (wAnd (wTB (wBin dLe (wBin dMulA (wCall sp_law_size (aV (wVar 5) (aNil))) (wC (.int 2))) (wVar 1))) (wTB (wBin dGt (wCall sp_law_take (aR 0 (aV (wC (.int 3)) (aNil)))) (wC (.int 0)))))
def b_law_rings_w2 : WS := wSet 5 (wFr (wBin dAdd (wVar 5) (wTup (wCons (wBin dAdd (wC (.int 2)) (wCall sp_law_take (aR 0 (aV (wBin dSub (wBin dDiv (wVar 1) (wCall sp_law_size (aV (wVar 5) (aNil)))) (wC (.int 1))) (aNil))))) (wNil)))))
theorem l_law_rings_w2 (W : TX) (nx : TSt → Prop) (rt : R → TSt → Prop) (bk ct : TSt → Prop) (v_most : D) (v_pot_here : List D) (v_found : D) : whileK q_law_rings_w2 b_law_rings_w2 W [.bor (.lst v_pot_here), .v v_most, .un, .un, .un, .v v_found] ⟨nx, rt, bk, ct⟩ ⟨⟩ = oP (whX (m_law_rings_w2 v_most) (v_pot_here, v_found)) fun o => o.cs (fun s => nx [.bor (.lst s.1), .v v_most, .un, .un, .un, .v s.2]) (fun r => rt (.v r.1) [.bor (.lst r.2), .un, .un, .un, .un, .un]) := whileK_X (fun s : (List D) × D => [.bor (.lst s.1), .v v_most, .un, .un, .un, .v s.2]) (fun r => rt (.v r.1) [.bor (.lst r.2), .un, .un, .un, .un, .un]) (m_law_rings_w2 v_most) (fun s nxt => by walk_at "mx l_law_rings_c1 cl_law_size cl_law_take m_law_rings_w2 b_law_rings_w2 q_law_rings_w2") (v_pot_here, v_found)
def m_law_rings (v_pot_here : List D) (v_most : D) : Option (D × (List D)) :=
  (fmapX (m_law_rings_c1 v_most) ([(.tup [(.int 7)]), (.tup [(.int 13)]), (.tup [(.int 11)]), (.tup [(.int 15)]), (.tup [(.int 4), (.int 4)]), (.tup [(.int 3), (.int 5)]), (.tup [(.int 2), (.int 2), (.int 2), (.int 2)]), (.tup [(.int 2), (.int 8)]), (.tup [(.int 16)]), (.tup [(.int 2), (.int 2), (.int 4)]), (.tup [(.int 3), (.int 3)]), (.tup [(.int 2), (.int 2), (.int 2)])])).bind fun t3 =>
  (m_law_take v_pot_here (.int 3)).bind fun t4 =>
  (eqX t4.1 (.int 0)).bind fun t5 =>
  if t5 = true then
    (lenX (.lst t3)).bind fun t6 =>
    (m_law_take t4.2 t6).bind fun t7 =>
    (getX (.lst t3) t7.1).bind fun t8 =>
    some (t8, t7.2)
  else
    (eqX t4.1 (.int 1)).bind fun t9 =>
    if t9 = true then
      (subX v_most (.int 1)).bind fun t10 =>
      (m_law_take t4.2 t10).bind fun t11 =>
      (addX (.int 2) t11.1).bind fun t12 =>
      some ((.tup [t12]), t11.2)
    else
      (m_law_take t4.2 (.int 5)).bind fun t13 =>
      (addX (.int 2) t13.1).bind fun t14 =>
      (whX (m_law_rings_w2 v_most) (t13.2, (.tup [t14]))).bind fun t30 =>
      t30.cs (fun s31 =>
        some (s31.2, s31.1))
        (fun r => some r)
def w_law_rings : WS :=
  wSeq (wSet 2 (wFr (wLst (wCons (wTup (wCons (wC (.int 7)) (wNil))) (wCons (wTup (wCons (wC (.int 13)) (wNil))) (wCons (wTup (wCons (wC (.int 11)) (wNil))) (wCons (wTup (wCons (wC (.int 15)) (wNil))) (wCons (wTup (wCons (wC (.int 4)) (wCons (wC (.int 4)) (wNil)))) (wCons (wTup (wCons (wC (.int 3)) (wCons (wC (.int 5)) (wNil)))) (wCons (wTup (wCons (wC (.int 2)) (wCons (wC (.int 2)) (wCons (wC (.int 2)) (wCons (wC (.int 2)) (wNil)))))) (wCons (wTup (wCons (wC (.int 2)) (wCons (wC (.int 8)) (wNil)))) (wCons (wTup (wCons (wC (.int 16)) (wNil))) (wCons (wTup (wCons (wC (.int 2)) (wCons (wC (.int 2)) (wCons (wC (.int 4)) (wNil))))) (wCons (wTup (wCons (wC (.int 3)) (wCons (wC (.int 3)) (wNil)))) (wCons (wTup (wCons (wC (.int 2)) (wCons (wC (.int 2)) (wCons (wC (.int 2)) (wNil))))) (wNil))))))))))))))))
  (wSeq (wSet 2 (wLc (wIG (wItS (wVar 2))) (gN 3) (q_law_rings_c1) e_law_rings_c1 [3]))
  (wSeq (wSet 4 (wFr (wCall sp_law_take (aR 0 (aV (wC (.int 3)) (aNil))))))
  (wSeq (wIf (wTB (wBin dEq (wVar 4) (wC (.int 0))))
  (wRetG [true, false, false, false, false, false] (wFr (wSubK dGet 2 (wCall sp_law_take (aR 0 (aV (wBiK nLen 2) (aNil)))))))
  (wNext))
  (wSeq (wIf (wTB (wBin dEq (wVar 4) (wC (.int 1))))
  (wRetG [true, false, false, false, false, false] (wFr (wTup (wCons (wBin dAdd (wC (.int 2)) (wCall sp_law_take (aR 0 (aV (wBin dSub (wVar 1) (wC (.int 1))) (aNil))))) (wNil)))))
  (wNext))
  (wSeq (wSet 5 (wFr (wTup (wCons (wBin dAdd (wC (.int 2)) (wCall sp_law_take (aR 0 (aV (wC (.int 5)) (aNil))))) (wNil)))))
  (wSeq (wSeq (wGhN [.kp, .kp, .kl, .kp, .kl, .kp]) (wWhile q_law_rings_w2 b_law_rings_w2))
  (wRetG [true, false, false, false, false, false] (wFr (wVar 5)))))))))
def sp_law_rings : TSpec := fun args PQ _ => ∃ (v_pot_here : List D) (v_most : D), args = [.ref (.lst v_pot_here), .v v_most] ∧ oP (m_law_rings v_pot_here v_most) fun r => PQ (.v r.1) [.lst r.2]
theorem cl_law_rings (v_pot_here : List D) (v_most : D) (PQ : R → List Cell → Prop) (PX : String → Pay → List Cell → Prop) : callK sp_law_rings [.ref (.lst v_pot_here), .v v_most] PQ PX ⟨⟩ = oP (m_law_rings v_pot_here v_most) fun r => PQ (.v r.1) [.lst r.2] := by
  unfold callK sp_law_rings
  refine propext ⟨fun h => ?_, fun h => ?_⟩
  · obtain ⟨_, _, e, h⟩ := h; cases e; exact h
  · exact ⟨_, _, rfl, h⟩
theorem e_law_rings (PQ : R → List Cell → Prop) (PX : String → Pay → List Cell → Prop) (v_pot_here : List D) (v_most : D) : w_law_rings (fnX [.ref (.lst v_pot_here), .v v_most] PX) (start0 6 [.ref (.lst v_pot_here), .v v_most]) (fnD [.ref (.lst v_pot_here), .v v_most] PQ) = oP (m_law_rings v_pot_here v_most) fun r => PQ (.v r.1) [.lst r.2] := by walk_at "mx l_law_rings_c1 l_law_rings_w2 cl_law_size cl_law_take m_law_rings w_law_rings"
theorem ok_law_rings : ∀ args PQ PX, sp_law_rings args PQ PX → w_law_rings (fnX args PX) (start0 6 args) (fnD args PQ) := by
  rintro args PQ PX ⟨_, _, rfl, h⟩
  rw [e_law_rings]; exact h
theorem hl_law_rings : ∀ args PQ PX, sp_law_rings args PQ PX → args.length = 2 := by
  rintro args PQ PX ⟨_, _, rfl, h⟩; rfl
end
end
section
noncomputable section
def m_product_of_f1  (s : D) (d : D) : Option (D) :=
  (imulX s d).bind fun t2 =>
  some t2
def b_product_of_f1 : WS := wSeq (wAug 1 iMul (wVar 2))
  (wGhN [.kp, .kp, .kl])
theorem l_product_of_f1 (W : TX) (nx : TSt → Prop) (rt : R → TSt → Prop) (bk ct : TSt → Prop)  (v_found : D) (ds : List D) : forK (gN 2) b_product_of_f1 W ds [.un, .v v_found, .un] ⟨nx, rt, bk, ct⟩ ⟨⟩ = oP (foldX (m_product_of_f1 ) ds v_found) fun s => nx [.un, .v s, .un] := forK_fold (fun s : D => [.un, .v s, .un]) (m_product_of_f1 ) (fun s d nxt => by walk_at "mx  m_product_of_f1 b_product_of_f1") ds v_found
def m_product_of (v_some : D) : Option (D) :=
  (itX v_some).bind fun t1 =>
  (foldX (m_product_of_f1 ) t1 (.int 1)).bind fun t3 =>
  some t3
def w_product_of : WS :=
  wSeq (wSet 1 (wFr (wC (.int 1))))
  (wSeq (wFor (wIgh [.kl, .kp, .kp] (wItS (wVar 0))) (gN 2) b_product_of_f1)
  (wRetG [false, false, false] (wFr (wVar 1))))
def sp_product_of : TSpec := fun args PQ _ => ∃ (v_some : D), args = [.v v_some] ∧ oP (m_product_of v_some) fun r => PQ (.v r) []
theorem cl_product_of (v_some : D) (PQ : R → List Cell → Prop) (PX : String → Pay → List Cell → Prop) : callK sp_product_of [.v v_some] PQ PX ⟨⟩ = oP (m_product_of v_some) fun r => PQ (.v r) [] := by
  unfold callK sp_product_of
  refine propext ⟨fun h => ?_, fun h => ?_⟩
  · obtain ⟨_, e, h⟩ := h; cases e; exact h
  · exact ⟨_, rfl, h⟩
theorem e_product_of (PQ : R → List Cell → Prop) (PX : String → Pay → List Cell → Prop) (v_some : D) : w_product_of (fnX [.v v_some] PX) (start0 3 [.v v_some]) (fnD [.v v_some] PQ) = oP (m_product_of v_some) fun r => PQ (.v r) [] := by walk_at "mx l_product_of_f1 m_product_of w_product_of"
theorem ok_product_of : ∀ args PQ PX, sp_product_of args PQ PX → w_product_of (fnX args PX) (start0 3 args) (fnD args PQ) := by
  rintro args PQ PX ⟨_, rfl, h⟩
  rw [e_product_of]; exact h
theorem hl_product_of : ∀ args PQ PX, sp_product_of args PQ PX → args.length = 1 := by
  rintro args PQ PX ⟨_, rfl, h⟩; rfl
def m_how_many (v_rings : D) : Option (D) :=
  (m_product_of v_rings).bind fun t1 =>
  some t1
def w_how_many : WS :=
  wRetG [false] (wFr (wCall sp_product_of (aV (wVar 0) (aNil))))
def sp_how_many : TSpec := fun args PQ _ => ∃ (v_rings : D), args = [.v v_rings] ∧ oP (m_how_many v_rings) fun r => PQ (.v r) []
theorem cl_how_many (v_rings : D) (PQ : R → List Cell → Prop) (PX : String → Pay → List Cell → Prop) : callK sp_how_many [.v v_rings] PQ PX ⟨⟩ = oP (m_how_many v_rings) fun r => PQ (.v r) [] := by
  unfold callK sp_how_many
  refine propext ⟨fun h => ?_, fun h => ?_⟩
  · obtain ⟨_, e, h⟩ := h; cases e; exact h
  · exact ⟨_, rfl, h⟩
theorem e_how_many (PQ : R → List Cell → Prop) (PX : String → Pay → List Cell → Prop) (v_rings : D) : w_how_many (fnX [.v v_rings] PX) (start0 1 [.v v_rings]) (fnD [.v v_rings] PQ) = oP (m_how_many v_rings) fun r => PQ (.v r) [] := by walk_at "mx cl_product_of m_how_many w_how_many"
theorem ok_how_many : ∀ args PQ PX, sp_how_many args PQ PX → w_how_many (fnX args PX) (start0 1 args) (fnD args PQ) := by
  rintro args PQ PX ⟨_, rfl, h⟩
  rw [e_how_many]; exact h
theorem hl_how_many : ∀ args PQ PX, sp_how_many args PQ PX → args.length = 1 := by
  rintro args PQ PX ⟨_, rfl, h⟩; rfl
end
end
section
noncomputable section
def m_plus_c1   (d : D) : Option (D) :=
  (tup3X d).bind fun t2 =>
  (addX t2.1 t2.2.1).bind fun t3 =>
  (modX t3 t2.2.2).bind fun t4 =>
  some t4
def e_plus_c1 : WE := wBin dMod (wBin dAdd (wVar 3) (wVar 4)) (wVar 5)
theorem l_plus_c1 (v_rings : D) (v_a : D) (v_b : D) (ds : List D) (Q : List D → TSt → Prop) : (lenOk ds ∧ lcK (gT 3 (gsCons (gN 3) (gsCons (gN 4) (gsCons (gN 5) (gsNil))))) wYes e_plus_c1 [3, 4, 5] ds [] [.v v_rings, .v v_a, .v v_b, .un, .un, .un] Q ⟨⟩) = oP (mapX (m_plus_c1 ) ds) fun l => Q l [.v v_rings, .v v_a, .v v_b, .un, .un, .un] := lc_map [.v v_rings, .v v_a, .v v_b, .un, .un, .un] (m_plus_c1 ) (fun d Y => by walk_at "mx  m_plus_c1 e_plus_c1") ds
def m_plus (v_rings : D) (v_a : D) (v_b : D) : Option (D) :=
  (zip3X v_a v_b v_rings).bind fun t1 =>
  (mapX (m_plus_c1 ) t1).bind fun t5 =>
  (tupleX (.lst t5)).bind fun t6 =>
  some t6
def w_plus : WS :=
  wRetG [false, false, false, false, false, false] (wFr (wBi nTuple (wCons (wLc (wIG (wIzip3 (wCons (wVar 1) (wCons (wVar 2) (wCons (wVar 0) (wNil)))))) (gT 3 (gsCons (gN 3) (gsCons (gN 4) (gsCons (gN 5) (gsNil))))) (wYes) e_plus_c1 [3, 4, 5]) (wNil))))
def sp_plus : TSpec := fun args PQ _ => ∃ (v_rings : D) (v_a : D) (v_b : D), args = [.v v_rings, .v v_a, .v v_b] ∧ oP (m_plus v_rings v_a v_b) fun r => PQ (.v r) []
theorem cl_plus (v_rings : D) (v_a : D) (v_b : D) (PQ : R → List Cell → Prop) (PX : String → Pay → List Cell → Prop) : callK sp_plus [.v v_rings, .v v_a, .v v_b] PQ PX ⟨⟩ = oP (m_plus v_rings v_a v_b) fun r => PQ (.v r) [] := by
  unfold callK sp_plus
  refine propext ⟨fun h => ?_, fun h => ?_⟩
  · obtain ⟨_, _, _, e, h⟩ := h; cases e; exact h
  · exact ⟨_, _, _, rfl, h⟩
theorem e_plus (PQ : R → List Cell → Prop) (PX : String → Pay → List Cell → Prop) (v_rings : D) (v_a : D) (v_b : D) : w_plus (fnX [.v v_rings, .v v_a, .v v_b] PX) (start0 6 [.v v_rings, .v v_a, .v v_b]) (fnD [.v v_rings, .v v_a, .v v_b] PQ) = oP (m_plus v_rings v_a v_b) fun r => PQ (.v r) [] := by walk_at "mx l_plus_c1 m_plus w_plus"
theorem ok_plus : ∀ args PQ PX, sp_plus args PQ PX → w_plus (fnX args PX) (start0 6 args) (fnD args PQ) := by
  rintro args PQ PX ⟨_, _, _, rfl, h⟩
  rw [e_plus]; exact h
theorem hl_plus : ∀ args PQ PX, sp_plus args PQ PX → args.length = 3 := by
  rintro args PQ PX ⟨_, _, _, rfl, h⟩; rfl
end
end
section
noncomputable section
def m_spots_c3 (v_spot : D)  (d : D) : Option (D) :=
  (addX v_spot (.tup [d])).bind fun t4 =>
  some t4
def e_spots_c3 : WE := wBin dAdd (wVar 4) (wTup (wCons (wVar 5) (wNil)))
theorem l_spots_c3 (v_size : D) (v_longer : List D) (v_spot : D) (ds : List D) (Q : List D → TSt → Prop) : (lenOk ds ∧ lcK (gN 5) wYes e_spots_c3 [5] ds [] [.un, .un, .v v_size, .own (.lst v_longer), .v v_spot, .un] Q ⟨⟩) = oP (mapX (m_spots_c3 v_spot) ds) fun l => Q l [.un, .un, .v v_size, .own (.lst v_longer), .v v_spot, .un] := lc_map [.un, .un, .v v_size, .own (.lst v_longer), .v v_spot, .un] (m_spots_c3 v_spot) (fun d Y => by walk_at "mx  m_spots_c3 e_spots_c3") ds
def m_spots_f2 (v_size : D) (s : List D) (d : D) : Option (List D) :=
  (rg1X v_size).bind fun t3 =>
  (mapX (m_spots_c3 d) t3).bind fun t5 =>
  (extX s t5).bind fun t6 =>
  some t6
def b_spots_f2 : WS := wSeq (wDrop (wExt 3 (wCons (wLc (wIG (wR1 (wCons (wVar 2) (wNil)))) (gN 5) (wYes) e_spots_c3 [5]) (wNil))))
  (wGhN [.kp, .kp, .kp, .kp, .kl, .kp])
theorem l_spots_f2 (W : TX) (nx : TSt → Prop) (rt : R → TSt → Prop) (bk ct : TSt → Prop) (v_size : D) (v_longer : List D) (ds : List D) : forK (gN 4) b_spots_f2 W ds [.un, .un, .v v_size, .own (.lst v_longer), .un, .un] ⟨nx, rt, bk, ct⟩ ⟨⟩ = oP (foldX (m_spots_f2 v_size) ds v_longer) fun s => nx [.un, .un, .v v_size, .own (.lst s), .un, .un] := forK_fold (fun s : List D => [.un, .un, .v v_size, .own (.lst s), .un, .un]) (m_spots_f2 v_size) (fun s d nxt => by walk_at "mx l_spots_c3 m_spots_f2 b_spots_f2") ds v_longer
def m_spots_f1  (s : D) (d : D) : Option (D) :=
  (itX s).bind fun t2 =>
  (foldX (m_spots_f2 d) t2 []).bind fun t7 =>
  some (.lst t7)
def b_spots_f1 : WS := wSeq (wSeq (wSet 3 (wLst (wNil)))
  (wSeq (wFor (wIgh [.kp, .kl, .kp, .kp, .kp, .kp] (wItS (wVar 1))) (gN 4) b_spots_f2)
  (wSet 1 (wFr (wVar 3)))))
  (wGhN [.kp, .kp, .kl, .kl, .kp, .kp])
theorem l_spots_f1 (W : TX) (nx : TSt → Prop) (rt : R → TSt → Prop) (bk ct : TSt → Prop)  (v_found : D) (ds : List D) : forK (gN 2) b_spots_f1 W ds [.un, .v v_found, .un, .un, .un, .un] ⟨nx, rt, bk, ct⟩ ⟨⟩ = oP (foldX (m_spots_f1 ) ds v_found) fun s => nx [.un, .v s, .un, .un, .un, .un] := forK_fold (fun s : D => [.un, .v s, .un, .un, .un, .un]) (m_spots_f1 ) (fun s d nxt => by walk_at "mx l_spots_c3 l_spots_f2 m_spots_f1 b_spots_f1") ds v_found
def m_spots (v_rings : D) : Option (D) :=
  (itX v_rings).bind fun t1 =>
  (foldX (m_spots_f1 ) t1 (.lst [(.tup [])])).bind fun t8 =>
  (tupleX t8).bind fun t9 =>
  some t9
def w_spots : WS :=
  wSeq (wSet 1 (wFr (wLst (wCons (wTup (wNil)) (wNil)))))
  (wSeq (wFor (wIgh [.kl, .kp, .kp, .kp, .kp, .kp] (wItS (wVar 0))) (gN 2) b_spots_f1)
  (wRetG [false, false, false, false, false, false] (wFr (wBiK nTuple 1))))
def sp_spots : TSpec := fun args PQ _ => ∃ (v_rings : D), args = [.v v_rings] ∧ oP (m_spots v_rings) fun r => PQ (.v r) []
theorem cl_spots (v_rings : D) (PQ : R → List Cell → Prop) (PX : String → Pay → List Cell → Prop) : callK sp_spots [.v v_rings] PQ PX ⟨⟩ = oP (m_spots v_rings) fun r => PQ (.v r) [] := by
  unfold callK sp_spots
  refine propext ⟨fun h => ?_, fun h => ?_⟩
  · obtain ⟨_, e, h⟩ := h; cases e; exact h
  · exact ⟨_, rfl, h⟩
theorem e_spots (PQ : R → List Cell → Prop) (PX : String → Pay → List Cell → Prop) (v_rings : D) : w_spots (fnX [.v v_rings] PX) (start0 6 [.v v_rings]) (fnD [.v v_rings] PQ) = oP (m_spots v_rings) fun r => PQ (.v r) [] := by walk_at "mx l_spots_c3 l_spots_f2 l_spots_f1 m_spots w_spots"
theorem ok_spots : ∀ args PQ PX, sp_spots args PQ PX → w_spots (fnX args PX) (start0 6 args) (fnD args PQ) := by
  rintro args PQ PX ⟨_, rfl, h⟩
  rw [e_spots]; exact h
theorem hl_spots : ∀ args PQ PX, sp_spots args PQ PX → args.length = 1 := by
  rintro args PQ PX ⟨_, rfl, h⟩; rfl
end
end
section
noncomputable section
def m_packed_f1  (s : D) (d : D) : Option (D) :=
  (mulAX s (.int 2)).bind fun t2 =>
  (addX t2 d).bind fun t3 =>
  some t3
def b_packed_f1 : WS := wSeq (wSet 1 (wFr (wBin dAdd (wBin dMulA (wVar 1) (wC (.int 2))) (wVar 2))))
  (wGhN [.kp, .kp, .kl])
theorem l_packed_f1 (W : TX) (nx : TSt → Prop) (rt : R → TSt → Prop) (bk ct : TSt → Prop)  (v_number : D) (ds : List D) : forK (gN 2) b_packed_f1 W ds [.un, .v v_number, .un] ⟨nx, rt, bk, ct⟩ ⟨⟩ = oP (foldX (m_packed_f1 ) ds v_number) fun s => nx [.un, .v s, .un] := forK_fold (fun s : D => [.un, .v s, .un]) (m_packed_f1 ) (fun s d nxt => by walk_at "mx  m_packed_f1 b_packed_f1") ds v_number
def m_packed (v_row : D) : Option (D) :=
  (itX v_row).bind fun t1 =>
  (foldX (m_packed_f1 ) t1 (.int 0)).bind fun t4 =>
  some t4
def w_packed : WS :=
  wSeq (wSet 1 (wFr (wC (.int 0))))
  (wSeq (wFor (wIgh [.kl, .kp, .kp] (wItS (wVar 0))) (gN 2) b_packed_f1)
  (wRetG [false, false, false] (wFr (wVar 1))))
def sp_packed : TSpec := fun args PQ _ => ∃ (v_row : D), args = [.v v_row] ∧ oP (m_packed v_row) fun r => PQ (.v r) []
theorem cl_packed (v_row : D) (PQ : R → List Cell → Prop) (PX : String → Pay → List Cell → Prop) : callK sp_packed [.v v_row] PQ PX ⟨⟩ = oP (m_packed v_row) fun r => PQ (.v r) [] := by
  unfold callK sp_packed
  refine propext ⟨fun h => ?_, fun h => ?_⟩
  · obtain ⟨_, e, h⟩ := h; cases e; exact h
  · exact ⟨_, rfl, h⟩
theorem e_packed (PQ : R → List Cell → Prop) (PX : String → Pay → List Cell → Prop) (v_row : D) : w_packed (fnX [.v v_row] PX) (start0 3 [.v v_row]) (fnD [.v v_row] PQ) = oP (m_packed v_row) fun r => PQ (.v r) [] := by walk_at "mx l_packed_f1 m_packed w_packed"
theorem ok_packed : ∀ args PQ PX, sp_packed args PQ PX → w_packed (fnX args PX) (start0 3 args) (fnD args PQ) := by
  rintro args PQ PX ⟨_, rfl, h⟩
  rw [e_packed]; exact h
theorem hl_packed : ∀ args PQ PX, sp_packed args PQ PX → args.length = 1 := by
  rintro args PQ PX ⟨_, rfl, h⟩; rfl
def m_ones_in_w1  (s : D × D) : Option (WH (D × D) (D)) :=
  (gtX s.1 (.int 0)).bind fun t1 =>
  if t1 = true then
    (subX s.1 (.int 1)).bind fun t2 =>
    (andX s.1 t2).bind fun t3 =>
    (iaddX s.2 (.int 1)).bind fun t4 =>
    some (.go (t3, t4))
  else
    some (.dn (s.1, s.2))
def q_ones_in_w1 : WT := wTB (wBin dGt (wVar 0) (wC (.int 0)))
def b_ones_in_w1 : WS := wSeq (wSet 0 (wFr (wBin dAnd (wVar 0) (wBin dSub (wVar 0) (wC (.int 1))))))
  (wAug 1 iAdd (wC (.int 1)))
theorem l_ones_in_w1 (W : TX) (nx : TSt → Prop) (rt : R → TSt → Prop) (bk ct : TSt → Prop)  (v_number : D) (v_many : D) : whileK q_ones_in_w1 b_ones_in_w1 W [.v v_number, .v v_many] ⟨nx, rt, bk, ct⟩ ⟨⟩ = oP (whX (m_ones_in_w1 ) (v_number, v_many)) fun o => o.cs (fun s => nx [.v s.1, .v s.2]) (fun r => rt (.v r) [.un, .un]) := whileK_X (fun s : D × D => [.v s.1, .v s.2]) (fun r => rt (.v r) [.un, .un]) (m_ones_in_w1 ) (fun s nxt => by walk_at "mx  m_ones_in_w1 b_ones_in_w1 q_ones_in_w1") (v_number, v_many)
def m_ones_in (v_number : D) : Option (D) :=
  (whX (m_ones_in_w1 ) (v_number, (.int 0))).bind fun t5 =>
  t5.cs (fun s6 =>
    some s6.2)
    (fun r => some r)
def w_ones_in : WS :=
  wSeq (wSet 1 (wFr (wC (.int 0))))
  (wSeq (wWhile q_ones_in_w1 b_ones_in_w1)
  (wRetG [false, false] (wFr (wVar 1))))
def sp_ones_in : TSpec := fun args PQ _ => ∃ (v_number : D), args = [.v v_number] ∧ oP (m_ones_in v_number) fun r => PQ (.v r) []
theorem cl_ones_in (v_number : D) (PQ : R → List Cell → Prop) (PX : String → Pay → List Cell → Prop) : callK sp_ones_in [.v v_number] PQ PX ⟨⟩ = oP (m_ones_in v_number) fun r => PQ (.v r) [] := by
  unfold callK sp_ones_in
  refine propext ⟨fun h => ?_, fun h => ?_⟩
  · obtain ⟨_, e, h⟩ := h; cases e; exact h
  · exact ⟨_, rfl, h⟩
theorem e_ones_in (PQ : R → List Cell → Prop) (PX : String → Pay → List Cell → Prop) (v_number : D) : w_ones_in (fnX [.v v_number] PX) (start0 2 [.v v_number]) (fnD [.v v_number] PQ) = oP (m_ones_in v_number) fun r => PQ (.v r) [] := by walk_at "mx l_ones_in_w1 m_ones_in w_ones_in"
theorem ok_ones_in : ∀ args PQ PX, sp_ones_in args PQ PX → w_ones_in (fnX args PX) (start0 2 args) (fnD args PQ) := by
  rintro args PQ PX ⟨_, rfl, h⟩
  rw [e_ones_in]; exact h
theorem hl_ones_in : ∀ args PQ PX, sp_ones_in args PQ PX → args.length = 1 := by
  rintro args PQ PX ⟨_, rfl, h⟩; rfl
def m_one_for_all_c1 (v_numbers : D)  (d : D) : Option (D) :=
  (getX v_numbers (.int 0)).bind fun t2 =>
  (eqX d t2).bind fun t3 =>
  some (.bl t3)
def e_one_for_all_c1 : WE := wBin dEq (wVar 1) (wSubK dGet 0 (wC (.int 0)))
theorem l_one_for_all_c1 (v_numbers : D) (ds : List D) (Q : List D → TSt → Prop) : (lenOk ds ∧ lcK (gN 1) wYes e_one_for_all_c1 [1] ds [] [.v v_numbers, .un] Q ⟨⟩) = oP (mapX (m_one_for_all_c1 v_numbers) ds) fun l => Q l [.v v_numbers, .un] := lc_map [.v v_numbers, .un] (m_one_for_all_c1 v_numbers) (fun d Y => by walk_at "mx  m_one_for_all_c1 e_one_for_all_c1") ds
def m_one_for_all (v_numbers : D) : Option (D) :=
  (itX v_numbers).bind fun t1 =>
  (mapX (m_one_for_all_c1 v_numbers) t1).bind fun t4 =>
  (allX (.lst t4)).bind fun t5 =>
  if t5 = true then
    (getX v_numbers (.int 0)).bind fun t6 =>
    some t6
  else
    some .non
def w_one_for_all : WS :=
  wSeq (wIf (wTru (wBi nAll (wCons (wLc (wIG (wItS (wVar 0))) (gN 1) (wYes) e_one_for_all_c1 [1]) (wNil))))
  (wRetG [false, false] (wFr (wSubK dGet 0 (wC (.int 0)))))
  (wNext))
  (wRetG [false, false] (wFr (wC .non)))
def sp_one_for_all : TSpec := fun args PQ _ => ∃ (v_numbers : D), args = [.v v_numbers] ∧ oP (m_one_for_all v_numbers) fun r => PQ (.v r) []
theorem cl_one_for_all (v_numbers : D) (PQ : R → List Cell → Prop) (PX : String → Pay → List Cell → Prop) : callK sp_one_for_all [.v v_numbers] PQ PX ⟨⟩ = oP (m_one_for_all v_numbers) fun r => PQ (.v r) [] := by
  unfold callK sp_one_for_all
  refine propext ⟨fun h => ?_, fun h => ?_⟩
  · obtain ⟨_, e, h⟩ := h; cases e; exact h
  · exact ⟨_, rfl, h⟩
theorem e_one_for_all (PQ : R → List Cell → Prop) (PX : String → Pay → List Cell → Prop) (v_numbers : D) : w_one_for_all (fnX [.v v_numbers] PX) (start0 2 [.v v_numbers]) (fnD [.v v_numbers] PQ) = oP (m_one_for_all v_numbers) fun r => PQ (.v r) [] := by walk_at "mx l_one_for_all_c1 m_one_for_all w_one_for_all"
theorem ok_one_for_all : ∀ args PQ PX, sp_one_for_all args PQ PX → w_one_for_all (fnX args PX) (start0 2 args) (fnD args PQ) := by
  rintro args PQ PX ⟨_, rfl, h⟩
  rw [e_one_for_all]; exact h
theorem hl_one_for_all : ∀ args PQ PX, sp_one_for_all args PQ PX → args.length = 1 := by
  rintro args PQ PX ⟨_, rfl, h⟩; rfl
def m_mirrored_c2 (v_at : D)  (d : D) : Option (D) :=
  (getX d v_at).bind fun t5 =>
  some t5
def e_mirrored_c2 : WE := wSubK dGet 2 (wVar 1)
theorem l_mirrored_c2 (v_table : D) (v_at : D) (ds : List D) (Q : List D → TSt → Prop) : (lenOk ds ∧ lcK (gN 2) wYes e_mirrored_c2 [2] ds [] [.v v_table, .v v_at, .un] Q ⟨⟩) = oP (mapX (m_mirrored_c2 v_at) ds) fun l => Q l [.v v_table, .v v_at, .un] := lc_map [.v v_table, .v v_at, .un] (m_mirrored_c2 v_at) (fun d Y => by walk_at "mx  m_mirrored_c2 e_mirrored_c2") ds
def m_mirrored_c1 (v_table : D)  (d : D) : Option (D) :=
  (itX v_table).bind fun t4 =>
  (mapX (m_mirrored_c2 d) t4).bind fun t6 =>
  (tupleX (.lst t6)).bind fun t7 =>
  some t7
def e_mirrored_c1 : WE := wBi nTuple (wCons (wLc (wIG (wItS (wVar 0))) (gN 2) (wYes) e_mirrored_c2 [2]) (wNil))
theorem l_mirrored_c1 (v_table : D) (ds : List D) (Q : List D → TSt → Prop) : (lenOk ds ∧ lcK (gN 1) wYes e_mirrored_c1 [1] ds [] [.v v_table, .un, .un] Q ⟨⟩) = oP (mapX (m_mirrored_c1 v_table) ds) fun l => Q l [.v v_table, .un, .un] := lc_map [.v v_table, .un, .un] (m_mirrored_c1 v_table) (fun d Y => by walk_at "mx l_mirrored_c2 m_mirrored_c1 e_mirrored_c1") ds
def m_mirrored (v_table : D) : Option (D) :=
  (getX v_table (.int 0)).bind fun t1 =>
  (lenX t1).bind fun t2 =>
  (rg1X t2).bind fun t3 =>
  (mapX (m_mirrored_c1 v_table) t3).bind fun t8 =>
  (tupleX (.lst t8)).bind fun t9 =>
  some t9
def w_mirrored : WS :=
  wRetG [false, false, false] (wFr (wBi nTuple (wCons (wLc (wIG (wR1 (wCons (wBi nLen (wCons (wSubK dGet 0 (wC (.int 0))) (wNil))) (wNil)))) (gN 1) (wYes) e_mirrored_c1 [1]) (wNil))))
def sp_mirrored : TSpec := fun args PQ _ => ∃ (v_table : D), args = [.v v_table] ∧ oP (m_mirrored v_table) fun r => PQ (.v r) []
theorem cl_mirrored (v_table : D) (PQ : R → List Cell → Prop) (PX : String → Pay → List Cell → Prop) : callK sp_mirrored [.v v_table] PQ PX ⟨⟩ = oP (m_mirrored v_table) fun r => PQ (.v r) [] := by
  unfold callK sp_mirrored
  refine propext ⟨fun h => ?_, fun h => ?_⟩
  · obtain ⟨_, e, h⟩ := h; cases e; exact h
  · exact ⟨_, rfl, h⟩
theorem e_mirrored (PQ : R → List Cell → Prop) (PX : String → Pay → List Cell → Prop) (v_table : D) : w_mirrored (fnX [.v v_table] PX) (start0 3 [.v v_table]) (fnD [.v v_table] PQ) = oP (m_mirrored v_table) fun r => PQ (.v r) [] := by walk_at "mx l_mirrored_c2 l_mirrored_c1 m_mirrored w_mirrored"
theorem ok_mirrored : ∀ args PQ PX, sp_mirrored args PQ PX → w_mirrored (fnX args PX) (start0 3 args) (fnD args PQ) := by
  rintro args PQ PX ⟨_, rfl, h⟩
  rw [e_mirrored]; exact h
theorem hl_mirrored : ∀ args PQ PX, sp_mirrored args PQ PX → args.length = 1 := by
  rintro args PQ PX ⟨_, rfl, h⟩; rfl
def m_law_less_c1   (d : D) : Option (D) :=
  (tup3X d).bind fun t2 =>
  (subX t2.1 t2.2.1).bind fun t3 =>
  (modX t3 t2.2.2).bind fun t4 =>
  some t4
def e_law_less_c1 : WE := wBin dMod (wBin dSub (wVar 3) (wVar 4)) (wVar 5)
theorem l_law_less_c1 (v_rings_here : D) (v_one : D) (v_other : D) (ds : List D) (Q : List D → TSt → Prop) : (lenOk ds ∧ lcK (gT 3 (gsCons (gN 3) (gsCons (gN 4) (gsCons (gN 5) (gsNil))))) wYes e_law_less_c1 [3, 4, 5] ds [] [.v v_rings_here, .v v_one, .v v_other, .un, .un, .un] Q ⟨⟩) = oP (mapX (m_law_less_c1 ) ds) fun l => Q l [.v v_rings_here, .v v_one, .v v_other, .un, .un, .un] := lc_map [.v v_rings_here, .v v_one, .v v_other, .un, .un, .un] (m_law_less_c1 ) (fun d Y => by walk_at "mx  m_law_less_c1 e_law_less_c1") ds
def m_law_less (v_rings_here : D) (v_one : D) (v_other : D) : Option (D) :=
  (zip3X v_one v_other v_rings_here).bind fun t1 =>
  (mapX (m_law_less_c1 ) t1).bind fun t5 =>
  (tupleX (.lst t5)).bind fun t6 =>
  some t6
def w_law_less : WS :=
  wRetG [false, false, false, false, false, false] (wFr (wBi nTuple (wCons (wLc (wIG (wIzip3 (wCons (wVar 1) (wCons (wVar 2) (wCons (wVar 0) (wNil)))))) (gT 3 (gsCons (gN 3) (gsCons (gN 4) (gsCons (gN 5) (gsNil))))) (wYes) e_law_less_c1 [3, 4, 5]) (wNil))))
def sp_law_less : TSpec := fun args PQ _ => ∃ (v_rings_here : D) (v_one : D) (v_other : D), args = [.v v_rings_here, .v v_one, .v v_other] ∧ oP (m_law_less v_rings_here v_one v_other) fun r => PQ (.v r) []
theorem cl_law_less (v_rings_here : D) (v_one : D) (v_other : D) (PQ : R → List Cell → Prop) (PX : String → Pay → List Cell → Prop) : callK sp_law_less [.v v_rings_here, .v v_one, .v v_other] PQ PX ⟨⟩ = oP (m_law_less v_rings_here v_one v_other) fun r => PQ (.v r) [] := by
  unfold callK sp_law_less
  refine propext ⟨fun h => ?_, fun h => ?_⟩
  · obtain ⟨_, _, _, e, h⟩ := h; cases e; exact h
  · exact ⟨_, _, _, rfl, h⟩
theorem e_law_less (PQ : R → List Cell → Prop) (PX : String → Pay → List Cell → Prop) (v_rings_here : D) (v_one : D) (v_other : D) : w_law_less (fnX [.v v_rings_here, .v v_one, .v v_other] PX) (start0 6 [.v v_rings_here, .v v_one, .v v_other]) (fnD [.v v_rings_here, .v v_one, .v v_other] PQ) = oP (m_law_less v_rings_here v_one v_other) fun r => PQ (.v r) [] := by walk_at "mx l_law_less_c1 m_law_less w_law_less"
theorem ok_law_less : ∀ args PQ PX, sp_law_less args PQ PX → w_law_less (fnX args PX) (start0 6 args) (fnD args PQ) := by
  rintro args PQ PX ⟨_, _, _, rfl, h⟩
  rw [e_law_less]; exact h
theorem hl_law_less : ∀ args PQ PX, sp_law_less args PQ PX → args.length = 3 := by
  rintro args PQ PX ⟨_, _, _, rfl, h⟩; rfl
def m_law_shared_c2   (d : D) : Option (Option D) :=
  (eqX d (.int 1)).bind fun t3 =>
  if t3 = true then some (some d) else some none
def e_law_shared_c2 : WE := wVar 3
def q_law_shared_c2 : WT := wTB (wBin dEq (wVar 3) (wC (.int 1)))
theorem l_law_shared_c2 (v_rows : D) (v_row : D) (ds : List D) (Q : List D → TSt → Prop) : (lenOk ds ∧ lcK (gN 3) q_law_shared_c2 e_law_shared_c2 [3] ds [] [.v v_rows, .un, .v v_row, .un, .un, .un, .un, .un, .un] Q ⟨⟩) = oP (fmapX (m_law_shared_c2 ) ds) fun l => Q l [.v v_rows, .un, .v v_row, .un, .un, .un, .un, .un, .un] := lc_fmap [.v v_rows, .un, .v v_row, .un, .un, .un, .un, .un, .un] (m_law_shared_c2 ) (fun d Y N => by walk_at "mx  m_law_shared_c2 e_law_shared_c2 q_law_shared_c2") ds
def m_law_shared_c1   (d : D) : Option (D) :=
  (itX d).bind fun t2 =>
  (fmapX (m_law_shared_c2 ) t2).bind fun t4 =>
  (lenX (.lst t4)).bind fun t5 =>
  some t5
def e_law_shared_c1 : WE := wBi nLen (wCons (wLc (wIG (wItS (wVar 2))) (gN 3) (q_law_shared_c2) e_law_shared_c2 [3]) (wNil))
theorem l_law_shared_c1 (v_rows : D) (ds : List D) (Q : List D → TSt → Prop) : (lenOk ds ∧ lcK (gN 2) wYes e_law_shared_c1 [2] ds [] [.v v_rows, .un, .un, .un, .un, .un, .un, .un, .un] Q ⟨⟩) = oP (mapX (m_law_shared_c1 ) ds) fun l => Q l [.v v_rows, .un, .un, .un, .un, .un, .un, .un, .un] := lc_map [.v v_rows, .un, .un, .un, .un, .un, .un, .un, .un] (m_law_shared_c1 ) (fun d Y => by walk_at "mx l_law_shared_c2 m_law_shared_c1 e_law_shared_c1") ds
def m_law_shared_c5 (v_one : D) (v_other : D)  (d : D) : Option (Option D) :=
  (getX v_one d).bind fun t14 =>
  (eqX t14 (.int 1)).bind fun t15 =>
  (if t15 = true then (getX v_other d).bind fun t16 =>
    (eqX t16 (.int 1)).bind fun t17 =>
    some t17 else some false).bind fun t18 =>
  if t18 = true then some (some d) else some none
def e_law_shared_c5 : WE := wVar 8
def q_law_shared_c5 : WT := wAnd (wTB (wBin dEq (wSubK dGet 6 (wVar 8)) (wC (.int 1)))) (wTB (wBin dEq (wSubK dGet 7 (wVar 8)) (wC (.int 1))))
theorem l_law_shared_c5 (v_rows : D) (v_ones : List D) (v_both_ones : List D) (v_one : D) (v_other : D) (ds : List D) (Q : List D → TSt → Prop) : (lenOk ds ∧ lcK (gN 8) q_law_shared_c5 e_law_shared_c5 [8] ds [] [.v v_rows, .own (.lst v_ones), .un, .un, .own (.lst v_both_ones), .un, .v v_one, .v v_other, .un] Q ⟨⟩) = oP (fmapX (m_law_shared_c5 v_one v_other) ds) fun l => Q l [.v v_rows, .own (.lst v_ones), .un, .un, .own (.lst v_both_ones), .un, .v v_one, .v v_other, .un] := lc_fmap [.v v_rows, .own (.lst v_ones), .un, .un, .own (.lst v_both_ones), .un, .v v_one, .v v_other, .un] (m_law_shared_c5 v_one v_other) (fun d Y N => by walk_at "mx l_law_shared_c2 l_law_shared_c1 m_law_shared_c5 e_law_shared_c5 q_law_shared_c5") ds
def m_law_shared_f4 (v_rows : D) (v_ones : List D) (v_one : D) (s : List D) (d : D) : Option (List D) :=
  (lenX v_one).bind fun t12 =>
  (rg1X t12).bind fun t13 =>
  (fmapX (m_law_shared_c5 v_one d) t13).bind fun t19 =>
  (lenX (.lst t19)).bind fun t20 =>
  (appX s t20).bind fun t21 =>
  some t21
def b_law_shared_f4 : WS := wSeq (wDrop (wApp 4 (wCons (wBi nLen (wCons (wLc (wIG (wR1 (wCons (wBiK nLen 6) (wNil)))) (gN 8) (q_law_shared_c5) e_law_shared_c5 [8]) (wNil))) (wNil))))
  (wGhN [.kp, .kp, .kp, .kp, .kp, .kp, .kp, .kl, .kp])
theorem l_law_shared_f4 (W : TX) (nx : TSt → Prop) (rt : R → TSt → Prop) (bk ct : TSt → Prop) (v_rows : D) (v_ones : List D) (v_one : D) (v_both_ones : List D) (ds : List D) : forK (gN 7) b_law_shared_f4 W ds [.v v_rows, .own (.lst v_ones), .un, .un, .own (.lst v_both_ones), .un, .v v_one, .un, .un] ⟨nx, rt, bk, ct⟩ ⟨⟩ = oP (foldX (m_law_shared_f4 v_rows v_ones v_one) ds v_both_ones) fun s => nx [.v v_rows, .own (.lst v_ones), .un, .un, .own (.lst s), .un, .v v_one, .un, .un] := forK_fold (fun s : List D => [.v v_rows, .own (.lst v_ones), .un, .un, .own (.lst s), .un, .v v_one, .un, .un]) (m_law_shared_f4 v_rows v_ones v_one) (fun s d nxt => by walk_at "mx l_law_shared_c2 l_law_shared_c1 l_law_shared_c5 m_law_shared_f4 b_law_shared_f4") ds v_both_ones
def m_law_shared_f3 (v_rows : D) (v_ones : List D) (s : List D) (d : D) : Option (List D) :=
  (tup2X d).bind fun t8 =>
  (asI t8.1).bind fun t9 =>
  (slX v_rows none (some t9)).bind fun t10 =>
  (itX t10).bind fun t11 =>
  (foldX (m_law_shared_f4 v_rows v_ones t8.2) t11 s).bind fun t22 =>
  some t22
def b_law_shared_f3 : WS := wSeq (wFor (wIgh [.kp, .kp, .kp, .kp, .kp, .kl, .kp, .kp, .kp] (wItS (wSl (wVar 0) (oNone) (oSome (wFr (wVar 5)))))) (gN 7) b_law_shared_f4)
  (wGhN [.kp, .kp, .kp, .kp, .kp, .kp, .kl, .kp, .kp])
theorem l_law_shared_f3 (W : TX) (nx : TSt → Prop) (rt : R → TSt → Prop) (bk ct : TSt → Prop) (v_rows : D) (v_ones : List D) (v_both_ones : List D) (ds : List D) : forK (gT 2 (gsCons (gN 5) (gsCons (gN 6) (gsNil)))) b_law_shared_f3 W ds [.v v_rows, .own (.lst v_ones), .un, .un, .own (.lst v_both_ones), .un, .un, .un, .un] ⟨nx, rt, bk, ct⟩ ⟨⟩ = oP (foldX (m_law_shared_f3 v_rows v_ones) ds v_both_ones) fun s => nx [.v v_rows, .own (.lst v_ones), .un, .un, .own (.lst s), .un, .un, .un, .un] := forK_fold (fun s : List D => [.v v_rows, .own (.lst v_ones), .un, .un, .own (.lst s), .un, .un, .un, .un]) (m_law_shared_f3 v_rows v_ones) (fun s d nxt => by walk_at "mx l_law_shared_c2 l_law_shared_c1 l_law_shared_c5 l_law_shared_f4 m_law_shared_f3 b_law_shared_f3") ds v_both_ones
def m_law_shared (v_rows : D) : Option (D) :=
  (itX v_rows).bind fun t1 =>
  (mapX (m_law_shared_c1 ) t1).bind fun t6 =>
  (enumerateX v_rows).bind fun t7 =>
  (foldX (m_law_shared_f3 v_rows t6) t7 []).bind fun t23 =>
  (min1X (.lst t6)).bind fun t24 =>
  (max1X (.lst t6)).bind fun t25 =>
  (neX t24 t25).bind fun t26 =>
  (if t26 = true then some true else (neX (.lst t23) (.lst [])).bind fun t27 =>
    (if t27 = true then (min1X (.lst t23)).bind fun t28 =>
      (max1X (.lst t23)).bind fun t29 =>
      (neX t28 t29).bind fun t30 =>
      some t30 else some false).bind fun t31 =>
    some t31).bind fun t32 =>
  if t32 = true then
    some .non
  else
    (getX (.lst t6) (.int 0)).bind fun t33 =>
    (eqX (.lst t23) (.lst [])).bind fun t34 =>
    (if t34 = true then some .non else (getX (.lst t23) (.int 0)).bind fun t35 =>
      some t35).bind fun t36 =>
    some (.tup [t33, t36])
def w_law_shared : WS :=
  wSeq (wSet 1 (wLc (wIG (wItS (wVar 0))) (gN 2) (wYes) e_law_shared_c1 [2]))
  (wSeq (wSet 4 (wLst (wNil)))
  (wSeq (wFor (wIenumerate (wCons (wVar 0) (wNil))) (gT 2 (gsCons (gN 5) (gsCons (gN 6) (gsNil)))) b_law_shared_f3)
  (wSeq (wIf (wOr (wTB (wBin dNe (wBiK nMin1 1) (wBiK nMax1 1))) (wAnd (wTB (wBinL dNe 4 (wLst (wNil)))) (wTB (wBin dNe (wBiK nMin1 4) (wBiK nMax1 4)))))
  (wRetG [false, false, false, false, false, false, false, false, false] (wFr (wC .non)))
  (wNext))
  (wRetG [false, false, false, false, false, false, false, false, false] (wFr (wTup (wCons (wSubK dGet 1 (wC (.int 0))) (wCons (wIte (wTB (wBinL dEq 4 (wLst (wNil)))) (wFr (wC .non)) (wFr (wSubK dGet 4 (wC (.int 0))))) (wNil)))))))))
def sp_law_shared : TSpec := fun args PQ _ => ∃ (v_rows : D), args = [.v v_rows] ∧ oP (m_law_shared v_rows) fun r => PQ (.v r) []
theorem cl_law_shared (v_rows : D) (PQ : R → List Cell → Prop) (PX : String → Pay → List Cell → Prop) : callK sp_law_shared [.v v_rows] PQ PX ⟨⟩ = oP (m_law_shared v_rows) fun r => PQ (.v r) [] := by
  unfold callK sp_law_shared
  refine propext ⟨fun h => ?_, fun h => ?_⟩
  · obtain ⟨_, e, h⟩ := h; cases e; exact h
  · exact ⟨_, rfl, h⟩
theorem e_law_shared (PQ : R → List Cell → Prop) (PX : String → Pay → List Cell → Prop) (v_rows : D) : w_law_shared (fnX [.v v_rows] PX) (start0 9 [.v v_rows]) (fnD [.v v_rows] PQ) = oP (m_law_shared v_rows) fun r => PQ (.v r) [] := by walk_at "mx l_law_shared_c2 l_law_shared_c1 l_law_shared_c5 l_law_shared_f4 l_law_shared_f3 e_nMin1 e_nMax1 e_wBinL m_law_shared w_law_shared"
theorem ok_law_shared : ∀ args PQ PX, sp_law_shared args PQ PX → w_law_shared (fnX args PX) (start0 9 args) (fnD args PQ) := by
  rintro args PQ PX ⟨_, rfl, h⟩
  rw [e_law_shared]; exact h
theorem hl_law_shared : ∀ args PQ PX, sp_law_shared args PQ PX → args.length = 1 := by
  rintro args PQ PX ⟨_, rfl, h⟩; rfl
def m_law_same (v_found : D) (v_due : D) : Option (D) :=
  (reprX v_found).bind fun t1 =>
  (reprX v_due).bind fun t2 =>
  (eqX t1 t2).bind fun t3 =>
  some (.bl t3)
def w_law_same : WS :=
  wRetG [false, false] (wFr (wBin dEq (wBi nRepr (wCons (wVar 0) (wNil))) (wBi nRepr (wCons (wVar 1) (wNil)))))
def sp_law_same : TSpec := fun args PQ _ => ∃ (v_found : D) (v_due : D), args = [.v v_found, .v v_due] ∧ oP (m_law_same v_found v_due) fun r => PQ (.v r) []
theorem cl_law_same (v_found : D) (v_due : D) (PQ : R → List Cell → Prop) (PX : String → Pay → List Cell → Prop) : callK sp_law_same [.v v_found, .v v_due] PQ PX ⟨⟩ = oP (m_law_same v_found v_due) fun r => PQ (.v r) [] := by
  unfold callK sp_law_same
  refine propext ⟨fun h => ?_, fun h => ?_⟩
  · obtain ⟨_, _, e, h⟩ := h; cases e; exact h
  · exact ⟨_, _, rfl, h⟩
theorem e_law_same (PQ : R → List Cell → Prop) (PX : String → Pay → List Cell → Prop) (v_found : D) (v_due : D) : w_law_same (fnX [.v v_found, .v v_due] PX) (start0 2 [.v v_found, .v v_due]) (fnD [.v v_found, .v v_due] PQ) = oP (m_law_same v_found v_due) fun r => PQ (.v r) [] := by walk_at "mx  m_law_same w_law_same"
theorem ok_law_same : ∀ args PQ PX, sp_law_same args PQ PX → w_law_same (fnX args PX) (start0 2 args) (fnD args PQ) := by
  rintro args PQ PX ⟨_, _, rfl, h⟩
  rw [e_law_same]; exact h
theorem hl_law_same : ∀ args PQ PX, sp_law_same args PQ PX → args.length = 2 := by
  rintro args PQ PX ⟨_, _, rfl, h⟩; rfl
def m_moved_set_c1 (v_rings : D) (v_by : D)  (d : D) : Option (D) :=
  (m_plus v_rings d v_by).bind fun t2 =>
  some t2
def e_moved_set_c1 : WE := wCall sp_plus (aV (wVar 0) (aV (wVar 3) (aV (wVar 2) (aNil))))
theorem l_moved_set_c1 (v_rings : D) (v_some : D) (v_by : D) (ds : List D) (Q : List D → TSt → Prop) : (lenOk ds ∧ lcK (gN 3) wYes e_moved_set_c1 [3] ds [] [.v v_rings, .v v_some, .v v_by, .un] Q ⟨⟩) = oP (mapX (m_moved_set_c1 v_rings v_by) ds) fun l => Q l [.v v_rings, .v v_some, .v v_by, .un] := lc_map [.v v_rings, .v v_some, .v v_by, .un] (m_moved_set_c1 v_rings v_by) (fun d Y => by walk_at "mx cl_plus m_moved_set_c1 e_moved_set_c1") ds
def m_moved_set (v_rings : D) (v_some : D) (v_by : D) : Option (D) :=
  (itX v_some).bind fun t1 =>
  (mapX (m_moved_set_c1 v_rings v_by) t1).bind fun t3 =>
  (sortedX (.lst t3)).bind fun t4 =>
  (tupleX (.lst t4)).bind fun t5 =>
  some t5
def w_moved_set : WS :=
  wRetG [false, false, false, false] (wFr (wBi nTuple (wCons (wBi nSorted (wCons (wLc (wIG (wItS (wVar 1))) (gN 3) (wYes) e_moved_set_c1 [3]) (wNil))) (wNil))))
def sp_moved_set : TSpec := fun args PQ _ => ∃ (v_rings : D) (v_some : D) (v_by : D), args = [.v v_rings, .v v_some, .v v_by] ∧ oP (m_moved_set v_rings v_some v_by) fun r => PQ (.v r) []
theorem cl_moved_set (v_rings : D) (v_some : D) (v_by : D) (PQ : R → List Cell → Prop) (PX : String → Pay → List Cell → Prop) : callK sp_moved_set [.v v_rings, .v v_some, .v v_by] PQ PX ⟨⟩ = oP (m_moved_set v_rings v_some v_by) fun r => PQ (.v r) [] := by
  unfold callK sp_moved_set
  refine propext ⟨fun h => ?_, fun h => ?_⟩
  · obtain ⟨_, _, _, e, h⟩ := h; cases e; exact h
  · exact ⟨_, _, _, rfl, h⟩
theorem e_moved_set (PQ : R → List Cell → Prop) (PX : String → Pay → List Cell → Prop) (v_rings : D) (v_some : D) (v_by : D) : w_moved_set (fnX [.v v_rings, .v v_some, .v v_by] PX) (start0 4 [.v v_rings, .v v_some, .v v_by]) (fnD [.v v_rings, .v v_some, .v v_by] PQ) = oP (m_moved_set v_rings v_some v_by) fun r => PQ (.v r) [] := by walk_at "mx l_moved_set_c1 cl_plus m_moved_set w_moved_set"
theorem ok_moved_set : ∀ args PQ PX, sp_moved_set args PQ PX → w_moved_set (fnX args PX) (start0 4 args) (fnD args PQ) := by
  rintro args PQ PX ⟨_, _, _, rfl, h⟩
  rw [e_moved_set]; exact h
theorem hl_moved_set : ∀ args PQ PX, sp_moved_set args PQ PX → args.length = 3 := by
  rintro args PQ PX ⟨_, _, _, rfl, h⟩; rfl
def m_by_rows_c1   (d : D) : Option (D) :=
  (m_packed d).bind fun t2 =>
  some t2
def e_by_rows_c1 : WE := wCall sp_packed (aV (wVar 2) (aNil))
theorem l_by_rows_c1 (v_table : D) (ds : List D) (Q : List D → TSt → Prop) : (lenOk ds ∧ lcK (gN 2) wYes e_by_rows_c1 [2] ds [] [.v v_table, .un, .un, .un, .un, .un, .un, .un] Q ⟨⟩) = oP (mapX (m_by_rows_c1 ) ds) fun l => Q l [.v v_table, .un, .un, .un, .un, .un, .un, .un] := lc_map [.v v_table, .un, .un, .un, .un, .un, .un, .un] (m_by_rows_c1 ) (fun d Y => by walk_at "mx cl_packed m_by_rows_c1 e_by_rows_c1") ds
def m_by_rows_c2   (d : D) : Option (D) :=
  (m_ones_in d).bind fun t4 =>
  some t4
def e_by_rows_c2 : WE := wCall sp_ones_in (aV (wVar 2) (aNil))
theorem l_by_rows_c2 (v_table : D) (v_rows : D) (ds : List D) (Q : List D → TSt → Prop) : (lenOk ds ∧ lcK (gN 2) wYes e_by_rows_c2 [2] ds [] [.v v_table, .v v_rows, .un, .un, .un, .un, .un, .un] Q ⟨⟩) = oP (mapX (m_by_rows_c2 ) ds) fun l => Q l [.v v_table, .v v_rows, .un, .un, .un, .un, .un, .un] := lc_map [.v v_table, .v v_rows, .un, .un, .un, .un, .un, .un] (m_by_rows_c2 ) (fun d Y => by walk_at "mx l_by_rows_c1 cl_packed cl_ones_in m_by_rows_c2 e_by_rows_c2") ds
def m_by_rows_c4 (v_row : D)  (d : D) : Option (D) :=
  (andX v_row d).bind fun t14 =>
  (m_ones_in t14).bind fun t15 =>
  some t15
def e_by_rows_c4 : WE := wCall sp_ones_in (aV (wBin dAnd (wVar 2) (wVar 6)) (aNil))
theorem l_by_rows_c4 (v_rows : D) (v_row : D) (v_ones : D) (v_shared : List D) (v_number : D) (ds : List D) (Q : List D → TSt → Prop) : (lenOk ds ∧ lcK (gN 6) wYes e_by_rows_c4 [6] ds [] [.un, .v v_rows, .v v_row, .v v_ones, .own (.lst v_shared), .v v_number, .un, .un] Q ⟨⟩) = oP (mapX (m_by_rows_c4 v_row) ds) fun l => Q l [.un, .v v_rows, .v v_row, .v v_ones, .own (.lst v_shared), .v v_number, .un, .un] := lc_map [.un, .v v_rows, .v v_row, .v v_ones, .own (.lst v_shared), .v v_number, .un, .un] (m_by_rows_c4 v_row) (fun d Y => by walk_at "mx l_by_rows_c1 l_by_rows_c2 cl_packed cl_ones_in cl_one_for_all m_by_rows_c4 e_by_rows_c4") ds
def m_by_rows_f3 (v_rows : D) (v_ones : D) (s : List D) (d : D) : Option (List D) :=
  (tup2X d).bind fun t10 =>
  (asI t10.1).bind fun t11 =>
  (slX v_rows none (some t11)).bind fun t12 =>
  (itX t12).bind fun t13 =>
  (mapX (m_by_rows_c4 t10.2) t13).bind fun t16 =>
  (extX s t16).bind fun t17 =>
  some t17
def b_by_rows_f3 : WS := wSeq (wDrop (wExt 4 (wCons (wLc (wIG (wItS (wSl (wVar 1) (oNone) (oSome (wFr (wVar 5)))))) (gN 6) (wYes) e_by_rows_c4 [6]) (wNil))))
  (wGhN [.kp, .kp, .kl, .kp, .kp, .kl, .kp, .kp])
theorem l_by_rows_f3 (W : TX) (nx : TSt → Prop) (rt : R → TSt → Prop) (bk ct : TSt → Prop) (v_rows : D) (v_ones : D) (v_shared : List D) (ds : List D) : forK (gT 2 (gsCons (gN 5) (gsCons (gN 2) (gsNil)))) b_by_rows_f3 W ds [.un, .v v_rows, .un, .v v_ones, .own (.lst v_shared), .un, .un, .un] ⟨nx, rt, bk, ct⟩ ⟨⟩ = oP (foldX (m_by_rows_f3 v_rows v_ones) ds v_shared) fun s => nx [.un, .v v_rows, .un, .v v_ones, .own (.lst s), .un, .un, .un] := forK_fold (fun s : List D => [.un, .v v_rows, .un, .v v_ones, .own (.lst s), .un, .un, .un]) (m_by_rows_f3 v_rows v_ones) (fun s d nxt => by walk_at "mx l_by_rows_c1 l_by_rows_c2 l_by_rows_c4 cl_packed cl_ones_in cl_one_for_all m_by_rows_f3 b_by_rows_f3") ds v_shared
def m_by_rows (v_table : D) : Option (D) :=
  (itX v_table).bind fun t1 =>
  (mapX (m_by_rows_c1 ) t1).bind fun t3 =>
  (mapX (m_by_rows_c2 ) t3).bind fun t5 =>
  (m_one_for_all (.lst t5)).bind fun t6 =>
  if t6.isNon = true then
    some .non
  else
    (lenX (.lst t3)).bind fun t7 =>
    (eqX t7 (.int 1)).bind fun t8 =>
    if t8 = true then
      some (.tup [t6, .non])
    else
      (enumerateX (.lst t3)).bind fun t9 =>
      (foldX (m_by_rows_f3 (.lst t3) t6) t9 []).bind fun t18 =>
      (m_one_for_all (.lst t18)).bind fun t19 =>
      if t19.isNon = true then
        some .non
      else
        some (.tup [t6, t19])
def w_by_rows : WS :=
  wSeq (wSet 1 (wLc (wIG (wItS (wVar 0))) (gN 2) (wYes) e_by_rows_c1 [2]))
  (wSeq (wSet 3 (wFr (wCall sp_one_for_all (aV (wLc (wIG (wItS (wVar 1))) (gN 2) (wYes) e_by_rows_c2 [2]) (aNil)))))
  (wSeq (wIf (wTB (wBin dIs (wVar 3) (wC .non)))
  (wRetG [false, false, false, false, false, false, false, false] (wFr (wC .non)))
  (wNext))
  (wSeq (wIf (wTB (wBin dEq (wBiK nLen 1) (wC (.int 1))))
  (wRetG [false, false, false, false, false, false, false, false] (wFr (wTup (wCons (wVar 3) (wCons (wC .non) (wNil))))))
  (wNext))
  (wSeq (wSet 4 (wLst (wNil)))
  (wSeq (wFor (wIgh [.kl, .kp, .kp, .kp, .kp, .kp, .kp, .kp] (wIenumerate (wCons (wVar 1) (wNil)))) (gT 2 (gsCons (gN 5) (gsCons (gN 2) (gsNil)))) b_by_rows_f3)
  (wSeq (wSet 7 (wFr (wCall sp_one_for_all (aV (wVar 4) (aNil)))))
  (wSeq (wIf (wTB (wBin dIs (wVar 7) (wC .non)))
  (wRetG [false, false, false, false, false, false, false, false] (wFr (wC .non)))
  (wNext))
  (wRetG [false, false, false, false, false, false, false, false] (wFr (wTup (wCons (wVar 3) (wCons (wVar 7) (wNil)))))))))))))
def sp_by_rows : TSpec := fun args PQ _ => ∃ (v_table : D), args = [.v v_table] ∧ oP (m_by_rows v_table) fun r => PQ (.v r) []
theorem cl_by_rows (v_table : D) (PQ : R → List Cell → Prop) (PX : String → Pay → List Cell → Prop) : callK sp_by_rows [.v v_table] PQ PX ⟨⟩ = oP (m_by_rows v_table) fun r => PQ (.v r) [] := by
  unfold callK sp_by_rows
  refine propext ⟨fun h => ?_, fun h => ?_⟩
  · obtain ⟨_, e, h⟩ := h; cases e; exact h
  · exact ⟨_, rfl, h⟩
theorem e_by_rows (PQ : R → List Cell → Prop) (PX : String → Pay → List Cell → Prop) (v_table : D) : w_by_rows (fnX [.v v_table] PX) (start0 8 [.v v_table]) (fnD [.v v_table] PQ) = oP (m_by_rows v_table) fun r => PQ (.v r) [] := by walk_at "mx l_by_rows_c1 l_by_rows_c2 l_by_rows_c4 l_by_rows_f3 cl_packed cl_ones_in cl_one_for_all m_by_rows w_by_rows"
theorem ok_by_rows : ∀ args PQ PX, sp_by_rows args PQ PX → w_by_rows (fnX args PX) (start0 8 args) (fnD args PQ) := by
  rintro args PQ PX ⟨_, rfl, h⟩
  rw [e_by_rows]; exact h
theorem hl_by_rows : ∀ args PQ PX, sp_by_rows args PQ PX → args.length = 1 := by
  rintro args PQ PX ⟨_, rfl, h⟩; rfl
def m_law_table_c1  (s : List D) (d : D) : Option ((D) × (List D)) :=
  (m_law_take s (.int 2)).bind fun t10 =>
  some (t10.1, t10.2)
def e_law_table_c1 : WE := wCall sp_law_take (aR 0 (aV (wC (.int 2)) (aNil)))
theorem l_law_table_c1 (v_pot_here : List D) (v_way : D) (v_rows : D) (v_columns : D) (v_size_here : D) (ds : List D) (Q : List D → TSt → Prop) : (lenOk ds ∧ lcK (gN 6) wYes e_law_table_c1 [6] ds [] [.bor (.lst v_pot_here), .v v_way, .v v_rows, .v v_columns, .v v_size_here, .un, .un, .un, .un, .un] Q ⟨⟩) = oP (mapSX (m_law_table_c1 ) ds v_pot_here) fun p => Q p.1 [.bor (.lst p.2), .v v_way, .v v_rows, .v v_columns, .v v_size_here, .un, .un, .un, .un, .un] := lc_mapS (fun s : List D => [.bor (.lst s), .v v_way, .v v_rows, .v v_columns, .v v_size_here, .un, .un, .un, .un, .un]) (m_law_table_c1 ) (fun s d Y => by walk_at "mx cl_law_take m_law_table_c1 e_law_table_c1") ds v_pot_here
def m_law_table_c3 (v_size_here : D) (v_bits : List D) (v_row : D)  (d : D) : Option (D) :=
  (subX d v_row).bind fun t14 =>
  (modX t14 v_size_here).bind fun t15 =>
  (getX (.lst v_bits) t15).bind fun t16 =>
  some t16
def e_law_table_c3 : WE := wSubK dGet 5 (wBin dMod (wBin dSub (wVar 6) (wVar 7)) (wVar 4))
theorem l_law_table_c3 (v_pot_here : List D) (v_way : D) (v_rows : D) (v_columns : D) (v_size_here : D) (v_bits : List D) (v_row : D) (ds : List D) (Q : List D → TSt → Prop) : (lenOk ds ∧ lcK (gN 6) wYes e_law_table_c3 [6] ds [] [.bor (.lst v_pot_here), .v v_way, .v v_rows, .v v_columns, .v v_size_here, .own (.lst v_bits), .un, .v v_row, .un, .un] Q ⟨⟩) = oP (mapX (m_law_table_c3 v_size_here v_bits v_row) ds) fun l => Q l [.bor (.lst v_pot_here), .v v_way, .v v_rows, .v v_columns, .v v_size_here, .own (.lst v_bits), .un, .v v_row, .un, .un] := lc_map [.bor (.lst v_pot_here), .v v_way, .v v_rows, .v v_columns, .v v_size_here, .own (.lst v_bits), .un, .v v_row, .un, .un] (m_law_table_c3 v_size_here v_bits v_row) (fun d Y => by walk_at "mx l_law_table_c1 cl_law_take m_law_table_c3 e_law_table_c3") ds
def m_law_table_c2 (v_size_here : D) (v_bits : List D)  (d : D) : Option (D) :=
  (rg1X v_size_here).bind fun t13 =>
  (mapX (m_law_table_c3 v_size_here v_bits d) t13).bind fun t17 =>
  (tupleX (.lst t17)).bind fun t18 =>
  some t18
def e_law_table_c2 : WE := wBi nTuple (wCons (wLc (wIG (wR1 (wCons (wVar 4) (wNil)))) (gN 6) (wYes) e_law_table_c3 [6]) (wNil))
theorem l_law_table_c2 (v_pot_here : List D) (v_way : D) (v_rows : D) (v_columns : D) (v_size_here : D) (v_bits : List D) (ds : List D) (Q : List D → TSt → Prop) : (lenOk ds ∧ lcK (gN 7) wYes e_law_table_c2 [7] ds [] [.bor (.lst v_pot_here), .v v_way, .v v_rows, .v v_columns, .v v_size_here, .own (.lst v_bits), .un, .un, .un, .un] Q ⟨⟩) = oP (mapX (m_law_table_c2 v_size_here v_bits) ds) fun l => Q l [.bor (.lst v_pot_here), .v v_way, .v v_rows, .v v_columns, .v v_size_here, .own (.lst v_bits), .un, .un, .un, .un] := lc_map [.bor (.lst v_pot_here), .v v_way, .v v_rows, .v v_columns, .v v_size_here, .own (.lst v_bits), .un, .un, .un, .un] (m_law_table_c2 v_size_here v_bits) (fun d Y => by walk_at "mx l_law_table_c1 l_law_table_c3 cl_law_take m_law_table_c2 e_law_table_c2") ds
def m_law_table_c4  (s : List D) (d : D) : Option ((D) × (List D)) :=
  (m_law_take s (.int 2)).bind fun t23 =>
  some (t23.1, t23.2)
def e_law_table_c4 : WE := wCall sp_law_take (aR 0 (aV (wC (.int 2)) (aNil)))
theorem l_law_table_c4 (v_pot_here : List D) (v_way : D) (v_rows : D) (v_columns : D) (ds : List D) (Q : List D → TSt → Prop) : (lenOk ds ∧ lcK (gN 6) wYes e_law_table_c4 [6] ds [] [.bor (.lst v_pot_here), .v v_way, .v v_rows, .v v_columns, .un, .un, .un, .un, .un, .un] Q ⟨⟩) = oP (mapSX (m_law_table_c4 ) ds v_pot_here) fun p => Q p.1 [.bor (.lst p.2), .v v_way, .v v_rows, .v v_columns, .un, .un, .un, .un, .un, .un] := lc_mapS (fun s : List D => [.bor (.lst s), .v v_way, .v v_rows, .v v_columns, .un, .un, .un, .un, .un, .un]) (m_law_table_c4 ) (fun s d Y => by walk_at "mx l_law_table_c1 l_law_table_c3 l_law_table_c2 cl_law_take m_law_table_c4 e_law_table_c4") ds v_pot_here
def m_law_table_c6 (v_size_here : D) (v_row : D) (v_chosen : D)  (d : D) : Option (D) :=
  (subX d v_row).bind fun t33 =>
  (modX t33 v_size_here).bind fun t34 =>
  (inX t34 v_chosen).bind fun t35 =>
  (intX (.bl t35)).bind fun t36 =>
  some t36
def e_law_table_c6 : WE := wBi nInt (wCons (wBinK dInA (wBin dMod (wBin dSub (wVar 6) (wVar 7)) (wVar 4)) 9) (wNil))
theorem l_law_table_c6 (v_pot_here : List D) (v_way : D) (v_rows : D) (v_columns : D) (v_size_here : D) (v_row : D) (v_some : D) (v_chosen : D) (ds : List D) (Q : List D → TSt → Prop) : (lenOk ds ∧ lcK (gN 6) wYes e_law_table_c6 [6] ds [] [.bor (.lst v_pot_here), .v v_way, .v v_rows, .v v_columns, .v v_size_here, .un, .un, .v v_row, .v v_some, .v v_chosen] Q ⟨⟩) = oP (mapX (m_law_table_c6 v_size_here v_row v_chosen) ds) fun l => Q l [.bor (.lst v_pot_here), .v v_way, .v v_rows, .v v_columns, .v v_size_here, .un, .un, .v v_row, .v v_some, .v v_chosen] := lc_map [.bor (.lst v_pot_here), .v v_way, .v v_rows, .v v_columns, .v v_size_here, .un, .un, .v v_row, .v v_some, .v v_chosen] (m_law_table_c6 v_size_here v_row v_chosen) (fun d Y => by walk_at "mx l_law_table_c1 l_law_table_c3 l_law_table_c2 l_law_table_c4 cl_law_take m_law_table_c6 e_law_table_c6") ds
def m_law_table_c5 (v_size_here : D) (v_chosen : D)  (d : D) : Option (D) :=
  (rg1X v_size_here).bind fun t32 =>
  (mapX (m_law_table_c6 v_size_here d v_chosen) t32).bind fun t37 =>
  (tupleX (.lst t37)).bind fun t38 =>
  some t38
def e_law_table_c5 : WE := wBi nTuple (wCons (wLc (wIG (wR1 (wCons (wVar 4) (wNil)))) (gN 6) (wYes) e_law_table_c6 [6]) (wNil))
theorem l_law_table_c5 (v_pot_here : List D) (v_way : D) (v_rows : D) (v_columns : D) (v_size_here : D) (v_some : D) (v_chosen : D) (ds : List D) (Q : List D → TSt → Prop) : (lenOk ds ∧ lcK (gN 7) wYes e_law_table_c5 [7] ds [] [.bor (.lst v_pot_here), .v v_way, .v v_rows, .v v_columns, .v v_size_here, .un, .un, .un, .v v_some, .v v_chosen] Q ⟨⟩) = oP (mapX (m_law_table_c5 v_size_here v_chosen) ds) fun l => Q l [.bor (.lst v_pot_here), .v v_way, .v v_rows, .v v_columns, .v v_size_here, .un, .un, .un, .v v_some, .v v_chosen] := lc_map [.bor (.lst v_pot_here), .v v_way, .v v_rows, .v v_columns, .v v_size_here, .un, .un, .un, .v v_some, .v v_chosen] (m_law_table_c5 v_size_here v_chosen) (fun d Y => by walk_at "mx l_law_table_c1 l_law_table_c3 l_law_table_c2 l_law_table_c4 l_law_table_c6 cl_law_take m_law_table_c5 e_law_table_c5") ds
def m_law_table_c8  (s : List D) (d : D) : Option ((D) × (List D)) :=
  (m_law_take s (.int 2)).bind fun t43 =>
  some (t43.1, t43.2)
def e_law_table_c8 : WE := wCall sp_law_take (aR 0 (aV (wC (.int 2)) (aNil)))
theorem l_law_table_c8 (v_pot_here : List D) (v_way : D) (v_rows : D) (v_columns : D) (v_row : D) (ds : List D) (Q : List D → TSt → Prop) : (lenOk ds ∧ lcK (gN 6) wYes e_law_table_c8 [6] ds [] [.bor (.lst v_pot_here), .v v_way, .v v_rows, .v v_columns, .un, .un, .un, .v v_row, .un, .un] Q ⟨⟩) = oP (mapSX (m_law_table_c8 ) ds v_pot_here) fun p => Q p.1 [.bor (.lst p.2), .v v_way, .v v_rows, .v v_columns, .un, .un, .un, .v v_row, .un, .un] := lc_mapS (fun s : List D => [.bor (.lst s), .v v_way, .v v_rows, .v v_columns, .un, .un, .un, .v v_row, .un, .un]) (m_law_table_c8 ) (fun s d Y => by walk_at "mx l_law_table_c1 l_law_table_c3 l_law_table_c2 l_law_table_c4 l_law_table_c6 l_law_table_c5 cl_law_take m_law_table_c8 e_law_table_c8") ds v_pot_here
def m_law_table_c7 (v_columns : D) (s : List D) (d : D) : Option ((D) × (List D)) :=
  (rg1X v_columns).bind fun t42 =>
  (mapSX (m_law_table_c8 ) t42 s).bind fun t44 =>
  (tupleX (.lst t44.1)).bind fun t45 =>
  some (t45, t44.2)
def e_law_table_c7 : WE := wBi nTuple (wCons (wLc (wIG (wR1 (wCons (wVar 3) (wNil)))) (gN 6) (wYes) e_law_table_c8 [6]) (wNil))
theorem l_law_table_c7 (v_pot_here : List D) (v_way : D) (v_rows : D) (v_columns : D) (ds : List D) (Q : List D → TSt → Prop) : (lenOk ds ∧ lcK (gN 7) wYes e_law_table_c7 [7] ds [] [.bor (.lst v_pot_here), .v v_way, .v v_rows, .v v_columns, .un, .un, .un, .un, .un, .un] Q ⟨⟩) = oP (mapSX (m_law_table_c7 v_columns) ds v_pot_here) fun p => Q p.1 [.bor (.lst p.2), .v v_way, .v v_rows, .v v_columns, .un, .un, .un, .un, .un, .un] := lc_mapS (fun s : List D => [.bor (.lst s), .v v_way, .v v_rows, .v v_columns, .un, .un, .un, .un, .un, .un]) (m_law_table_c7 v_columns) (fun s d Y => by walk_at "mx l_law_table_c1 l_law_table_c3 l_law_table_c2 l_law_table_c4 l_law_table_c6 l_law_table_c5 l_law_table_c8 cl_law_take m_law_table_c7 e_law_table_c7") ds v_pot_here
def m_law_table (v_pot_here : List D) : Option (D × (List D)) :=
  (m_law_take v_pot_here (.int 5)).bind fun t1 =>
  (m_law_take t1.2 (.int 9)).bind fun t2 =>
  (addX (.int 1) t2.1).bind fun t3 =>
  (m_law_take t2.2 (.int 9)).bind fun t4 =>
  (addX (.int 1) t4.1).bind fun t5 =>
  (eqX t1.1 (.int 0)).bind fun t6 =>
  if t6 = true then
    (m_law_take t4.2 (.int 12)).bind fun t7 =>
    (addX (.int 2) t7.1).bind fun t8 =>
    (rg1X t8).bind fun t9 =>
    (mapSX (m_law_table_c1 ) t9 t7.2).bind fun t11 =>
    (rg1X t8).bind fun t12 =>
    (mapX (m_law_table_c2 t8 t11.1) t12).bind fun t19 =>
    (tupleX (.lst t19)).bind fun t20 =>
    some (t20, t11.2)
  else
    (eqX t1.1 (.int 1)).bind fun t21 =>
    if t21 = true then
      (rg1X t5).bind fun t22 =>
      (mapSX (m_law_table_c4 ) t22 t4.2).bind fun t24 =>
      (tupleX (.lst t24.1)).bind fun t25 =>
      (mulAX (.tup [t25]) t3).bind fun t26 =>
      some (t26, t24.2)
    else
      (eqX t1.1 (.int 2)).bind fun t27 =>
      if t27 = true then
        (m_law_take t4.2 (.int 5)).bind fun t28 =>
        (getX (.lst [(.tup [(.int 7), (.tup [(.int 0), (.int 1), (.int 3)])]), (.tup [(.int 11), (.tup [(.int 0), (.int 1), (.int 2), (.int 4), (.int 7)])]), (.tup [(.int 13), (.tup [(.int 0), (.int 1), (.int 3), (.int 9)])]), (.tup [(.int 15), (.tup [(.int 0), (.int 1), (.int 2), (.int 4), (.int 5), (.int 8), (.int 10)])]), (.tup [(.int 3), (.tup [(.int 0)])])]) t28.1).bind fun t29 =>
        (tup2X t29).bind fun t30 =>
        (rg1X t30.1).bind fun t31 =>
        (mapX (m_law_table_c5 t30.1 t30.2) t31).bind fun t39 =>
        (tupleX (.lst t39)).bind fun t40 =>
        some (t40, t28.2)
      else
        (rg1X t3).bind fun t41 =>
        (mapSX (m_law_table_c7 t5) t41 t4.2).bind fun t46 =>
        (tupleX (.lst t46.1)).bind fun t47 =>
        some (t47, t46.2)
def w_law_table : WS :=
  wSeq (wSet 1 (wFr (wCall sp_law_take (aR 0 (aV (wC (.int 5)) (aNil))))))
  (wSeq (wAsg (wTup (wCons (wBin dAdd (wC (.int 1)) (wCall sp_law_take (aR 0 (aV (wC (.int 9)) (aNil))))) (wCons (wBin dAdd (wC (.int 1)) (wCall sp_law_take (aR 0 (aV (wC (.int 9)) (aNil))))) (wNil)))) (gT 2 (gsCons (gN 2) (gsCons (gN 3) (gsNil)))))
  (wSeq (wIf (wTB (wBin dEq (wVar 1) (wC (.int 0))))
  (wSeq (wSet 4 (wFr (wBin dAdd (wC (.int 2)) (wCall sp_law_take (aR 0 (aV (wC (.int 12)) (aNil)))))))
  (wSeq (wSet 5 (wLc (wIG (wR1 (wCons (wVar 4) (wNil)))) (gN 6) (wYes) e_law_table_c1 [6]))
  (wRetG [true, false, false, false, false, false, false, false, false, false] (wFr (wBi nTuple (wCons (wLc (wIG (wR1 (wCons (wVar 4) (wNil)))) (gN 7) (wYes) e_law_table_c2 [7]) (wNil)))))))
  (wNext))
  (wSeq (wIf (wTB (wBin dEq (wVar 1) (wC (.int 1))))
  (wSeq (wSet 5 (wFr (wBi nTuple (wCons (wLc (wIG (wR1 (wCons (wVar 3) (wNil)))) (gN 6) (wYes) e_law_table_c4 [6]) (wNil)))))
  (wRetG [true, false, false, false, false, false, false, false, false, false] (wFr (wBin dMulA (wTup (wCons (wVar 5) (wNil))) (wVar 2)))))
  (wNext))
  (wSeq (wIf (wTB (wBin dEq (wVar 1) (wC (.int 2))))
  (wSeq (wSet 8 (wFr (wLst (wCons (wTup (wCons (wC (.int 7)) (wCons (wTup (wCons (wC (.int 0)) (wCons (wC (.int 1)) (wCons (wC (.int 3)) (wNil))))) (wNil)))) (wCons (wTup (wCons (wC (.int 11)) (wCons (wTup (wCons (wC (.int 0)) (wCons (wC (.int 1)) (wCons (wC (.int 2)) (wCons (wC (.int 4)) (wCons (wC (.int 7)) (wNil))))))) (wNil)))) (wCons (wTup (wCons (wC (.int 13)) (wCons (wTup (wCons (wC (.int 0)) (wCons (wC (.int 1)) (wCons (wC (.int 3)) (wCons (wC (.int 9)) (wNil)))))) (wNil)))) (wCons (wTup (wCons (wC (.int 15)) (wCons (wTup (wCons (wC (.int 0)) (wCons (wC (.int 1)) (wCons (wC (.int 2)) (wCons (wC (.int 4)) (wCons (wC (.int 5)) (wCons (wC (.int 8)) (wCons (wC (.int 10)) (wNil))))))))) (wNil)))) (wCons (wTup (wCons (wC (.int 3)) (wCons (wTup (wCons (wC (.int 0)) (wNil))) (wNil)))) (wNil)))))))))
  (wSeq (wAsg (wSubK dGet 8 (wCall sp_law_take (aR 0 (aV (wC (.int 5)) (aNil))))) (gT 2 (gsCons (gN 4) (gsCons (gN 9) (gsNil)))))
  (wRetG [true, false, false, false, false, false, false, false, false, false] (wFr (wBi nTuple (wCons (wLc (wIG (wR1 (wCons (wVar 4) (wNil)))) (gN 7) (wYes) e_law_table_c5 [7]) (wNil)))))))
  (wNext))
  (wRetG [true, false, false, false, false, false, false, false, false, false] (wFr (wBi nTuple (wCons (wLc (wIG (wR1 (wCons (wVar 2) (wNil)))) (gN 7) (wYes) e_law_table_c7 [7]) (wNil)))))))))
def sp_law_table : TSpec := fun args PQ _ => ∃ (v_pot_here : List D), args = [.ref (.lst v_pot_here)] ∧ oP (m_law_table v_pot_here) fun r => PQ (.v r.1) [.lst r.2]
theorem cl_law_table (v_pot_here : List D) (PQ : R → List Cell → Prop) (PX : String → Pay → List Cell → Prop) : callK sp_law_table [.ref (.lst v_pot_here)] PQ PX ⟨⟩ = oP (m_law_table v_pot_here) fun r => PQ (.v r.1) [.lst r.2] := by
  unfold callK sp_law_table
  refine propext ⟨fun h => ?_, fun h => ?_⟩
  · obtain ⟨_, e, h⟩ := h; cases e; exact h
  · exact ⟨_, rfl, h⟩
theorem e_law_table (PQ : R → List Cell → Prop) (PX : String → Pay → List Cell → Prop) (v_pot_here : List D) : w_law_table (fnX [.ref (.lst v_pot_here)] PX) (start0 10 [.ref (.lst v_pot_here)]) (fnD [.ref (.lst v_pot_here)] PQ) = oP (m_law_table v_pot_here) fun r => PQ (.v r.1) [.lst r.2] := by walk_at "mx l_law_table_c1 l_law_table_c3 l_law_table_c2 l_law_table_c4 l_law_table_c6 l_law_table_c5 l_law_table_c8 l_law_table_c7 cl_law_take m_law_table w_law_table"
theorem ok_law_table : ∀ args PQ PX, sp_law_table args PQ PX → w_law_table (fnX args PX) (start0 10 args) (fnD args PQ) := by
  rintro args PQ PX ⟨_, rfl, h⟩
  rw [e_law_table]; exact h
theorem hl_law_table : ∀ args PQ PX, sp_law_table args PQ PX → args.length = 1 := by
  rintro args PQ PX ⟨_, rfl, h⟩; rfl
def m_law_laid_c2 (v_rings_here : D) (v_some : D) (v_by : D)  (d : D) : Option (D) :=
  (m_law_less v_rings_here d v_by).bind fun t3 =>
  (inX t3 v_some).bind fun t4 =>
  (intX (.bl t4)).bind fun t5 =>
  some t5
def e_law_laid_c2 : WE := wBi nInt (wCons (wBinK dInA (wCall sp_law_less (aV (wVar 0) (aV (wVar 4) (aV (wVar 3) (aNil))))) 2) (wNil))
theorem l_law_laid_c2 (v_rings_here : D) (v_board_here : D) (v_some : D) (v_by : D) (ds : List D) (Q : List D → TSt → Prop) : (lenOk ds ∧ lcK (gN 4) wYes e_law_laid_c2 [4] ds [] [.v v_rings_here, .v v_board_here, .v v_some, .v v_by, .un] Q ⟨⟩) = oP (mapX (m_law_laid_c2 v_rings_here v_some v_by) ds) fun l => Q l [.v v_rings_here, .v v_board_here, .v v_some, .v v_by, .un] := lc_map [.v v_rings_here, .v v_board_here, .v v_some, .v v_by, .un] (m_law_laid_c2 v_rings_here v_some v_by) (fun d Y => by walk_at "mx cl_law_less m_law_laid_c2 e_law_laid_c2") ds
def m_law_laid_c1 (v_rings_here : D) (v_board_here : D) (v_some : D)  (d : D) : Option (D) :=
  (itX v_board_here).bind fun t2 =>
  (mapX (m_law_laid_c2 v_rings_here v_some d) t2).bind fun t6 =>
  (tupleX (.lst t6)).bind fun t7 =>
  some t7
def e_law_laid_c1 : WE := wBi nTuple (wCons (wLc (wIG (wItS (wVar 1))) (gN 4) (wYes) e_law_laid_c2 [4]) (wNil))
theorem l_law_laid_c1 (v_rings_here : D) (v_board_here : D) (v_some : D) (ds : List D) (Q : List D → TSt → Prop) : (lenOk ds ∧ lcK (gN 3) wYes e_law_laid_c1 [3] ds [] [.v v_rings_here, .v v_board_here, .v v_some, .un, .un] Q ⟨⟩) = oP (mapX (m_law_laid_c1 v_rings_here v_board_here v_some) ds) fun l => Q l [.v v_rings_here, .v v_board_here, .v v_some, .un, .un] := lc_map [.v v_rings_here, .v v_board_here, .v v_some, .un, .un] (m_law_laid_c1 v_rings_here v_board_here v_some) (fun d Y => by walk_at "mx l_law_laid_c2 cl_law_less m_law_laid_c1 e_law_laid_c1") ds
def m_law_laid (v_rings_here : D) (v_board_here : D) (v_some : D) : Option (D) :=
  (itX v_board_here).bind fun t1 =>
  (mapX (m_law_laid_c1 v_rings_here v_board_here v_some) t1).bind fun t8 =>
  (tupleX (.lst t8)).bind fun t9 =>
  some t9
def w_law_laid : WS :=
  wRetG [false, false, false, false, false] (wFr (wBi nTuple (wCons (wLc (wIG (wItS (wVar 1))) (gN 3) (wYes) e_law_laid_c1 [3]) (wNil))))
def sp_law_laid : TSpec := fun args PQ _ => ∃ (v_rings_here : D) (v_board_here : D) (v_some : D), args = [.v v_rings_here, .v v_board_here, .v v_some] ∧ oP (m_law_laid v_rings_here v_board_here v_some) fun r => PQ (.v r) []
theorem cl_law_laid (v_rings_here : D) (v_board_here : D) (v_some : D) (PQ : R → List Cell → Prop) (PX : String → Pay → List Cell → Prop) : callK sp_law_laid [.v v_rings_here, .v v_board_here, .v v_some] PQ PX ⟨⟩ = oP (m_law_laid v_rings_here v_board_here v_some) fun r => PQ (.v r) [] := by
  unfold callK sp_law_laid
  refine propext ⟨fun h => ?_, fun h => ?_⟩
  · obtain ⟨_, _, _, e, h⟩ := h; cases e; exact h
  · exact ⟨_, _, _, rfl, h⟩
theorem e_law_laid (PQ : R → List Cell → Prop) (PX : String → Pay → List Cell → Prop) (v_rings_here : D) (v_board_here : D) (v_some : D) : w_law_laid (fnX [.v v_rings_here, .v v_board_here, .v v_some] PX) (start0 5 [.v v_rings_here, .v v_board_here, .v v_some]) (fnD [.v v_rings_here, .v v_board_here, .v v_some] PQ) = oP (m_law_laid v_rings_here v_board_here v_some) fun r => PQ (.v r) [] := by walk_at "mx l_law_laid_c2 l_law_laid_c1 cl_law_less m_law_laid w_law_laid"
theorem ok_law_laid : ∀ args PQ PX, sp_law_laid args PQ PX → w_law_laid (fnX args PX) (start0 5 args) (fnD args PQ) := by
  rintro args PQ PX ⟨_, _, _, rfl, h⟩
  rw [e_law_laid]; exact h
theorem hl_law_laid : ∀ args PQ PX, sp_law_laid args PQ PX → args.length = 3 := by
  rintro args PQ PX ⟨_, _, _, rfl, h⟩; rfl
def m_lines_c1 (v_rings : D) (v_some : D)  (d : D) : Option (D) :=
  (m_moved_set v_rings v_some d).bind fun t3 =>
  some t3
def e_lines_c1 : WE := wCall sp_moved_set (aV (wVar 0) (aV (wVar 1) (aV (wVar 2) (aNil))))
theorem l_lines_c1 (v_rings : D) (v_some : D) (ds : List D) (Q : List D → TSt → Prop) : (lenOk ds ∧ lcK (gN 2) wYes e_lines_c1 [2] ds [] [.v v_rings, .v v_some, .un] Q ⟨⟩) = oP (mapX (m_lines_c1 v_rings v_some) ds) fun l => Q l [.v v_rings, .v v_some, .un] := lc_map [.v v_rings, .v v_some, .un] (m_lines_c1 v_rings v_some) (fun d Y => by walk_at "mx cl_spots cl_moved_set m_lines_c1 e_lines_c1") ds
def m_lines (v_rings : D) (v_some : D) : Option (D) :=
  (m_spots v_rings).bind fun t1 =>
  (itX t1).bind fun t2 =>
  (mapX (m_lines_c1 v_rings v_some) t2).bind fun t4 =>
  (tupleX (.lst t4)).bind fun t5 =>
  some t5
def w_lines : WS :=
  wRetG [false, false, false] (wFr (wBi nTuple (wCons (wLc (wIG (wItS (wCall sp_spots (aV (wVar 0) (aNil))))) (gN 2) (wYes) e_lines_c1 [2]) (wNil))))
def sp_lines : TSpec := fun args PQ _ => ∃ (v_rings : D) (v_some : D), args = [.v v_rings, .v v_some] ∧ oP (m_lines v_rings v_some) fun r => PQ (.v r) []
theorem cl_lines (v_rings : D) (v_some : D) (PQ : R → List Cell → Prop) (PX : String → Pay → List Cell → Prop) : callK sp_lines [.v v_rings, .v v_some] PQ PX ⟨⟩ = oP (m_lines v_rings v_some) fun r => PQ (.v r) [] := by
  unfold callK sp_lines
  refine propext ⟨fun h => ?_, fun h => ?_⟩
  · obtain ⟨_, _, e, h⟩ := h; cases e; exact h
  · exact ⟨_, _, rfl, h⟩
theorem e_lines (PQ : R → List Cell → Prop) (PX : String → Pay → List Cell → Prop) (v_rings : D) (v_some : D) : w_lines (fnX [.v v_rings, .v v_some] PX) (start0 3 [.v v_rings, .v v_some]) (fnD [.v v_rings, .v v_some] PQ) = oP (m_lines v_rings v_some) fun r => PQ (.v r) [] := by walk_at "mx l_lines_c1 cl_spots cl_moved_set m_lines w_lines"
theorem ok_lines : ∀ args PQ PX, sp_lines args PQ PX → w_lines (fnX args PX) (start0 3 args) (fnD args PQ) := by
  rintro args PQ PX ⟨_, _, rfl, h⟩
  rw [e_lines]; exact h
theorem hl_lines : ∀ args PQ PX, sp_lines args PQ PX → args.length = 2 := by
  rintro args PQ PX ⟨_, _, rfl, h⟩; rfl
def m_by_columns (v_table : D) : Option (D) :=
  (m_mirrored v_table).bind fun t1 =>
  (m_by_rows t1).bind fun t2 =>
  some t2
def w_by_columns : WS :=
  wRetG [false] (wFr (wCall sp_by_rows (aV (wCall sp_mirrored (aV (wVar 0) (aNil))) (aNil))))
def sp_by_columns : TSpec := fun args PQ _ => ∃ (v_table : D), args = [.v v_table] ∧ oP (m_by_columns v_table) fun r => PQ (.v r) []
theorem cl_by_columns (v_table : D) (PQ : R → List Cell → Prop) (PX : String → Pay → List Cell → Prop) : callK sp_by_columns [.v v_table] PQ PX ⟨⟩ = oP (m_by_columns v_table) fun r => PQ (.v r) [] := by
  unfold callK sp_by_columns
  refine propext ⟨fun h => ?_, fun h => ?_⟩
  · obtain ⟨_, e, h⟩ := h; cases e; exact h
  · exact ⟨_, rfl, h⟩
theorem e_by_columns (PQ : R → List Cell → Prop) (PX : String → Pay → List Cell → Prop) (v_table : D) : w_by_columns (fnX [.v v_table] PX) (start0 1 [.v v_table]) (fnD [.v v_table] PQ) = oP (m_by_columns v_table) fun r => PQ (.v r) [] := by walk_at "mx cl_mirrored cl_by_rows m_by_columns w_by_columns"
theorem ok_by_columns : ∀ args PQ PX, sp_by_columns args PQ PX → w_by_columns (fnX args PX) (start0 1 args) (fnD args PQ) := by
  rintro args PQ PX ⟨_, rfl, h⟩
  rw [e_by_columns]; exact h
theorem hl_by_columns : ∀ args PQ PX, sp_by_columns args PQ PX → args.length = 1 := by
  rintro args PQ PX ⟨_, rfl, h⟩; rfl
def m_table_of_c2   (d : D) : Option (D) :=
  some (.tup [d, (.bl true)])
def e_table_of_c2 : WE := wTup (wCons (wVar 6) (wCons (wC (.bl true)) (wNil)))
theorem l_table_of_c2 (v_board : D) (v_laid : List D) (v_line : D) (ds : List D) (Q : List D → TSt → Prop) : (lenOk ds ∧ lcK (gN 6) wYes e_table_of_c2 [6] ds [] [.un, .un, .v v_board, .own (.lst v_laid), .v v_line, .un, .un] Q ⟨⟩) = oP (mapX (m_table_of_c2 ) ds) fun l => Q l [.un, .un, .v v_board, .own (.lst v_laid), .v v_line, .un, .un] := lc_map [.un, .un, .v v_board, .own (.lst v_laid), .v v_line, .un, .un] (m_table_of_c2 ) (fun d Y => by walk_at "mx cl_how_many cl_spots cl_lines m_table_of_c2 e_table_of_c2") ds
def m_table_of_c3 (v_there : D)  (d : D) : Option (D) :=
  (inX d v_there).bind fun t10 =>
  (intX (.bl t10)).bind fun t11 =>
  some t11
def e_table_of_c3 : WE := wBi nInt (wCons (wBinK dInA (wVar 6) 5) (wNil))
theorem l_table_of_c3 (v_board : D) (v_laid : List D) (v_line : D) (v_there : D) (ds : List D) (Q : List D → TSt → Prop) : (lenOk ds ∧ lcK (gN 6) wYes e_table_of_c3 [6] ds [] [.un, .un, .v v_board, .own (.lst v_laid), .v v_line, .v v_there, .un] Q ⟨⟩) = oP (mapX (m_table_of_c3 v_there) ds) fun l => Q l [.un, .un, .v v_board, .own (.lst v_laid), .v v_line, .v v_there, .un] := lc_map [.un, .un, .v v_board, .own (.lst v_laid), .v v_line, .v v_there, .un] (m_table_of_c3 v_there) (fun d Y => by walk_at "mx l_table_of_c2 cl_how_many cl_spots cl_lines m_table_of_c3 e_table_of_c3") ds
def m_table_of_f1 (v_board : D) (s : List D) (d : D) : Option (List D) :=
  (itX d).bind fun t6 =>
  (mapX (m_table_of_c2 ) t6).bind fun t7 =>
  (dictTX (.lst t7)).bind fun t8 =>
  (itX v_board).bind fun t9 =>
  (mapX (m_table_of_c3 (.dct .t t8)) t9).bind fun t12 =>
  (tupleX (.lst t12)).bind fun t13 =>
  (appX s t13).bind fun t14 =>
  some t14
def b_table_of_f1 : WS := wSeq (wSeq (wSet 5 (wFr (wBi nDictT (wCons (wLc (wIG (wItS (wVar 4))) (gN 6) (wYes) e_table_of_c2 [6]) (wNil)))))
  (wDrop (wApp 3 (wCons (wBi nTuple (wCons (wLc (wIG (wItS (wVar 2))) (gN 6) (wYes) e_table_of_c3 [6]) (wNil))) (wNil)))))
  (wGhN [.kp, .kp, .kp, .kp, .kl, .kl, .kp])
theorem l_table_of_f1 (W : TX) (nx : TSt → Prop) (rt : R → TSt → Prop) (bk ct : TSt → Prop) (v_board : D) (v_laid : List D) (ds : List D) : forK (gN 4) b_table_of_f1 W ds [.un, .un, .v v_board, .own (.lst v_laid), .un, .un, .un] ⟨nx, rt, bk, ct⟩ ⟨⟩ = oP (foldX (m_table_of_f1 v_board) ds v_laid) fun s => nx [.un, .un, .v v_board, .own (.lst s), .un, .un, .un] := forK_fold (fun s : List D => [.un, .un, .v v_board, .own (.lst s), .un, .un, .un]) (m_table_of_f1 v_board) (fun s d nxt => by walk_at "mx l_table_of_c2 l_table_of_c3 cl_how_many cl_spots cl_lines m_table_of_f1 b_table_of_f1") ds v_laid
def m_table_of (v_rings : D) (v_some : D) : Option (Ex (D)) :=
  (m_how_many v_rings).bind fun t1 =>
  (gtX t1 (.int 64)).bind fun t2 =>
  if t2 = true then
    some (.er "TooMany")
  else
    (m_spots v_rings).bind fun t3 =>
    (m_lines v_rings v_some).bind fun t4 =>
    (itX t4).bind fun t5 =>
    (foldX (m_table_of_f1 t3) t5 []).bind fun t15 =>
    (tupleX (.lst t15)).bind fun t16 =>
    some (.ok t16)
def w_table_of : WS :=
  wSeq (wIf (wTB (wBin dGt (wCall sp_how_many (aV (wVar 0) (aNil))) (wC (.int 64))))
  (wRaise "TooMany")
  (wNext))
  (wSeq (wSet 2 (wFr (wCall sp_spots (aV (wVar 0) (aNil)))))
  (wSeq (wSet 3 (wLst (wNil)))
  (wSeq (wFor (wIgh [.kl, .kl, .kp, .kp, .kp, .kp, .kp] (wItS (wCall sp_lines (aV (wVar 0) (aV (wVar 1) (aNil)))))) (gN 4) b_table_of_f1)
  (wRetG [false, false, false, false, false, false, false] (wFr (wBiK nTuple 3))))))
def sp_table_of : TSpec := fun args PQ PX => ∃ (v_rings : D) (v_some : D), args = [.v v_rings, .v v_some] ∧ oP (m_table_of v_rings v_some) fun o => o.cs (fun r => PQ (.v r) []) (fun n => PX n none [])
theorem cl_table_of (v_rings : D) (v_some : D) (PQ : R → List Cell → Prop) (PX : String → Pay → List Cell → Prop) : callK sp_table_of [.v v_rings, .v v_some] PQ PX ⟨⟩ = oP (m_table_of v_rings v_some) fun o => o.cs (fun r => PQ (.v r) []) (fun n => PX n none []) := by
  unfold callK sp_table_of
  refine propext ⟨fun h => ?_, fun h => ?_⟩
  · obtain ⟨_, _, e, h⟩ := h; cases e; exact h
  · exact ⟨_, _, rfl, h⟩
theorem e_table_of (PQ : R → List Cell → Prop) (PX : String → Pay → List Cell → Prop) (v_rings : D) (v_some : D) : w_table_of (fnX [.v v_rings, .v v_some] PX) (start0 7 [.v v_rings, .v v_some]) (fnD [.v v_rings, .v v_some] PQ) = oP (m_table_of v_rings v_some) fun o => o.cs (fun r => PQ (.v r) []) (fun n => PX n none []) := by walk_at "mx l_table_of_c2 l_table_of_c3 l_table_of_f1 cl_how_many cl_spots cl_lines m_table_of w_table_of"
theorem ok_table_of : ∀ args PQ PX, sp_table_of args PQ PX → w_table_of (fnX args PX) (start0 7 args) (fnD args PQ) := by
  rintro args PQ PX ⟨_, _, rfl, h⟩
  rw [e_table_of]; exact h
theorem hl_table_of : ∀ args PQ PX, sp_table_of args PQ PX → args.length = 2 := by
  rintro args PQ PX ⟨_, _, rfl, h⟩; rfl
def m_law_right_c2 (v_at : D)  (d : D) : Option (D) :=
  (getX d v_at).bind fun t5 =>
  some t5
def e_law_right_c2 : WE := wSubK dGet 3 (wVar 2)
theorem l_law_right_c2 (v_told : D) (v_at : D) (ds : List D) (Q : List D → TSt → Prop) : (lenOk ds ∧ lcK (gN 3) wYes e_law_right_c2 [3] ds [] [.v v_told, .un, .v v_at, .un, .un] Q ⟨⟩) = oP (mapX (m_law_right_c2 v_at) ds) fun l => Q l [.v v_told, .un, .v v_at, .un, .un] := lc_map [.v v_told, .un, .v v_at, .un, .un] (m_law_right_c2 v_at) (fun d Y => by walk_at "mx  m_law_right_c2 e_law_right_c2") ds
def m_law_right_c1 (v_told : D)  (d : D) : Option (D) :=
  (itX v_told).bind fun t4 =>
  (mapX (m_law_right_c2 d) t4).bind fun t6 =>
  (tupleX (.lst t6)).bind fun t7 =>
  some t7
def e_law_right_c1 : WE := wBi nTuple (wCons (wLc (wIG (wItS (wVar 0))) (gN 3) (wYes) e_law_right_c2 [3]) (wNil))
theorem l_law_right_c1 (v_told : D) (ds : List D) (Q : List D → TSt → Prop) : (lenOk ds ∧ lcK (gN 2) wYes e_law_right_c1 [2] ds [] [.v v_told, .un, .un, .un, .un] Q ⟨⟩) = oP (mapX (m_law_right_c1 v_told) ds) fun l => Q l [.v v_told, .un, .un, .un, .un] := lc_map [.v v_told, .un, .un, .un, .un] (m_law_right_c1 v_told) (fun d Y => by walk_at "mx l_law_right_c2 m_law_right_c1 e_law_right_c1") ds
def m_law_right_f3 (v_told : D) (v_columns : D) (s : Unit) (d : D) : Option (SO (Unit) (D)) :=
  (m_by_rows v_told).bind fun t11 =>
  (m_law_shared v_told).bind fun t12 =>
  (m_law_same t11 t12).bind fun t13 =>
  (truX t13).bind fun t14 =>
  (if (!t14) = true then some true else (m_by_columns v_told).bind fun t15 =>
    (m_law_shared v_columns).bind fun t16 =>
    (m_law_same t15 t16).bind fun t17 =>
    (truX t17).bind fun t18 =>
    some (!t18)).bind fun t19 =>
  if t19 = true then
    some (.rt (.bl false))
  else
    some (.nx ())
def b_law_right_f3 : WS := wSeq (wIf (wOr (wNot (wTru (wCall sp_law_same (aV (wCall sp_by_rows (aV (wVar 0) (aNil))) (aV (wCall sp_law_shared (aV (wVar 0) (aNil))) (aNil)))))) (wNot (wTru (wCall sp_law_same (aV (wCall sp_by_columns (aV (wVar 0) (aNil))) (aV (wCall sp_law_shared (aV (wVar 1) (aNil))) (aNil)))))))
  (wRetG [false, false, false, false, false] (wFr (wC (.bl false))))
  (wNext))
  (wGhN [.kp, .kp, .kp, .kp, .kl])
theorem l_law_right_f3 (W : TX) (nx : TSt → Prop) (rt : R → TSt → Prop) (bk ct : TSt → Prop) (v_told : D) (v_columns : D)  (ds : List D) : forK (gN 4) b_law_right_f3 W ds [.v v_told, .v v_columns, .un, .un, .un] ⟨nx, rt, bk, ct⟩ ⟨⟩ = oP (forX (m_law_right_f3 v_told v_columns) ds ()) fun o => o.cs (fun s => nx [.v v_told, .v v_columns, .un, .un, .un]) (fun r => rt (.v r) [.un, .un, .un, .un, .un]) := forK_for (fun s : Unit => [.v v_told, .v v_columns, .un, .un, .un]) (fun r => rt (.v r) [.un, .un, .un, .un, .un]) (m_law_right_f3 v_told v_columns) (fun s d nxt => by walk_at "mx l_law_right_c2 l_law_right_c1 cl_by_rows cl_law_shared cl_law_same cl_by_columns m_law_right_f3 b_law_right_f3") ds ()
def m_law_right (v_told : D) : Option (D) :=
  (getX v_told (.int 0)).bind fun t1 =>
  (lenX t1).bind fun t2 =>
  (rg1X t2).bind fun t3 =>
  (mapX (m_law_right_c1 v_told) t3).bind fun t8 =>
  (tupleX (.lst t8)).bind fun t9 =>
  (rg1X (.int 2)).bind fun t10 =>
  (forX (m_law_right_f3 v_told t9) t10 ()).bind fun t20 =>
  t20.cs (fun s21 =>
    some (.bl true))
    (fun r => some r)
def w_law_right : WS :=
  wSeq (wSet 1 (wFr (wBi nTuple (wCons (wLc (wIG (wR1 (wCons (wBi nLen (wCons (wSubK dGet 0 (wC (.int 0))) (wNil))) (wNil)))) (gN 2) (wYes) e_law_right_c1 [2]) (wNil)))))
  (wSeq (wFor (wR1 (wCons (wC (.int 2)) (wNil))) (gN 4) b_law_right_f3)
  (wRetG [false, false, false, false, false] (wFr (wC (.bl true)))))
def sp_law_right : TSpec := fun args PQ _ => ∃ (v_told : D), args = [.v v_told] ∧ oP (m_law_right v_told) fun r => PQ (.v r) []
theorem cl_law_right (v_told : D) (PQ : R → List Cell → Prop) (PX : String → Pay → List Cell → Prop) : callK sp_law_right [.v v_told] PQ PX ⟨⟩ = oP (m_law_right v_told) fun r => PQ (.v r) [] := by
  unfold callK sp_law_right
  refine propext ⟨fun h => ?_, fun h => ?_⟩
  · obtain ⟨_, e, h⟩ := h; cases e; exact h
  · exact ⟨_, rfl, h⟩
theorem e_law_right (PQ : R → List Cell → Prop) (PX : String → Pay → List Cell → Prop) (v_told : D) : w_law_right (fnX [.v v_told] PX) (start0 5 [.v v_told]) (fnD [.v v_told] PQ) = oP (m_law_right v_told) fun r => PQ (.v r) [] := by walk_at "mx l_law_right_c2 l_law_right_c1 l_law_right_f3 cl_by_rows cl_law_shared cl_law_same cl_by_columns m_law_right w_law_right"
theorem ok_law_right : ∀ args PQ PX, sp_law_right args PQ PX → w_law_right (fnX args PX) (start0 5 args) (fnD args PQ) := by
  rintro args PQ PX ⟨_, rfl, h⟩
  rw [e_law_right]; exact h
theorem hl_law_right : ∀ args PQ PX, sp_law_right args PQ PX → args.length = 1 := by
  rintro args PQ PX ⟨_, rfl, h⟩; rfl
def m_law_is_refused_t1x (v_rings_here : D) (v_found : D) (n : String) : Option (D) :=
  (guardX (["TooMany"].contains n)).bind fun _ =>
  (isEX ["TooMany"] ["NoWay", "TooMany"] (.exc n) (.cl "TooMany")).bind fun t2 =>
  (if t2 = true then (isEX ["TooMany"] ["NoWay", "TooMany"] (.exc n) (.cl "NoWay")).bind fun t3 =>
    (if (!t3) = true then (isEX ["TooMany"] ["NoWay", "TooMany"] (.exc n) (.ty "ValueError")).bind fun t4 =>
      some (.bl t4) else some (.bl false)).bind fun t5 =>
    some t5 else some (.bl false)).bind fun t6 =>
  some t6
def m_law_is_refused_t1 (v_rings_here : D) (v_found : D) : Option (D) :=
  bindE (m_table_of v_rings_here (.tup [])) (fun n => m_law_is_refused_t1x v_rings_here v_found n) fun t1 =>
  some v_found
def j_law_is_refused_t1 : WS := wTryAs 2 ["TooMany"]
  (wSeq (wDrop (wCall sp_table_of (aV (wVar 0) (aV (wTup (wNil)) (aNil))))) (wGhN [.kl, .kp, .kp]))
  (wSeq (wSet 1 (wFr (wAndV (wBi (nIsE ["TooMany"] ["NoWay", "TooMany"]) (wCons (wVar 2) (wCons (wC (.cl "TooMany")) (wNil)))) (wAndV (wNotT (wBi (nIsE ["TooMany"] ["NoWay", "TooMany"]) (wCons (wVar 2) (wCons (wC (.cl "NoWay")) (wNil))))) (wBi (nIsE ["TooMany"] ["NoWay", "TooMany"]) (wCons (wVar 2) (wCons (wC (.ty "ValueError")) (wNil)))))))) (wGhN [.kl, .kp, .kp]))
theorem l_law_is_refused_t1 (W : TX) (nx : TSt → Prop) (rt : R → TSt → Prop) (bk ct : TSt → Prop) (v_rings_here : D) (v_found : D) : j_law_is_refused_t1 W [.v v_rings_here, .v v_found, .un] ⟨nx, rt, bk, ct⟩ = oP (m_law_is_refused_t1 v_rings_here v_found) fun s => nx [.un, .v s, .un] := by walk_at "mx cl_table_of m_law_is_refused_t1 m_law_is_refused_t1x j_law_is_refused_t1"
def m_law_is_refused (v_rings_here : D) : Option (D) :=
  (m_law_is_refused_t1 v_rings_here (.bl false)).bind fun t7 =>
  some t7
def w_law_is_refused : WS :=
  wSeq (wSet 1 (wFr (wC (.bl false))))
  (wSeq (j_law_is_refused_t1)
  (wRetG [false, false, false] (wFr (wVar 1))))
def sp_law_is_refused : TSpec := fun args PQ _ => ∃ (v_rings_here : D), args = [.v v_rings_here] ∧ oP (m_law_is_refused v_rings_here) fun r => PQ (.v r) []
theorem cl_law_is_refused (v_rings_here : D) (PQ : R → List Cell → Prop) (PX : String → Pay → List Cell → Prop) : callK sp_law_is_refused [.v v_rings_here] PQ PX ⟨⟩ = oP (m_law_is_refused v_rings_here) fun r => PQ (.v r) [] := by
  unfold callK sp_law_is_refused
  refine propext ⟨fun h => ?_, fun h => ?_⟩
  · obtain ⟨_, e, h⟩ := h; cases e; exact h
  · exact ⟨_, rfl, h⟩
theorem e_law_is_refused (PQ : R → List Cell → Prop) (PX : String → Pay → List Cell → Prop) (v_rings_here : D) : w_law_is_refused (fnX [.v v_rings_here] PX) (start0 3 [.v v_rings_here]) (fnD [.v v_rings_here] PQ) = oP (m_law_is_refused v_rings_here) fun r => PQ (.v r) [] := by walk_at "mx l_law_is_refused_t1 cl_table_of m_law_is_refused w_law_is_refused"
theorem ok_law_is_refused : ∀ args PQ PX, sp_law_is_refused args PQ PX → w_law_is_refused (fnX args PX) (start0 3 args) (fnD args PQ) := by
  rintro args PQ PX ⟨_, rfl, h⟩
  rw [e_law_is_refused]; exact h
theorem hl_law_is_refused : ∀ args PQ PX, sp_law_is_refused args PQ PX → args.length = 1 := by
  rintro args PQ PX ⟨_, rfl, h⟩; rfl
def m_law_c2 (v_much : D) (s : List D) (d : D) : Option ((Option D) × (List D)) :=
  (m_law_take s v_much).bind fun t16 =>
  (eqX t16.1 (.int 0)).bind fun t17 =>
  if t17 = true then some (some d, t16.2) else some (none, t16.2)
def e_law_c2 : WE := wVar 9
def q_law_c2 : WT := wTB (wBin dEq (wCall sp_law_take (aR 2 (aV (wVar 6) (aNil)))) (wC (.int 0)))
theorem l_law_c2 (v_script : D) (v_cell : D) (v_pot_here : List D) (v_wide : D) (v_rings_here : D) (v_board_here : D) (v_much : D) (ds : List D) (Q : List D → TSt → Prop) : (lenOk ds ∧ lcK (gN 9) q_law_c2 e_law_c2 [9] ds [] [.v v_script, .v v_cell, .own (.lst v_pot_here), .v v_wide, .v v_rings_here, .v v_board_here, .v v_much, .un, .un, .un] Q ⟨⟩) = oP (fmapSX (m_law_c2 v_much) ds v_pot_here) fun p => Q p.1 [.v v_script, .v v_cell, .own (.lst p.2), .v v_wide, .v v_rings_here, .v v_board_here, .v v_much, .un, .un, .un] := lc_fmapS (fun s : List D => [.v v_script, .v v_cell, .own (.lst s), .v v_wide, .v v_rings_here, .v v_board_here, .v v_much, .un, .un, .un]) (m_law_c2 v_much) (fun s d Y N => by walk_at "mx cl_law_pot cl_law_take cl_law_rings cl_law_board m_law_c2 e_law_c2 q_law_c2") ds v_pot_here
def m_law_f3 (v_script : D) (v_pot_here : List D) (v_rings_here : D) (v_board_here : D) (v_some : D) (s : Unit) (d : D) : Option (SO (Unit) (D)) :=
  (m_table_of v_rings_here v_some).bind fun t21 =>
  (t21.un).bind fun t22 =>
  (m_law_laid v_rings_here v_board_here v_some).bind fun t23 =>
  (m_law_same t22 t23).bind fun t24 =>
  (truX t24).bind fun t25 =>
  if (!t25) = true then
    some (.rt (.bl false))
  else
    some (.nx ())
def b_law_f3 : WS := wSeq (wIf (wNot (wTru (wCall sp_law_same (aV (wNoX (wCall sp_table_of (aV (wVar 4) (aV (wVar 7) (aNil))))) (aV (wCall sp_law_laid (aV (wVar 4) (aV (wVar 5) (aV (wVar 7) (aNil))))) (aNil))))))
  (wRetG [false, false, false, false, false, false, false, false, false, false] (wFr (wC (.bl false))))
  (wNext))
  (wGhN [.kp, .kp, .kp, .kp, .kp, .kp, .kp, .kp, .kl, .kp])
theorem l_law_f3 (W : TX) (nx : TSt → Prop) (rt : R → TSt → Prop) (bk ct : TSt → Prop) (v_script : D) (v_pot_here : List D) (v_rings_here : D) (v_board_here : D) (v_some : D)  (ds : List D) : forK (gN 8) b_law_f3 W ds [.v v_script, .un, .own (.lst v_pot_here), .un, .v v_rings_here, .v v_board_here, .un, .v v_some, .un, .un] ⟨nx, rt, bk, ct⟩ ⟨⟩ = oP (forX (m_law_f3 v_script v_pot_here v_rings_here v_board_here v_some) ds ()) fun o => o.cs (fun s => nx [.v v_script, .un, .own (.lst v_pot_here), .un, .v v_rings_here, .v v_board_here, .un, .v v_some, .un, .un]) (fun r => rt (.v r) [.un, .un, .un, .un, .un, .un, .un, .un, .un, .un]) := forK_for (fun s : Unit => [.v v_script, .un, .own (.lst v_pot_here), .un, .v v_rings_here, .v v_board_here, .un, .v v_some, .un, .un]) (fun r => rt (.v r) [.un, .un, .un, .un, .un, .un, .un, .un, .un, .un]) (m_law_f3 v_script v_pot_here v_rings_here v_board_here v_some) (fun s d nxt => by walk_at "mx l_law_c2 cl_law_pot cl_law_take cl_law_rings cl_law_board cl_table_of cl_law_laid cl_law_same m_law_f3 b_law_f3") ds ()
def m_law_f1 (v_script : D) (s : Unit) (d : D) : Option (SO (Unit) (D)) :=
  (m_law_pot v_script d).bind fun t5 =>
  (m_law_take t5 (.int 8)).bind fun t6 =>
  (eqX t6.1 (.int 0)).bind fun t7 =>
  (if t7 = true then (m_law_take t6.2 (.int 4)).bind fun t8 =>
    (getX (.lst [(.tup [(.int 64)]), (.tup [(.int 8), (.int 8)]), (.tup [(.int 4), (.int 16)]), (.tup [(.int 2), (.int 2), (.int 4), (.int 4)])]) t8.1).bind fun t9 =>
    some (t9, t8.2) else (m_law_rings t6.2 (.int 30)).bind fun t10 =>
    some (t10.1, t10.2)).bind fun t11 =>
  (m_law_board t11.1).bind fun t12 =>
  (m_law_take t11.2 (.int 4)).bind fun t13 =>
  (getX (.lst [(.int 2), (.int 3), (.int 6), (.int 1)]) t13.1).bind fun t14 =>
  (itX t12).bind fun t15 =>
  (fmapSX (m_law_c2 t14) t15 t13.2).bind fun t18 =>
  (tupleX (.lst t18.1)).bind fun t19 =>
  (rg1X (.int 2)).bind fun t20 =>
  (forX (m_law_f3 v_script t18.2 t11.1 t12 t19) t20 ()).bind fun t26 =>
  t26.cs (fun s27 =>
    (m_law_laid t11.1 t12 t19).bind fun t28 =>
    (m_law_right t28).bind fun t29 =>
    (truX t29).bind fun t30 =>
    if (!t30) = true then
      some (.rt (.bl false))
    else
      (m_law_take t18.2 (.int 28)).bind fun t31 =>
      (addX (.int 13) t31.1).bind fun t32 =>
      (m_law_take t31.2 (.int 4)).bind fun t33 =>
      (getX (.lst [(.tup [(.int 65)]), (.tup [(.int 200)]), (.tup [(.int 2), (.int 33)]), (.tup [(.int 5), t32])]) t33.1).bind fun t34 =>
      (m_law_is_refused t34).bind fun t35 =>
      (truX t35).bind fun t36 =>
      if (!t36) = true then
        some (.rt (.bl false))
      else
        some (.nx ()))
    (fun r => some (.rt r))
def b_law_f1 : WS := wSeq (wSeq (wSet 2 (wCall sp_law_pot (aV (wVar 0) (aV (wVar 1) (aNil)))))
  (wSeq (wSet 3 (wFr (wBin dEq (wCall sp_law_take (aR 2 (aV (wC (.int 8)) (aNil)))) (wC (.int 0)))))
  (wSeq (wSet 4 (wFr (wIte (wTru (wVar 3)) (wFr (wBin dGet (wLst (wCons (wTup (wCons (wC (.int 64)) (wNil))) (wCons (wTup (wCons (wC (.int 8)) (wCons (wC (.int 8)) (wNil)))) (wCons (wTup (wCons (wC (.int 4)) (wCons (wC (.int 16)) (wNil)))) (wCons (wTup (wCons (wC (.int 2)) (wCons (wC (.int 2)) (wCons (wC (.int 4)) (wCons (wC (.int 4)) (wNil)))))) (wNil)))))) (wCall sp_law_take (aR 2 (aV (wC (.int 4)) (aNil)))))) (wFr (wCall sp_law_rings (aR 2 (aV (wC (.int 30)) (aNil))))))))
  (wSeq (wSet 5 (wFr (wCall sp_law_board (aV (wVar 4) (aNil)))))
  (wSeq (wSet 6 (wFr (wBin dGet (wLst (wCons (wC (.int 2)) (wCons (wC (.int 3)) (wCons (wC (.int 6)) (wCons (wC (.int 1)) (wNil)))))) (wCall sp_law_take (aR 2 (aV (wC (.int 4)) (aNil)))))))
  (wSeq (wSet 7 (wFr (wBi nTuple (wCons (wLc (wIG (wItS (wVar 5))) (gN 9) (q_law_c2) e_law_c2 [9]) (wNil)))))
  (wSeq (wFor (wIgh [.kp, .kl, .kp, .kl, .kp, .kp, .kl, .kp, .kp, .kp] (wR1 (wCons (wC (.int 2)) (wNil)))) (gN 8) b_law_f3)
  (wSeq (wIf (wNot (wTru (wCall sp_law_right (aV (wCall sp_law_laid (aV (wVar 4) (aV (wVar 5) (aV (wVar 7) (aNil))))) (aNil)))))
  (wRetG [false, false, false, false, false, false, false, false, false, false] (wFr (wC (.bl false))))
  (wNext))
  (wIf (wNot (wTru (wCall sp_law_is_refused (aV (wBin dGet (wLst (wCons (wTup (wCons (wC (.int 65)) (wNil))) (wCons (wTup (wCons (wC (.int 200)) (wNil))) (wCons (wTup (wCons (wC (.int 2)) (wCons (wC (.int 33)) (wNil)))) (wCons (wTup (wCons (wC (.int 5)) (wCons (wBin dAdd (wC (.int 13)) (wCall sp_law_take (aR 2 (aV (wC (.int 28)) (aNil))))) (wNil)))) (wNil)))))) (wCall sp_law_take (aR 2 (aV (wC (.int 4)) (aNil))))) (aNil)))))
  (wRetG [false, false, false, false, false, false, false, false, false, false] (wFr (wC (.bl false))))
  (wNext))))))))))
  (wGhN [.kp, .kp, .kl, .kp, .kl, .kl, .kp, .kl, .kp, .kp])
theorem l_law_f1 (W : TX) (nx : TSt → Prop) (rt : R → TSt → Prop) (bk ct : TSt → Prop) (v_script : D)  (ds : List D) : forK (gN 1) b_law_f1 W ds [.v v_script, .un, .un, .un, .un, .un, .un, .un, .un, .un] ⟨nx, rt, bk, ct⟩ ⟨⟩ = oP (forX (m_law_f1 v_script) ds ()) fun o => o.cs (fun s => nx [.v v_script, .un, .un, .un, .un, .un, .un, .un, .un, .un]) (fun r => rt (.v r) [.un, .un, .un, .un, .un, .un, .un, .un, .un, .un]) := forK_for (fun s : Unit => [.v v_script, .un, .un, .un, .un, .un, .un, .un, .un, .un]) (fun r => rt (.v r) [.un, .un, .un, .un, .un, .un, .un, .un, .un, .un]) (m_law_f1 v_script) (fun s d nxt => by walk_at "mx l_law_c2 l_law_f3 cl_law_pot cl_law_take cl_law_rings cl_law_board cl_table_of cl_law_laid cl_law_same cl_law_right cl_law_is_refused m_law_f1 b_law_f1") ds ()
def m_law_c4 (v_script : D)  (d : D) : Option (D) :=
  (addX (.int 7) d).bind fun t43 =>
  (m_law_pot v_script t43).bind fun t44 =>
  (m_law_table t44).bind fun t45 =>
  (m_law_right t45.1).bind fun t46 =>
  some t46
def e_law_c4 : WE := wCall sp_law_right (aV (wCallO sp_law_table (wCall sp_law_pot (aV (wVar 0) (aV (wBin dAdd (wC (.int 7)) (wVar 1)) (aNil))))) (aNil))
theorem l_law_c4 (v_script : D) (ds : List D) (Q : List D → TSt → Prop) : (lenOk ds ∧ lcK (gN 1) wYes e_law_c4 [1] ds [] [.v v_script, .un, .un, .un, .un, .un, .un, .un, .un, .un] Q ⟨⟩) = oP (mapX (m_law_c4 v_script) ds) fun l => Q l [.v v_script, .un, .un, .un, .un, .un, .un, .un, .un, .un] := lc_map [.v v_script, .un, .un, .un, .un, .un, .un, .un, .un, .un] (m_law_c4 v_script) (fun d Y => by walk_at "mx l_law_c2 l_law_f3 l_law_f1 e_wCallO e_ownC cl_law_pot cl_law_take cl_law_rings cl_law_board cl_table_of cl_law_laid cl_law_same cl_law_right cl_law_is_refused cl_law_table m_law_c4 e_law_c4") ds
def m_law (v_script : D) : Option (D) :=
  (lenX v_script).bind fun t1 =>
  (min2X t1 (.int 4)).bind fun t2 =>
  (max2X (.int 1) t2).bind fun t3 =>
  (rg1X t3).bind fun t4 =>
  (forX (m_law_f1 v_script) t4 ()).bind fun t37 =>
  t37.cs (fun s38 =>
    (lenX v_script).bind fun t39 =>
    (min2X t39 (.int 6)).bind fun t40 =>
    (addX (.int 1) t40).bind fun t41 =>
    (rg1X t41).bind fun t42 =>
    (mapX (m_law_c4 v_script) t42).bind fun t47 =>
    (allX (.lst t47)).bind fun t48 =>
    some (.bl t48))
    (fun r => some r)
def w_law : WS :=
  wSeq (wFor (wR1 (wCons (wBi nMax2 (wCons (wC (.int 1)) (wCons (wBi nMin2 (wCons (wBiK nLen 0) (wCons (wC (.int 4)) (wNil)))) (wNil)))) (wNil))) (gN 1) b_law_f1)
  (wRetG [false, false, false, false, false, false, false, false, false, false] (wFr (wBi nAll (wCons (wLc (wIG (wR1 (wCons (wBin dAdd (wC (.int 1)) (wBi nMin2 (wCons (wBiK nLen 0) (wCons (wC (.int 6)) (wNil))))) (wNil)))) (gN 1) (wYes) e_law_c4 [1]) (wNil)))))
theorem e_law (PQ : R → List Cell → Prop) (PX : String → Pay → List Cell → Prop) (v_script : D) : w_law (fnX [.v v_script] PX) (start0 10 [.v v_script]) (fnD [.v v_script] PQ) = oP (m_law v_script) fun r => PQ (.v r) [] := by walk_at "mx l_law_c2 l_law_f3 l_law_f1 e_wCallO e_ownC l_law_c4 cl_law_pot cl_law_take cl_law_rings cl_law_board cl_table_of cl_law_laid cl_law_same cl_law_right cl_law_is_refused cl_law_table m_law w_law"
end
end
end TL
namespace TL
open PySem PySem.Spec PyProof.Rows L2
local macro_rules | `(tactic| walk_at $s:str) => do
  let names := (s.getString.splitOn " ").filter (· ≠ "")
  match names with
  | "xs" :: ls => do
    let base := "Option.bind_some Option.bind_none addX_i subX_i mulX_i divX_i modX_i powX_i iaddX_i eqX_i neX_i eqX_b neX_b ltX_i ltAX_i leX_i gtX_i geX_i truX_bl truX_i truX_non truX_tup truX_lst itX_tup itX_lst itX_scr lenX_tup lenX_lst lenX_scr lenX_dct tupleX_lst tupleX_tup listX_lst listX_tup seqX_lst seqX_tup intX_bl intX_int absX_i max2X_i min2X_i slX_tup slX_lst slX_scr addX_tup addX_lst addLX_lst appX_ok extX_ok rg1X_i rg2X_i allX_ok anyX_ok sumX_ok tup2X_ok tup3X_ok asI_int asB_bl asL_lst SO.cs_nx SO.cs_rt WH.cs_go WH.cs_dn WH.cs_rt if_true if_false reduceIte decide_eq_true_eq not_true_eq_false not_false_eq_true decide_true decide_false Bool.not_true Bool.not_false Bool.not_not Bool.not_eq_true' decide_eq_false_iff_not Bool.false_eq_true Bool.true_eq_false D.isNon List.length_map List.isEmpty_nil List.isEmpty_cons isi_int_int isi_int_bool isi_int_tuple isi_int_list isi_int_str isi_int_dict isi_bl_int isi_bl_bool isi_bl_tuple isi_bl_list isi_bl_str isi_bl_dict isi_non_int isi_non_bool isi_non_tuple isi_non_list isi_non_str isi_non_dict isi_str_int isi_str_bool isi_str_tuple isi_str_list isi_str_str isi_str_dict isi_tup_int isi_tup_bool isi_tup_tuple isi_tup_list isi_tup_str isi_tup_dict isi_lst_int isi_lst_bool isi_lst_tuple isi_lst_list isi_lst_str isi_lst_dict isi_dct_int isi_dct_bool isi_dct_tuple isi_dct_list isi_dct_str isi_dct_dict".splitOn " "
    let all ← (base ++ ls).toArray.mapM fun (l : String) => do
      let i := Lean.mkIdent l.toName
      `(Lean.Parser.Tactic.simpLemma| $i:term)
    `(tactic| simp (disch := first | assumption | omega | decide | (simp only [List.length_cons, List.length_nil, List.length_append, List.length_map, List.length_range, rangeD_len, size_def]; omega) | (simp only [List.length_cons, List.length_nil, List.length_append, List.length_map, List.length_range, rangeD_len, size_def]; decide)) only [$all,*])
  | "ow" :: ls => do
    let base := "Option.bind_some Option.bind_none addX_i subX_i mulX_i divX_i modX_i powX_i iaddX_i eqX_i neX_i eqX_b neX_b ltX_i ltAX_i leX_i gtX_i geX_i truX_bl truX_i truX_non truX_tup truX_lst itX_tup itX_lst itX_scr lenX_tup lenX_lst lenX_scr lenX_dct tupleX_lst tupleX_tup listX_lst listX_tup seqX_lst seqX_tup intX_bl intX_int absX_i max2X_i min2X_i slX_tup slX_lst slX_scr addX_tup addX_lst addLX_lst appX_ok extX_ok rg1X_i rg2X_i allX_ok anyX_ok sumX_ok tup2X_ok tup3X_ok asI_int asB_bl asL_lst if_true if_false reduceIte decide_eq_true_eq not_true_eq_false not_false_eq_true decide_true decide_false Bool.not_true Bool.not_false Bool.not_not Bool.not_eq_true' decide_eq_false_iff_not Bool.false_eq_true Bool.true_eq_false D.isNon List.length_map List.isEmpty_nil List.isEmpty_cons isi_int_int isi_int_bool isi_int_tuple isi_int_list isi_int_str isi_int_dict isi_bl_int isi_bl_bool isi_bl_tuple isi_bl_list isi_bl_str isi_bl_dict isi_non_int isi_non_bool isi_non_tuple isi_non_list isi_non_str isi_non_dict isi_str_int isi_str_bool isi_str_tuple isi_str_list isi_str_str isi_str_dict isi_tup_int isi_tup_bool isi_tup_tuple isi_tup_list isi_tup_str isi_tup_dict isi_lst_int isi_lst_bool isi_lst_tuple isi_lst_list isi_lst_str isi_lst_dict isi_dct_int isi_dct_bool isi_dct_tuple isi_dct_list isi_dct_str isi_dct_dict ~oP_bindT ~withO_bind ~oP_condK ~oP_nx ~oP_rt ~SO.cs_nx ~SO.cs_rt ~WH.cs_go ~WH.cs_dn ~WH.cs_rt oP_some withO_some withO_condK condK_t condK_f iteB_some iteD_some ite_int ite_and ite_or get3_0 get3_1 get3_2 set3_0 set3_1 set3_2 gett2_0 gett2_1 isX_b isNotX_b mulLX_i Bool.and_eq_true Bool.or_eq_true true_implies and_true true_and implies_true Int.not_lt Int.not_le Bool.not_eq_true forall_const false_or true_or or_true or_false and_false false_and eq_self natz Bool.true_and Bool.and_true Bool.false_or Bool.or_false Bool.true_or Bool.or_true Bool.false_and Bool.and_false".splitOn " "
    let all ← (base ++ ls).toArray.mapM fun (l : String) => do
      if l.startsWith "~" then
        let i := Lean.mkIdent (l.drop 1).toString.toName
        `(Lean.Parser.Tactic.simpLemma| ↓ $i:term)
      else
        let i := Lean.mkIdent l.toName
        `(Lean.Parser.Tactic.simpLemma| $i:term)
    `(tactic| (try simp (disch := first | assumption | omega | decide | (simp only [List.length_cons, List.length_nil, List.length_append, List.length_map, List.length_range, rangeD_len, size_def]; omega) | (simp only [List.length_cons, List.length_nil, List.length_append, List.length_map, List.length_range, rangeD_len, size_def]; decide)) only [$all,*]; try refine withO_i ?_))
  | _ => Lean.Macro.throwUnsupported
section
theorem pot_ok {ns : List Int} {k : Int} (h0 : 0 ≤ k) (h1 : k < 2 ^ 60) : oP (m_law_pot (.scr (ns.map D.int)) (.int k)) (PotOk 0) := by
  have e1 : oP (m_law_pot_j1 (.scr (ns.map D.int)) (.int k) (.int 0)) fun d => ∃ i : Int, d = .int i := by
    unfold m_law_pot_j1
    walk_at "ow"
    refine condK_i (fun h => ?_) fun _ => ⟨0, rfl⟩
    walk_at "ow"
    refine oP_gets (Int.emod_nonneg _ (by omega)) (by simpa using Int.emod_lt_of_pos _ h) fun x hx _ => ?_
    obtain ⟨i, _, rfl⟩ := List.mem_map.mp hx
    exact ⟨i, rfl⟩
  unfold m_law_pot
  walk_at "ow"
  refine oP_mono e1 ?_
  rintro _ ⟨i, rfl⟩
  have sq := sq_bound (n := k.toNat) h0 (by omega) (by omega)
  have a1 : 7919 * k * k = 7919 * (k * k) := Int.mul_assoc _ _ _
  walk_at "ow a1"
  exact ⟨_, _, _, rfl, by split <;> (try split) <;> omega, by omega, by omega, by omega, by omega⟩
theorem take_ok {n : Nat} {p : List D} {m : Int} (h : PotOk n p) (hn : n < 2 ^ 60) (h0 : 0 < m) (h1 : m < 2 ^ 62) :
    oP (m_law_take p (.int m)) fun r => ∃ i : Int, r.1 = .int i ∧ 0 ≤ i ∧ i < m ∧ PotOk (n + 1) r.2 := by
  obtain ⟨a, b, c, rfl, ha, hb, hb2, hc, hc2⟩ := h
  have sq := sq_bound (n := n + 1) (c := c + 1) (by omega) (by omega) (by omega)
  have a1 : 65537 * (c + 1) * (c + 1) = 65537 * ((c + 1) * (c + 1)) := Int.mul_assoc _ _ _
  unfold m_law_take
  walk_at "ow a1"
  refine condK_i (fun h => ?_) fun h => ?_
  · walk_at "ow"
    exact ⟨_, rfl, Int.emod_nonneg _ (by omega), Int.emod_lt_of_pos _ h0, _, _, _, rfl, Int.ediv_nonneg ha (by omega), hb, hb2, hc, by omega⟩
  · walk_at "ow a1"
    exact ⟨_, rfl, Int.emod_nonneg _ (by omega), Int.emod_lt_of_pos _ h0, _, _, _, rfl, ha, hb, hb2, by omega, by omega⟩
end
section
section
variable {α : Type}
end
end
section
def prodI : List Int → Int
  | [] => 1
  | n :: ns => n * prodI ns
theorem prodI_app (a b : List Int) : prodI (a ++ b) = prodI a * prodI b := by
  induction a with
  | nil => simp [prodI]
  | cons n a ih => simp only [List.cons_append, prodI, ih, Int.mul_assoc]
theorem prodI_pos {ns : List Int} (h : ∀ n ∈ ns, 2 ≤ n) : 1 ≤ prodI ns := by
  induction ns with
  | nil => decide
  | cons n ns ih =>
    have h1 := h n List.mem_cons_self
    have h2 := ih fun x hx => h x (List.mem_cons_of_mem _ hx)
    have := Int.mul_le_mul h1 h2 (by decide) (by omega)
    show 1 ≤ n * prodI ns
    omega
theorem prodI_mem {ns : List Int} (h : ∀ n ∈ ns, 2 ≤ n) : ∀ n ∈ ns, n ≤ prodI ns := by
  induction ns with
  | nil => exact fun _ h => nomatch h
  | cons a ns ih =>
    have ha := h a List.mem_cons_self
    have hs := fun x hx => h x (List.mem_cons_of_mem a hx)
    have hp := prodI_pos hs
    intro n hn
    rcases List.mem_cons.mp hn with rfl | hn
    · have := Int.mul_le_mul_of_nonneg_left hp (show 0 ≤ n by omega)
      show n ≤ n * prodI ns
      omega
    · have h1 := ih hs n hn
      have := Int.mul_le_mul_of_nonneg_right (show 1 ≤ a by omega) (show 0 ≤ prodI ns by omega)
      show n ≤ a * prodI ns
      omega
structure Rings (most : Int) (ns : List Int) : Prop where
  len : ns.length ≤ 4
  ne : 1 ≤ ns.length
  two : ∀ n ∈ ns, 2 ≤ n
  prod : prodI ns ≤ most
theorem Rings.le {most : Int} {ns : List Int} (h : Rings most ns) : ∀ n ∈ ns, n ≤ most := fun n hn => Int.le_trans (prodI_mem h.two n hn) h.prod
def tupI (ns : List Int) : D := .tup (ns.map D.int)
theorem tupI_nice (ns : List Int) : D.nice 1 (tupI ns) = true := nice_tup.mpr ⟨0, rfl, fun x hx => by
  obtain ⟨t, _, rfl⟩ := List.mem_map.mp hx
  rfl⟩
/-- a spot of these rings -/
def Spot (rs sp : List Int) : Prop := sp.length = rs.length ∧ ∀ p ∈ sp.zip rs, 0 ≤ p.1 ∧ p.1 < p.2
end
section
end
section
theorem foldX_flat {α : Type} {step : List D → D → Option (List D)} (e : α → D) (g : α → List D) : ∀ (xs : List α) (acc : List D), acc.length + (xs.flatMap g).length ≤ sizeLine → (∀ acc x, x ∈ xs → acc.length + (g x).length ≤ sizeLine → step acc (e x) = some (acc ++ g x)) → foldX step (xs.map e) acc = some (acc ++ xs.flatMap g)
  | [], acc, _, _ => by simp [foldX]
  | x :: xs, acc, hl, h => by
    rw [List.flatMap_cons, List.length_append] at hl
    rw [List.map_cons, foldX, h acc x List.mem_cons_self (by omega)]
    show foldX step (xs.map e) (acc ++ g x) = _
    rw [foldX_flat e g xs (acc ++ g x) (by rw [List.length_append]; omega) fun acc y hy => h acc y (List.mem_cons_of_mem _ hy), List.flatMap_cons, List.append_assoc]
def longer (n : Int) (s : List Int) : List (List Int) := (List.range n.toNat).map fun (x : Nat) => s ++ [(x : Int)]
def stepL (A : List (List Int)) (n : Int) : List (List Int) := A.flatMap (longer n)
def spotsL (rs : List Int) : List (List Int) := rs.foldl stepL [[]]
theorem longer_len (n : Int) (s : List Int) : (longer n s).length = n.toNat := by simp [longer]
theorem stepL_len (A : List (List Int)) (n : Int) : (stepL A n).length = A.length * n.toNat := by
  unfold stepL
  induction A with
  | nil => simp
  | cons a A ih => rw [List.flatMap_cons, List.length_append, ih, longer_len, List.length_cons, Nat.succ_mul]; omega
theorem foldl_len {rs : List Int} (h : ∀ n ∈ rs, 0 ≤ n) : ∀ A : List (List Int), ((rs.foldl stepL A).length : Int) = A.length * prodI rs := by
  induction rs with
  | nil => intro A; simp [prodI]
  | cons n rs ih =>
    intro A
    have hn := h n List.mem_cons_self
    rw [List.foldl_cons, ih (fun x hx => h x (List.mem_cons_of_mem _ hx)), stepL_len]
    show ((A.length * n.toNat : Nat) : Int) * prodI rs = A.length * (n * prodI rs)
    rw [Int.natCast_mul, show ((n.toNat : Nat) : Int) = n by omega, Int.mul_assoc]
theorem spotsL_len {rs : List Int} (h : ∀ n ∈ rs, 0 ≤ n) : ((spotsL rs).length : Int) = prodI rs := by
  unfold spotsL
  rw [foldl_len h]
  simp
theorem c3_ok (f : D → D → Option D) (hf : ∀ v d, f v d = (addX v (.tup [d])).bind fun t => some t) {n : Int} (h0 : 0 ≤ n) (h1 : n.toNat ≤ sizeLine) {s : List Int} (hs : s.length < sizeLine) :
    mapX (f (tupI s)) (rangeD 0 1 n.toNat) = some ((longer n s).map tupI) := by
  rw [range0_eq, mapX_map (fun i : Nat => D.int i) (fun i : Nat => tupI (s ++ [(i : Int)])) (List.range n.toNat) (by rw [List.length_range]; exact h1) fun x hx => ?_]
  · unfold longer
    rw [List.map_map]; rfl
  · rw [hf]
    have : addX (tupI s) (.tup [.int x]) = some (.tup (s.map D.int ++ [.int x])) := addX_tup (by rw [List.length_map, List.length_singleton]; omega)
    rw [this]
    show some (D.tup _) = some (tupI _)
    unfold tupI
    rw [List.map_append]; rfl
theorem step_ok (f2 : D → List D → D → Option (List D)) (hf : ∀ (n : Int) (acc : List D) (s : List Int), 0 ≤ n → n < 2 ^ 40 → n.toNat ≤ sizeLine → s.length < sizeLine → acc.length + n.toNat ≤ sizeLine → f2 (.int n) acc (tupI s) = some (acc ++ (longer n s).map tupI))
    {n : Int} (h0 : 0 ≤ n) (h1 : n < 2 ^ 40) (h2 : n.toNat ≤ sizeLine) {A : List (List Int)} (hA : ∀ s ∈ A, s.length < sizeLine) (hl : A.length * n.toNat ≤ sizeLine) : foldX (f2 (.int n)) (A.map tupI) [] = some ((stepL A n).map tupI) := by
  have e : (A.flatMap fun s => (longer n s).map tupI) = (stepL A n).map tupI := by
    unfold stepL
    rw [List.map_flatMap]
  rw [foldX_flat tupI (fun s => (longer n s).map tupI) A [] (by rw [e, List.length_map, stepL_len]; simpa using hl) fun acc s hs hl => by
    rw [List.length_map, longer_len] at hl
    exact hf n acc s h0 h1 h2 (hA s hs) hl]
  rw [List.nil_append, e]
theorem all_steps (f1 : D → D → Option D) (hf : ∀ (n : Int) (A : List (List Int)), 0 ≤ n → n < 2 ^ 40 → n.toNat ≤ sizeLine → (∀ s ∈ A, s.length < sizeLine) → A.length * n.toNat ≤ sizeLine → f1 (.lst (A.map tupI)) (.int n) = some (.lst ((stepL A n).map tupI))) :
    ∀ {rs : List Int} {A : List (List Int)} {k : Nat}, 1 ≤ A.length → (∀ n ∈ rs, 2 ≤ n) → (∀ s ∈ A, s.length = k) → k + rs.length < 1000 → A.length * prodI rs ≤ 2 ^ 20 → foldX f1 (rs.map D.int) (.lst (A.map tupI)) = some (.lst ((rs.foldl stepL A).map tupI))
  | [], A, k, _, _, _, _, _ => rfl
  | n :: rs, A, k, hA1, h, hA, hk, hl => by
    have hn := h n List.mem_cons_self
    have hr := fun x hx => h x (List.mem_cons_of_mem n hx)
    have hp := prodI_pos hr
    have e1 : (A.length : Int) * (n * prodI rs) ≤ 2 ^ 20 := hl
    have e2 : ((A.length * n.toNat : Nat) : Int) * prodI rs ≤ 2 ^ 20 := by
      rw [Int.natCast_mul, show ((n.toNat : Nat) : Int) = n by omega, Int.mul_assoc]; exact e1
    have e3 : ((A.length * n.toNat : Nat) : Int) ≤ 2 ^ 20 := by
      have := Int.mul_le_mul_of_nonneg_left hp (show 0 ≤ ((A.length * n.toNat : Nat) : Int) by omega)
      omega
    have sz := size_def
    rw [List.length_cons] at hk
    have e4 : n.toNat ≤ A.length * n.toNat := Nat.le_mul_of_pos_left _ hA1
    rw [List.map_cons, foldX, hf n A (by omega) (by omega) (by omega) (fun s hs => by have := hA s hs; omega) (by omega)]
    show foldX f1 (rs.map D.int) (.lst ((stepL A n).map tupI)) = _
    rw [all_steps f1 hf (k := k + 1) (by rw [stepL_len]; omega) hr (fun s hs => by
      obtain ⟨a, ha, hs⟩ := List.mem_flatMap.mp hs
      obtain ⟨x, _, rfl⟩ := List.mem_map.mp hs
      rw [List.length_append, hA a ha]; rfl) (by omega) (by rw [stepL_len]; exact e2)]
    rfl
theorem spots_f2 (n : Int) (acc : List D) (s : List Int) (h0 : 0 ≤ n) (h1 : n < 2 ^ 40) (h2 : n.toNat ≤ sizeLine) (h3 : s.length < sizeLine) (h4 : acc.length + n.toNat ≤ sizeLine) : m_spots_f2 (.int n) acc (tupI s) = some (acc ++ (longer n s).map tupI) := by
  unfold m_spots_f2
  have e := c3_ok m_spots_c3 (fun _ _ => rfl) h0 h2 h3
  have e2 : extX acc ((longer n s).map tupI) = some (acc ++ (longer n s).map tupI) := extX_ok (by rw [List.length_map, longer_len]; exact h4)
  walk_at "xs e e2"
theorem spots_ok {rs : List Int} (h : ∀ n ∈ rs, 2 ≤ n) (hl : rs.length < 1000) (hp : prodI rs ≤ 2 ^ 20) : m_spots (tupI rs) = some (.tup ((spotsL rs).map tupI)) := by
  unfold m_spots
  have e := all_steps m_spots_f1 (fun n A h0 h1 h2 h3 h4 => by
    unfold m_spots_f1
    have e := step_ok m_spots_f2 spots_f2 h0 h1 h2 h3 h4
    walk_at "xs e") (rs := rs) (A := [[]]) (k := 0) (by simp) h (fun s hs => by simp at hs; rw [hs]; rfl) (by omega) (by simpa using hp)
  have e0 : itX (tupI rs) = some (rs.map D.int) := rfl
  have e1 : (D.lst [D.tup []]) = .lst ([[]].map tupI) := rfl
  rw [e0, e1]
  walk_at "xs e"
  rfl
/-- a thing that may be looked at -/
def Lk (d : D) : Prop := (∃ n, D.nice n d = true) ∨ ∃ k l, d = .dct k l
theorem Lk.tup {l : List D} (h : Lk (.tup l)) : ∃ n, ∀ x ∈ l, D.nice n x = true := by
  rcases h with ⟨n, h⟩ | ⟨k, m, e⟩
  · obtain ⟨m, _, h⟩ := nice_tup.mp h
    exact ⟨m, h⟩
  · cases e
theorem lenX_tupI (rs : List Int) : lenX (tupI rs) = some (.int rs.length) := by unfold tupI; rw [lenX_tup, List.length_map]
end
section
def plusL : List Int → List Int → List Int → List Int
  | r :: rs, a :: as, b :: bs => (a + b) % r :: plusL rs as bs
  | _, _, _ => []
def minusL : List Int → List Int → List Int → List Int
  | r :: rs, a :: as, b :: bs => (a - b) % r :: minusL rs as bs
  | _, _, _ => []
theorem spot_nil : Spot [] [] := ⟨rfl, fun _ h => by simp at h⟩
theorem spot_cons {r a : Int} {rs as : List Int} : Spot (r :: rs) (a :: as) ↔ (0 ≤ a ∧ a < r) ∧ Spot rs as := by
  constructor
  · rintro ⟨h1, h2⟩
    exact ⟨h2 (a, r) (by simp), by simpa using h1, fun p hp => h2 p (by rw [List.zip_cons_cons]; exact List.mem_cons_of_mem _ hp)⟩
  · rintro ⟨⟨h1, h2⟩, h3, h4⟩
    refine ⟨by simp [h3], fun p hp => ?_⟩
    rw [List.zip_cons_cons] at hp
    rcases List.mem_cons.mp hp with rfl | hp
    · exact ⟨h1, h2⟩
    · exact h4 p hp
theorem Spot.len {rs a : List Int} (h : Spot rs a) : a.length = rs.length := h.1
/-- two spots walked together -/
theorem spot_ind2 {P : List Int → List Int → List Int → Prop} (h0 : P [] [] []) (h1 : ∀ r a b rs as bs, 0 ≤ a → a < r → 0 ≤ b → b < r → Spot rs as → Spot rs bs → P rs as bs → P (r :: rs) (a :: as) (b :: bs)) : ∀ {rs as bs}, Spot rs as → Spot rs bs → P rs as bs
  | [], [], [], _, _ => h0
  | [], a :: as, _, h, _ => by have := h.1; simp at this
  | [], [], b :: bs, _, h => by have := h.1; simp at this
  | r :: rs, [], _, h, _ => by have := h.1; simp at this
  | r :: rs, a :: as, [], _, h => by have := h.1; simp at this
  | r :: rs, a :: as, b :: bs, h, h' => by
    obtain ⟨⟨x, y⟩, z⟩ := spot_cons.mp h
    obtain ⟨⟨x', y'⟩, z'⟩ := spot_cons.mp h'
    exact h1 r a b rs as bs x y x' y' z z' (spot_ind2 h0 h1 z z')
theorem spot_plus {rs a b : List Int} (h : Spot rs a) (h' : Spot rs b) : Spot rs (plusL rs a b) :=
  spot_ind2 (P := fun rs a b => Spot rs (plusL rs a b)) spot_nil (fun r a b rs as bs a0 a1 b0 b1 _ _ ih => spot_cons.mpr ⟨⟨Int.emod_nonneg _ (by omega), Int.emod_lt_of_pos _ (by omega)⟩, ih⟩) h h'
theorem minus_plus {rs a b : List Int} (h : Spot rs a) (h' : Spot rs b) : plusL rs (minusL rs a b) b = a :=
  spot_ind2 (P := fun rs a b => plusL rs (minusL rs a b) b = a) rfl (fun r a b rs as bs a0 a1 b0 b1 _ _ ih => by
    show ((a - b) % r + b) % r :: _ = _
    rw [ih, Int.emod_add_emod, Int.sub_add_cancel, Int.emod_eq_of_lt a0 a1]) h h'
theorem plus_minus {rs a b : List Int} (h : Spot rs a) (h' : Spot rs b) : minusL rs (plusL rs a b) b = a :=
  spot_ind2 (P := fun rs a b => minusL rs (plusL rs a b) b = a) rfl (fun r a b rs as bs a0 a1 b0 b1 _ _ ih => by
    show ((a + b) % r - b) % r :: _ = _
    rw [ih, Int.emod_sub_emod, Int.add_sub_cancel, Int.emod_eq_of_lt a0 a1]) h h'
/-- the data -/
theorem zip3_tupI : ∀ (a b c : List Int), zip3L (a.map D.int) (b.map D.int) (c.map D.int) = ((a.zip (b.zip c)).map fun p => D.tup [.int p.1, .int p.2.1, .int p.2.2])
  | [], _, _ => by simp [zip3L]
  | _ :: _, [], _ => by simp [zip3L]
  | _ :: _, _ :: _, [] => by simp [zip3L]
  | a :: as, b :: bs, c :: cs => by simp [zip3L, zip3_tupI as bs cs]
theorem plusL_zip : ∀ (rs a b : List Int), plusL rs a b = (a.zip (b.zip rs)).map fun p => (p.1 + p.2.1) % p.2.2
  | [], _, _ => by simp [plusL]
  | _ :: _, [], _ => by simp [plusL]
  | _ :: _, _ :: _, [] => by simp [plusL]
  | r :: rs, a :: as, b :: bs => by simp [plusL, plusL_zip rs as bs]
theorem minusL_zip : ∀ (rs a b : List Int), minusL rs a b = (a.zip (b.zip rs)).map fun p => (p.1 - p.2.1) % p.2.2
  | [], _, _ => by simp [minusL]
  | _ :: _, [], _ => by simp [minusL]
  | _ :: _, _ :: _, [] => by simp [minusL]
  | r :: rs, a :: as, b :: bs => by simp [minusL, minusL_zip rs as bs]
theorem itX_tupI (a : List Int) : itX (tupI a) = some (a.map D.int) := rfl
theorem zip3X_tupI (a b c : List Int) : zip3X (tupI a) (tupI b) (tupI c) = some ((a.zip (b.zip c)).map fun p => D.tup [.int p.1, .int p.2.1, .int p.2.2]) := by
  show some (zip3L _ _ _) = _
  rw [zip3_tupI]
theorem zip_len3 {α β γ : Type} (a : List α) (b : List β) (c : List γ) : (a.zip (b.zip c)).length ≤ c.length := by rw [List.length_zip, List.length_zip]; omega
/-- any code that adds place by place -/
theorem plusC {f : D → Option D} (hf : ∀ a b r : Int, 0 < r → f (.tup [.int a, .int b, .int r]) = some (.int ((a + b) % r))) {rs : List Int} (h : ∀ r ∈ rs, 0 < r) (hl : rs.length ≤ sizeLine) (a b : List Int) :
    mapX f ((a.zip (b.zip rs)).map fun p => D.tup [.int p.1, .int p.2.1, .int p.2.2]) = some ((plusL rs a b).map D.int) := by
  rw [mapX_map (fun p : Int × Int × Int => D.tup [.int p.1, .int p.2.1, .int p.2.2]) (fun p => .int ((p.1 + p.2.1) % p.2.2)) _ (by have := zip_len3 a b rs; omega) fun p hp => hf _ _ _ (h _ (List.of_mem_zip (List.of_mem_zip hp).2).2), plusL_zip, List.map_map]
  rfl
theorem minusC {f : D → Option D} (hf : ∀ a b r : Int, 0 < r → f (.tup [.int a, .int b, .int r]) = some (.int ((a - b) % r))) {rs : List Int} (h : ∀ r ∈ rs, 0 < r) (hl : rs.length ≤ sizeLine) (a b : List Int) :
    mapX f ((a.zip (b.zip rs)).map fun p => D.tup [.int p.1, .int p.2.1, .int p.2.2]) = some ((minusL rs a b).map D.int) := by
  rw [mapX_map (fun p : Int × Int × Int => D.tup [.int p.1, .int p.2.1, .int p.2.2]) (fun p => .int ((p.1 - p.2.1) % p.2.2)) _ (by have := zip_len3 a b rs; omega) fun p hp => hf _ _ _ (h _ (List.of_mem_zip (List.of_mem_zip hp).2).2), minusL_zip, List.map_map]
  rfl
theorem plusI_ok {rs : List Int} (h : ∀ r ∈ rs, 0 < r) (hl : rs.length ≤ sizeLine) (a b : List Int) : m_plus (tupI rs) (tupI a) (tupI b) = some (tupI (plusL rs a b)) := by
  have e := plusC (f := m_plus_c1) (fun a b r hr => by unfold m_plus_c1; walk_at "xs") h hl a b
  unfold m_plus
  rw [zip3X_tupI, Option.bind_some, e, Option.bind_some, tupleX_lst, Option.bind_some]
  rfl
theorem py_tupI (a : List Int) : (tupI a).py = .tuple (a.map PyData.int) := by
  show PyData.tuple (D.pyL (a.map D.int)) = _
  congr 1
  induction a with
  | nil => rfl
  | cons x a ih => simp only [List.map_cons, D.pyL, ih]; rfl
theorem dataLt_tupI (a b : List Int) : PySem.W.dataLt (tupI a).py (tupI b).py = decide (a < b) := by
  rw [py_tupI, py_tupI, PySem.W.dataLt_tuple]
  exact PySem.W.dataLt_ints a b
def leS (a b : List Int) : Bool := decide (a ≤ b)
theorem dataLe_tupI (a b : List Int) : PySem.W.dataLe false D.py (tupI a) (tupI b) = leS a b := by
  show (!PySem.W.dataLt (tupI b).py (tupI a).py) = _
  rw [dataLt_tupI]
  unfold leS
  by_cases h : b < a
  · rw [decide_eq_true h, decide_eq_false (by simpa using h)]; rfl
  · rw [decide_eq_false h, decide_eq_true (by simpa using h)]; rfl
def sortS (ls : List (List Int)) : List (List Int) := ls.mergeSort leS
theorem sortD_tupI (ls : List (List Int)) : sortD (ls.map tupI) = (sortS ls).map tupI := by
  unfold sortD sortS
  exact (List.map_mergeSort fun a _ b _ => (dataLe_tupI a b).symm).symm
/-- rising, each once -/
abbrev Ris (ls : List (List Int)) : Prop := ls.Pairwise (· < ·)
theorem sortS_mem {ls : List (List Int)} {s : List Int} : s ∈ sortS ls ↔ s ∈ ls := (List.mergeSort_perm ls leS).mem_iff
theorem sortS_len (ls : List (List Int)) : (sortS ls).length = ls.length := (List.mergeSort_perm ls leS).length_eq
theorem Ris.filter {ls : List (List Int)} (h : Ris ls) (p : List Int → Bool) : Ris (ls.filter p) := List.Pairwise.filter p h
/-- sorted of a list of spots -/
theorem tupI_pl (a : List Int) : (tupI a).pl = true := (D.nice.plain (tupI_nice a)).1
theorem plL_tupI (ls : List (List Int)) : D.plL (ls.map tupI) = true := plL_all fun x hx => by
  obtain ⟨a, _, rfl⟩ := List.mem_map.mp hx
  exact tupI_pl a
theorem sorted_spots {ls : List (List Int)} (h : ∀ s ∈ ls, s ≠ []) (hl : ls.length ≤ sizeLine) : sortedX (.lst (ls.map tupI)) = some ((sortS ls).map tupI) := by
  have ok : SortOk (ls.map tupI) := by
    refine ⟨plL_tupI ls, ?_, .inl fun d hd => ?_, by rw [List.length_map]; exact hl, fun b hb => ?_⟩
    · intro d hd d' hd'
      rw [List.map_map] at hd hd'
      obtain ⟨a, _, rfl⟩ := List.mem_map.mp hd
      obtain ⟨b, _, rfl⟩ := List.mem_map.mp hd'
      show PySem.W.alike (tupI a).py (tupI b).py = true
      rw [py_tupI, py_tupI, PySem.W.alike]
      exact PySem.W.alike_ints a b
    · rw [List.map_map] at hd
      obtain ⟨a, ha, rfl⟩ := List.mem_map.mp hd
      show ∃ x r, (tupI a).py = _
      rw [py_tupI]
      cases a with
      | nil => exact absurd rfl (h _ ha)
      | cons x a => exact ⟨_, _, rfl⟩
    · obtain ⟨a, _, rfl⟩ := List.mem_map.mp hb
      have := (D.nice.plain (tupI_nice a)).2.1
      omega
  show (open Classical in if SortOk (ls.map tupI) then some (sortD (ls.map tupI)) else none) = _
  rw [if_pos ok, sortD_tupI]
theorem spotsL_mem_aux : ∀ (rs : List Int) (A : List (List Int)) (s : List Int), s ∈ rs.foldl stepL A ↔ ∃ a ∈ A, ∃ u, s = a ++ u ∧ Spot rs u
  | [], A, s => by
    constructor
    · intro h; exact ⟨s, h, [], by simp, spot_nil⟩
    · rintro ⟨a, ha, u, rfl, hu⟩
      cases u with
      | nil => simpa using ha
      | cons x u => have := hu.1; simp at this
  | r :: rs, A, s => by
    rw [List.foldl_cons, spotsL_mem_aux rs]
    constructor
    · rintro ⟨a, ha, u, rfl, hu⟩
      obtain ⟨b, hb, ha⟩ := List.mem_flatMap.mp ha
      obtain ⟨x, hx, rfl⟩ := List.mem_map.mp ha
      have hx := List.mem_range.mp hx
      exact ⟨b, hb, (x : Int) :: u, by simp, spot_cons.mpr ⟨⟨by omega, by omega⟩, hu⟩⟩
    · rintro ⟨a, ha, u, rfl, hu⟩
      cases u with
      | nil => have := hu.1; simp at this
      | cons x u =>
        obtain ⟨⟨h1, h2⟩, h3⟩ := spot_cons.mp hu
        refine ⟨a ++ [x], List.mem_flatMap.mpr ⟨a, ha, List.mem_map.mpr ⟨x.toNat, List.mem_range.mpr (by omega), ?_⟩⟩, u, by simp, h3⟩
        rw [show ((x.toNat : Nat) : Int) = x by omega]
theorem spotsL_mem {rs s : List Int} : s ∈ spotsL rs ↔ Spot rs s := by
  unfold spotsL
  rw [spotsL_mem_aux]
  constructor
  · rintro ⟨a, ha, u, rfl, hu⟩
    simp at ha; subst ha; exact hu
  · intro h
    exact ⟨[], by simp, s, by simp, h⟩
theorem Spot.ne {rs s : List Int} (h : Spot rs s) (hr : 1 ≤ rs.length) : s ≠ [] := by
  rintro rfl
  have := h.1
  simp at this
  omega
theorem keys_ints : ∀ a : List Int, D.keys? (a.map D.int) = some (a.map Sum.inl)
  | [] => rfl
  | x :: a => by
    show (match (D.int x).key? with | some k => (D.keys? (a.map D.int)).map (k :: ·) | none => none) = _
    rw [keys_ints a]; rfl
theorem keq_tupI (a b : List Int) : keq (tupI a) (tupI b) = decide (a = b) := by
  show decide (D.keys? (a.map D.int) = D.keys? (b.map D.int)) = _
  rw [keys_ints, keys_ints]
  by_cases h : a = b
  · rw [decide_eq_true h, h, decide_eq_true rfl]
  · rw [decide_eq_false h, decide_eq_false]
    intro e
    refine h ?_
    have e := Option.some.inj e
    exact (List.map_inj_right (fun x y e => Sum.inl.inj e)).mp e
theorem isKey_tupI (a : List Int) : D.isKey .t (tupI a) = true := by
  show (D.keys? (a.map D.int)).isSome = true
  rw [keys_ints]; rfl
/-- the pairs of a dict from spots -/
def dctS {α : Type} (e : α → D) (l : List (List Int × α)) : List (D × D) := l.map fun p => (tupI p.1, e p.2)
def putS {α : Type} (l : List (List Int × α)) (k : List Int) (v : α) : List (List Int × α) := if (l.any fun p => decide (p.1 = k)) = true then l.map (fun p => if p.1 = k then (p.1, v) else p) else l ++ [(k, v)]
def getS {α : Type} (l : List (List Int × α)) (k : List Int) : Option α := (l.find? fun p => decide (p.1 = k)).map (·.2)
section
variable {α : Type} {e : α → D}
theorem put_S (l : List (List Int × α)) (k : List Int) (v : α) : putD (dctS e l) (tupI k) (e v) = dctS e (putS l k v) := by
  unfold putD putS dctS
  rw [List.any_map]
  have h : ((fun p : D × D => keq p.1 (tupI k)) ∘ fun p : List Int × α => (tupI p.1, e p.2)) = fun p => decide (p.1 = k) := by
    funext p
    exact keq_tupI p.1 k
  rw [h]
  split
  · rw [List.map_map, List.map_map]
    congr 1
    funext p
    show (if keq (tupI p.1) (tupI k) = true then _ else _) = (fun p : List Int × α => (tupI p.1, e p.2)) (if p.1 = k then (p.1, v) else p)
    rw [keq_tupI]
    by_cases z : p.1 = k
    · rw [if_pos (decide_eq_true z), if_pos z]
    · rw [if_neg (by simpa using z), if_neg z]
  · rw [List.map_append]; rfl
theorem look_S (l : List (List Int × α)) (k : List Int) : lookD (dctS e l) (tupI k) = (getS l k).map e := by
  unfold lookD getS dctS
  rw [List.find?_map]
  have h : ((fun p : D × D => keq p.1 (tupI k)) ∘ fun p : List Int × α => (tupI p.1, e p.2)) = fun p => decide (p.1 = k) := by
    funext p
    exact keq_tupI p.1 k
  rw [h, Option.map_map, Option.map_map]
  rfl
theorem getS_isSome (l : List (List Int × α)) (k : List Int) : (getS l k).isSome = decide (k ∈ l.map (·.1)) := by
  unfold getS
  rw [Option.isSome_map]
  by_cases h : k ∈ l.map (·.1)
  · rw [decide_eq_true h]
    obtain ⟨p, hp, e⟩ := List.mem_map.mp h
    exact List.find?_isSome.mpr ⟨p, hp, decide_eq_true e⟩
  · rw [decide_eq_false h]
    refine Bool.eq_false_iff.mpr fun z => ?_
    obtain ⟨p, hp, z⟩ := List.find?_isSome.mp z
    exact h (List.mem_map.mpr ⟨p, hp, of_decide_eq_true z⟩)
theorem putS_keys (l : List (List Int × α)) (k : List Int) (v : α) (s : List Int) : s ∈ (putS l k v).map (·.1) ↔ s ∈ l.map (·.1) ∨ s = k := by
  unfold putS
  split
  · rename_i h
    rw [List.map_map]
    have e : ((fun x : List Int × α => x.1) ∘ fun p => if p.1 = k then (p.1, v) else p) = fun p => p.1 := by
      funext p
      show (if p.1 = k then (p.1, v) else p).1 = p.1
      split <;> rfl
    rw [e]
    obtain ⟨p, hp, z⟩ := List.any_eq_true.mp h
    constructor
    · exact .inl
    · rintro (h | rfl)
      · exact h
      · exact List.mem_map.mpr ⟨p, hp, of_decide_eq_true z⟩
  · rw [List.map_append, List.mem_append]
    simp
/-- dict([(spot, v), ..]) -/
theorem dictTX_S (l : List (List Int × α)) (hl : l.length ≤ sizeLine) : dictTX (.lst (l.map fun p => .tup [tupI p.1, e p.2])) = some (dctS e (l.foldl (fun acc p => putS acc p.1 p.2) [])) := by
  have a : (l.map fun p => D.tup [tupI p.1, e p.2]).all pairT = true := by
    rw [List.all_eq_true]
    intro x hx
    obtain ⟨p, _, rfl⟩ := List.mem_map.mp hx
    exact isKey_tupI p.1
  show (if (l.map fun p => D.tup [tupI p.1, e p.2]).all pairT = true ∧ (l.map fun p => D.tup [tupI p.1, e p.2]).length ≤ sizeLine then some _ else none) = _
  rw [if_pos ⟨a, by rw [List.length_map]; exact hl⟩]
  congr 1
  have : ∀ acc : List (List Int × α), (l.map fun p => D.tup [tupI p.1, e p.2]).foldl putP (dctS e acc) = dctS e (l.foldl (fun acc p => putS acc p.1 p.2) acc) := by
    clear a hl
    induction l with
    | nil => intro acc; rfl
    | cons p l ih =>
      intro acc
      rw [List.map_cons, List.foldl_cons, List.foldl_cons]
      show List.foldl putP (putD (dctS e acc) (tupI p.1) (e p.2)) _ = _
      rw [put_S, ih]
  exact this []
theorem foldS_keys (l : List (List Int × α)) (s : List Int) : ∀ acc : List (List Int × α), s ∈ (l.foldl (fun acc p => putS acc p.1 p.2) acc).map (·.1) ↔ s ∈ acc.map (·.1) ∨ s ∈ l.map (·.1) := by
  induction l with
  | nil => intro acc; simp
  | cons p l ih =>
    intro acc
    rw [List.foldl_cons, ih, putS_keys, List.map_cons, List.mem_cons]
    constructor
    · rintro ((h | h) | h)
      · exact .inl h
      · exact .inr (.inl h)
      · exact .inr (.inr h)
    · rintro (h | h | h)
      · exact .inl (.inl h)
      · exact .inl (.inr h)
      · exact .inr h
theorem inX_S (l : List (List Int × α)) (k : List Int) : inX (tupI k) (.dct .t (dctS e l)) = some (decide (k ∈ l.map (·.1))) := by
  show (if D.isKey .t (tupI k) = true then some (lookD (dctS e l) (tupI k)).isSome else none) = _
  rw [if_pos (isKey_tupI k), look_S, Option.isSome_map, getS_isSome]
end
/-- dict([(spot, True) for spot in ..]), and whether a spot is in it -/
def seenS (ls : List (List Int)) : List (D × D) := dctS D.bl ((ls.map fun s => (s, true)).foldl (fun acc p => putS acc p.1 p.2) [])
theorem dict_seen {ls : List (List Int)} (hl : ls.length ≤ sizeLine) : dictTX (.lst (ls.map fun s => .tup [tupI s, .bl true])) = some (seenS ls) := by
  have := dictTX_S (e := D.bl) (ls.map fun s => (s, true)) (by rw [List.length_map]; exact hl)
  rw [List.map_map] at this
  exact this
theorem in_seen (ls : List (List Int)) (k : List Int) : inX (tupI k) (.dct .t (seenS ls)) = some (decide (k ∈ ls)) := by
  unfold seenS
  rw [inX_S]
  congr 1
  have := foldS_keys (ls.map fun s => (s, true)) k []
  rw [List.map_map] at this
  have e : ((fun x : List Int × Bool => x.1) ∘ fun s => (s, true)) = id := rfl
  rw [e, List.map_id] at this
  simp only [List.map_nil, List.not_mem_nil, false_or] at this
  exact decide_eq_decide.mpr this
def setD (ls : List (List Int)) : D := .tup (ls.map tupI)
def eS : Enc (List Int) := encT encI
theorem pyEq_tupI (a b : List Int) : pyEq (tupI a) (tupI b) = decide (a = b) := eS.eqb a b
theorem memD_tupI (s : List Int) (ls : List (List Int)) : memD (tupI s) (ls.map tupI) = decide (s ∈ ls) := by
  unfold memD
  rw [List.any_map]
  have h : ((fun y => pyEq y (tupI s)) ∘ tupI) = fun a => decide (a = s) := by
    funext a
    exact pyEq_tupI a s
  rw [h]
  by_cases z : s ∈ ls
  · rw [decide_eq_true z]; exact List.any_eq_true.mpr ⟨s, z, decide_eq_true rfl⟩
  · rw [decide_eq_false z]
    refine List.any_eq_false.mpr fun a ha => ?_
    simp only [decide_eq_true_eq]
    rintro rfl; exact z ha
theorem in_setD (s : List Int) (ls : List (List Int)) : inX (tupI s) (setD ls) = some (decide (s ∈ ls)) := by
  unfold setD
  rw [inX_tup (tupI_nice s) (by decide) fun y hy => by
    obtain ⟨a, _, rfl⟩ := List.mem_map.mp hy
    exact tupI_pl a, memD_tupI]
theorem setD_nice (ls : List (List Int)) : D.nice 2 (setD ls) = true := nice_tup.mpr ⟨1, rfl, fun x hx => by
  obtain ⟨a, _, rfl⟩ := List.mem_map.mp hx
  exact tupI_nice a⟩
theorem tupI_ib {a : List Int} (h : ∀ x ∈ a, x.natAbs < 10 ^ 40) : (tupI a).ib = true := ibL_of fun x hx => by
  obtain ⟨t, ht, rfl⟩ := List.mem_map.mp hx
  exact decide_eq_true (h t ht)
theorem tupI_rc (a : List Int) : (tupI a).rc ≤ a.length * 47 + 3 := by
  have := rcL_le (l := a.map D.int) (c := 45) fun x hx => by
    obtain ⟨t, ht, rfl⟩ := List.mem_map.mp hx
    exact Nat.le_refl _
  rw [List.length_map] at this
  show D.rcL _ + 3 ≤ _
  omega
theorem setD_ib {ls : List (List Int)} (h : ∀ s ∈ ls, ∀ x ∈ s, x.natAbs < 10 ^ 40) : (setD ls).ib = true := ibL_of fun x hx => by
  obtain ⟨t, ht, rfl⟩ := List.mem_map.mp hx
  exact tupI_ib (h t ht)
theorem setD_rc {ls : List (List Int)} {k : Nat} (h : ∀ s ∈ ls, s.length ≤ k) : (setD ls).rc ≤ ls.length * (k * 47 + 5) + 3 := by
  have := rcL_le (l := ls.map tupI) (c := k * 47 + 3) fun x hx => by
    obtain ⟨t, ht, rfl⟩ := List.mem_map.mp hx
    have := tupI_rc t
    have := Nat.mul_le_mul_right 47 (h t ht)
    omega
  rw [List.length_map, show k * 47 + 3 + 2 = k * 47 + 5 by omega] at this
  show D.rcL _ + 3 ≤ _
  omega
end
section
theorem one_le_mul {a b : Int} (h : 1 ≤ a) (h' : 1 ≤ b) : a ≤ a * b ∧ b ≤ a * b ∧ 1 ≤ a * b := by
  have h1 := Int.mul_le_mul_of_nonneg_left h' (show 0 ≤ a by omega)
  have h2 := Int.mul_le_mul_of_nonneg_right h (show 0 ≤ b by omega)
  rw [Int.mul_one] at h1
  rw [Int.one_mul] at h2
  exact ⟨h1, h2, by omega⟩
theorem prodI_one {ns : List Int} (h : ∀ n ∈ ns, 1 ≤ n) : 1 ≤ prodI ns := by
  induction ns with
  | nil => decide
  | cons n ns ih => exact (one_le_mul (h n List.mem_cons_self) (ih fun x hx => h x (List.mem_cons_of_mem _ hx))).2.2
theorem size_fold : ∀ (rs : List Int) (p : Int), 1 ≤ p → (∀ r ∈ rs, 1 ≤ r) → p * prodI rs < 2 ^ 200 → foldX m_law_size_f1 (rs.map D.int) (.int p) = some (.int (p * prodI rs))
  | [], p, _, _, _ => by
    show some (D.int p) = some (D.int (p * 1))
    rw [Int.mul_one]
  | r :: rs, p, hp, h, hb => by
    have hr := h r List.mem_cons_self
    have hs := fun x hx => h x (List.mem_cons_of_mem r hx)
    have hP := prodI_one hs
    have hb' : p * r * prodI rs < 2 ^ 200 := by rw [Int.mul_assoc]; exact hb
    have h1 := one_le_mul hp hr
    have h2 := one_le_mul h1.2.2 hP
    rw [List.map_cons, foldX]
    have e : m_law_size_f1 (.int p) (.int r) = some (.int (p * r)) := by
      unfold m_law_size_f1
      rw [mulX_i (by omega) (by omega)]
      rfl
    rw [e]
    show foldX m_law_size_f1 (rs.map D.int) (.int (p * r)) = _
    rw [size_fold rs (p * r) h1.2.2 hs hb', Int.mul_assoc]
    rfl
theorem size_ok {rs : List Int} (h : ∀ r ∈ rs, 1 ≤ r) (hp : prodI rs < 2 ^ 200) : m_law_size (tupI rs) = some (.int (prodI rs)) := by
  have e := size_fold rs 1 (Int.le_refl _) h (by omega)
  rw [Int.one_mul] at e
  unfold m_law_size
  rw [itX_tupI, Option.bind_some, e]
  rfl
theorem board_f2 (n : Int) (acc : List D) (s : List Int) (h0 : 0 ≤ n) (h1 : n < 2 ^ 40) (h2 : n.toNat ≤ sizeLine) (h3 : s.length < sizeLine) (h4 : acc.length + n.toNat ≤ sizeLine) : m_law_board_f2 (.int n) acc (tupI s) = some (acc ++ (longer n s).map tupI) := by
  unfold m_law_board_f2
  have e := c3_ok m_law_board_c3 (fun _ _ => rfl) h0 h2 h3
  have e2 : extX acc ((longer n s).map tupI) = some (acc ++ (longer n s).map tupI) := extX_ok (by rw [List.length_map, longer_len]; exact h4)
  walk_at "xs e e2"
theorem board_ok {rs : List Int} (h : ∀ n ∈ rs, 2 ≤ n) (hl : rs.length < 1000) (hp : prodI rs ≤ 2 ^ 20) : m_law_board (tupI rs) = some (.lst ((spotsL rs).map tupI)) := by
  unfold m_law_board
  have e := all_steps m_law_board_f1 (fun n A h0 h1 h2 h3 h4 => by
    unfold m_law_board_f1
    have e := step_ok m_law_board_f2 board_f2 h0 h1 h2 h3 h4
    walk_at "xs e") (rs := rs) (A := [[]]) (k := 0) (by simp) h (fun s hs => by simp at hs; rw [hs]; rfl) (by omega) (by simpa using hp)
  have e1 : (D.lst [D.tup []]) = .lst ([[]].map tupI) := rfl
  rw [itX_tupI, e1]
  walk_at "xs e"
  rfl
def knownR : List (List Int) := [[7], [13], [11], [15], [4, 4], [3, 5], [2, 2, 2, 2], [2, 8], [16], [2, 2, 4], [3, 3], [2, 2, 2]]
theorem rings_c1 {most : Int} {rs : List Int} (h : ∀ r ∈ rs, 1 ≤ r) (hp : prodI rs < 2 ^ 200) : m_law_rings_c1 (.int most) (tupI rs) = some (if decide (prodI rs ≤ most) = true then some (tupI rs) else none) := by
  have e := size_ok h hp
  unfold m_law_rings_c1
  rw [e, Option.bind_some, leX_i, Option.bind_some]
  by_cases z : prodI rs ≤ most
  · rw [decide_eq_true z]; rfl
  · rw [decide_eq_false z]; rfl
theorem Rings.mono {m n : Int} {rs : List Int} (h : Rings m rs) (l : m ≤ n) : Rings n rs := ⟨h.len, h.ne, h.two, Int.le_trans h.prod l⟩
theorem rings_known : ∀ rs ∈ knownR, (∀ r ∈ rs, 2 ≤ r) ∧ rs.length ≤ 4 ∧ 1 ≤ rs.length ∧ prodI rs ≤ 16 := by decide
theorem brings_ok {n : Nat} {p : List D} (hp : PotOk n p) (hn : n < 2 ^ 50) {most : Int} (h0 : 7 ≤ most) (h1 : most < 2 ^ 40) : oP (m_law_rings p (.int most)) fun r => ∃ rs, r.1 = tupI rs ∧ Rings most rs ∧ PotOk (n + 20) r.2 := by
  have ek := fmapX_map (f := m_law_rings_c1 (.int most)) tupI (fun rs => decide (prodI rs ≤ most)) tupI knownR (by rw [size_def]; decide) fun rs hr => by
    obtain ⟨k1, k2, k3, k4⟩ := rings_known rs hr
    exact rings_c1 (fun r hr => by have := k1 r hr; omega) (by omega)
  have ek : fmapX (m_law_rings_c1 (.int most)) [D.tup [.int 7], .tup [.int 13], .tup [.int 11], .tup [.int 15], .tup [.int 4, .int 4], .tup [.int 3, .int 5], .tup [.int 2, .int 2, .int 2, .int 2], .tup [.int 2, .int 8], .tup [.int 16], .tup [.int 2, .int 2, .int 4], .tup [.int 3, .int 3], .tup [.int 2, .int 2, .int 2]] = some ((knownR.filter fun rs => decide (prodI rs ≤ most)).map tupI) := ek
  have kne : 0 < (knownR.filter fun rs => decide (prodI rs ≤ most)).length := List.length_pos_of_mem (a := [7]) (List.mem_filter.mpr ⟨by decide, decide_eq_true (by show (7 : Int) * 1 ≤ most; omega)⟩)
  have kle : (knownR.filter fun rs => decide (prodI rs ≤ most)).length ≤ 12 := List.length_filter_le _ _
  unfold m_law_rings
  rw [ek, Option.bind_some]
  walk_at "ow"
  refine oP_mono (take_ok hp (by omega) (by decide) (by decide)) ?_
  rintro ⟨_, p1⟩ ⟨i, rfl, i0, i1, hp1⟩
  walk_at "ow"
  refine condK_i (fun z => ?_) fun z => ?_
  · walk_at "ow"
    refine oP_mono (take_ok hp1 (by omega) (by omega) (by omega)) ?_
    rintro ⟨_, p2⟩ ⟨j, rfl, j0, j1, hp2⟩
    walk_at "ow"
    refine oP_getl j0 (by simpa using j1) fun x hx _ => ?_
    obtain ⟨rs, hr, rfl⟩ := List.mem_map.mp hx
    obtain ⟨hr, hd⟩ := List.mem_filter.mp hr
    obtain ⟨k1, k2, k3, k4⟩ := rings_known rs hr
    exact ⟨rs, rfl, ⟨k2, k3, k1, of_decide_eq_true hd⟩, hp2.mono (by omega)⟩
  walk_at "ow"
  refine condK_i (fun z2 => ?_) fun z2 => ?_
  · walk_at "ow"
    refine oP_mono (take_ok hp1 (by omega) (by omega) (by omega)) ?_
    rintro ⟨_, p2⟩ ⟨j, rfl, j0, j1, hp2⟩
    walk_at "ow"
    refine ⟨[2 + j], rfl, ⟨by simp, by simp, fun n hn => ?_, ?_⟩, hp2.mono (by omega)⟩
    · simp at hn; omega
    · show (2 + j) * 1 ≤ most
      omega
  walk_at "ow"
  refine oP_mono (take_ok hp1 (by omega) (by decide) (by decide)) ?_
  rintro ⟨_, p2⟩ ⟨j, rfl, j0, j1, hp2⟩
  walk_at "ow"
  refine oP_wh (fun s => ∃ rs, s.2 = tupI rs ∧ Rings most rs ∧ PotOk (n + 2 * rs.length) s.1) (fun s => match s.2 with | .tup l => 10 - l.length | _ => 0) ⟨[2 + j], rfl, ⟨by simp, by simp, fun n hn => by simp at hn; omega, by show (2 + j) * 1 ≤ most; omega⟩, hp2.mono (by simp)⟩ ?_
  rintro ⟨p3, _⟩ ⟨rs, rfl, hr, hp3⟩
  have hl := hr.len
  have hpr := hr.prod
  have hp1 := prodI_pos hr.two
  have es := size_ok (rs := rs) (fun r h => by have := hr.two r h; omega) (by omega)
  unfold m_law_rings_w2
  walk_at "ow lenX_tupI"
  refine condK_i (fun z4 => ?_) fun z4 => ?_
  · walk_at "ow es"
    refine condK_i (fun z5 => ?_) fun z5 => ?_
    · walk_at "ow es"
      refine oP_mono (take_ok hp3 (by omega) (by decide) (by decide)) ?_
      rintro ⟨_, p4⟩ ⟨k, rfl, k0, k1, hp4⟩
      walk_at "ow es"
      refine condK_i (fun z6 => ?_) fun z6 => ?_
      · have q1 : 2 ≤ most / prodI rs := Int.le_ediv_of_mul_le (by omega) (by omega)
        have q2 : most / prodI rs ≤ most := Int.ediv_le_self _ (by omega)
        walk_at "ow es"
        refine oP_mono (take_ok hp4 (by omega) (by omega) (by omega)) ?_
        rintro ⟨_, p5⟩ ⟨m, rfl, m0, m1, hp5⟩
        have ea : addX (tupI rs) (.tup [.int (2 + m)]) = some (tupI (rs ++ [2 + m])) := by
          refine (addX_tup (by rw [List.length_map, size_def]; simp; omega)).trans ?_
          unfold tupI
          rw [List.map_append]; rfl
        walk_at "ow ea"
        refine ⟨⟨rs ++ [2 + m], rfl, ⟨by simp; omega, by simp, fun n hn => ?_, ?_⟩, hp5.mono (by simp; omega)⟩, ?_⟩
        · rcases List.mem_append.mp hn with h | h
          · exact hr.two n h
          · simp at h; omega
        · rw [prodI_app]
          show prodI rs * ((2 + m) * 1) ≤ most
          have h1 : prodI rs * (2 + m) ≤ prodI rs * (most / prodI rs) := Int.mul_le_mul_of_nonneg_left (by omega) (by omega)
          have h2 := Int.mul_ediv_self_le (x := most) (k := prodI rs) (by omega)
          rw [Int.mul_one]
          omega
        · show 10 - ((rs ++ [2 + m]).map D.int).length < 10 - (rs.map D.int).length
          simp; omega
      · walk_at "ow"
        exact ⟨rs, rfl, hr, hp4.mono (by omega)⟩
    · walk_at "ow"
      exact ⟨rs, rfl, hr, hp3.mono (by omega)⟩
  · walk_at "ow"
    exact ⟨rs, rfl, hr, hp3.mono (by omega)⟩
end
end TL
namespace TL
open PySem PySem.Spec PyProof.Rows L2
/-- all are spots of the rings -/
abbrev Spots (rs : List Int) (ls : List (List Int)) : Prop := ∀ s ∈ ls, Spot rs s
def movedL (rs : List Int) (ls : List (List Int)) (by_ : List Int) : List (List Int) := sortS (ls.map fun s => plusL rs s by_)
theorem tupleX_set (ls : List (List Int)) : tupleX (.lst (ls.map tupI)) = some (setD ls) := tupleX_lst _
theorem itX_set (ls : List (List Int)) : itX (setD ls) = some (ls.map tupI) := rfl
theorem moved_mem {rs : List Int} {ls : List (List Int)} {b s : List Int} (h : Spots rs ls) (hb : Spot rs b) (hs : Spot rs s) : s ∈ movedL rs ls b ↔ minusL rs s b ∈ ls := by
  unfold movedL
  rw [sortS_mem, List.mem_map]
  constructor
  · rintro ⟨x, hx, rfl⟩
    rw [plus_minus (h x hx) hb]; exact hx
  · intro h'
    exact ⟨_, h', minus_plus hs hb⟩
section
variable {rs : List Int} {ls : List (List Int)} {b : List Int}
theorem movedL_len : (movedL rs ls b).length = ls.length := by unfold movedL; rw [sortS_len, List.length_map]
end
end TL
namespace TL
open PySem PySem.Spec PyProof.Rows L2
local macro_rules | `(tactic| walk_at $s:str) => do
  let names := (s.getString.splitOn " ").filter (· ≠ "")
  match names with
  | "xs" :: ls => do
    let base := "Option.bind_some Option.bind_none addX_i subX_i mulX_i divX_i modX_i powX_i iaddX_i eqX_i neX_i eqX_b neX_b ltX_i ltAX_i leX_i gtX_i geX_i truX_bl truX_i truX_non truX_tup truX_lst itX_tup itX_lst itX_scr lenX_tup lenX_lst lenX_scr lenX_dct tupleX_lst tupleX_tup listX_lst listX_tup seqX_lst seqX_tup intX_bl intX_int absX_i max2X_i min2X_i slX_tup slX_lst slX_scr addX_tup addX_lst addLX_lst appX_ok extX_ok rg1X_i rg2X_i allX_ok anyX_ok sumX_ok tup2X_ok tup3X_ok asI_int asB_bl asL_lst SO.cs_nx SO.cs_rt WH.cs_go WH.cs_dn WH.cs_rt if_true if_false reduceIte decide_eq_true_eq not_true_eq_false not_false_eq_true decide_true decide_false Bool.not_true Bool.not_false Bool.not_not Bool.not_eq_true' decide_eq_false_iff_not Bool.false_eq_true Bool.true_eq_false D.isNon List.length_map List.isEmpty_nil List.isEmpty_cons isi_int_int isi_int_bool isi_int_tuple isi_int_list isi_int_str isi_int_dict isi_bl_int isi_bl_bool isi_bl_tuple isi_bl_list isi_bl_str isi_bl_dict isi_non_int isi_non_bool isi_non_tuple isi_non_list isi_non_str isi_non_dict isi_str_int isi_str_bool isi_str_tuple isi_str_list isi_str_str isi_str_dict isi_tup_int isi_tup_bool isi_tup_tuple isi_tup_list isi_tup_str isi_tup_dict isi_lst_int isi_lst_bool isi_lst_tuple isi_lst_list isi_lst_str isi_lst_dict isi_dct_int isi_dct_bool isi_dct_tuple isi_dct_list isi_dct_str isi_dct_dict".splitOn " "
    let all ← (base ++ ls).toArray.mapM fun (l : String) => do
      let i := Lean.mkIdent l.toName
      `(Lean.Parser.Tactic.simpLemma| $i:term)
    `(tactic| simp (disch := first | assumption | omega | decide | (simp only [List.length_cons, List.length_nil, List.length_append, List.length_map, List.length_range, rangeD_len, size_def]; omega) | (simp only [List.length_cons, List.length_nil, List.length_append, List.length_map, List.length_range, rangeD_len, size_def]; decide)) only [$all,*])
  | "ow" :: ls => do
    let base := "Option.bind_some Option.bind_none addX_i subX_i mulX_i divX_i modX_i powX_i iaddX_i eqX_i neX_i eqX_b neX_b ltX_i ltAX_i leX_i gtX_i geX_i truX_bl truX_i truX_non truX_tup truX_lst itX_tup itX_lst itX_scr lenX_tup lenX_lst lenX_scr lenX_dct tupleX_lst tupleX_tup listX_lst listX_tup seqX_lst seqX_tup intX_bl intX_int absX_i max2X_i min2X_i slX_tup slX_lst slX_scr addX_tup addX_lst addLX_lst appX_ok extX_ok rg1X_i rg2X_i allX_ok anyX_ok sumX_ok tup2X_ok tup3X_ok asI_int asB_bl asL_lst if_true if_false reduceIte decide_eq_true_eq not_true_eq_false not_false_eq_true decide_true decide_false Bool.not_true Bool.not_false Bool.not_not Bool.not_eq_true' decide_eq_false_iff_not Bool.false_eq_true Bool.true_eq_false D.isNon List.length_map List.isEmpty_nil List.isEmpty_cons isi_int_int isi_int_bool isi_int_tuple isi_int_list isi_int_str isi_int_dict isi_bl_int isi_bl_bool isi_bl_tuple isi_bl_list isi_bl_str isi_bl_dict isi_non_int isi_non_bool isi_non_tuple isi_non_list isi_non_str isi_non_dict isi_str_int isi_str_bool isi_str_tuple isi_str_list isi_str_str isi_str_dict isi_tup_int isi_tup_bool isi_tup_tuple isi_tup_list isi_tup_str isi_tup_dict isi_lst_int isi_lst_bool isi_lst_tuple isi_lst_list isi_lst_str isi_lst_dict isi_dct_int isi_dct_bool isi_dct_tuple isi_dct_list isi_dct_str isi_dct_dict ~oP_bindT ~withO_bind ~oP_condK ~oP_nx ~oP_rt ~SO.cs_nx ~SO.cs_rt ~WH.cs_go ~WH.cs_dn ~WH.cs_rt oP_some withO_some withO_condK condK_t condK_f iteB_some iteD_some ite_int ite_and ite_or get3_0 get3_1 get3_2 set3_0 set3_1 set3_2 gett2_0 gett2_1 isX_b isNotX_b mulLX_i Bool.and_eq_true Bool.or_eq_true true_implies and_true true_and implies_true Int.not_lt Int.not_le Bool.not_eq_true forall_const false_or true_or or_true or_false and_false false_and eq_self natz Bool.true_and Bool.and_true Bool.false_or Bool.or_false Bool.true_or Bool.or_true Bool.false_and Bool.and_false".splitOn " "
    let all ← (base ++ ls).toArray.mapM fun (l : String) => do
      if l.startsWith "~" then
        let i := Lean.mkIdent (l.drop 1).toString.toName
        `(Lean.Parser.Tactic.simpLemma| ↓ $i:term)
      else
        let i := Lean.mkIdent l.toName
        `(Lean.Parser.Tactic.simpLemma| $i:term)
    `(tactic| (try simp (disch := first | assumption | omega | decide | (simp only [List.length_cons, List.length_nil, List.length_append, List.length_map, List.length_range, rangeD_len, size_def]; omega) | (simp only [List.length_cons, List.length_nil, List.length_append, List.length_map, List.length_range, rangeD_len, size_def]; decide)) only [$all,*]; try refine withO_i ?_))
  | _ => Lean.Macro.throwUnsupported
section
theorem map_of {α : Type} {f : α → D} {P : α → Prop} {l : List D} (h : ∀ x ∈ l, ∃ a, x = f a ∧ P a) : ∃ as : List α, l = as.map f ∧ ∀ a ∈ as, P a := by
  induction l with
  | nil => exact ⟨[], rfl, fun _ h => nomatch h⟩
  | cons x l ih =>
    obtain ⟨a, rfl, ha⟩ := h x List.mem_cons_self
    obtain ⟨as, rfl, has⟩ := ih fun y hy => h y (List.mem_cons_of_mem _ hy)
    exact ⟨a :: as, rfl, fun b hb => by
      rcases List.mem_cons.mp hb with rfl | hb
      · exact ha
      · exact has b hb⟩
end
section
def Bit (d : D) : Prop := ∃ i : Int, d = .int i ∧ 0 ≤ i ∧ i ≤ 1
def Row (k : Nat) (d : D) : Prop := ∃ l, d = .tup l ∧ l.length = k ∧ ∀ x ∈ l, Bit x
def Told (d : D) : Prop := ∃ rs k, d = .tup rs ∧ 1 ≤ rs.length ∧ rs.length ≤ 20 ∧ 1 ≤ k ∧ k ≤ 20 ∧ ∀ r ∈ rs, Row k r
theorem Row.nice {k : Nat} {d : D} (h : Row k d) : D.nice 1 d = true := by
  obtain ⟨l, rfl, e, hx⟩ := h
  refine nice_tup.mpr ⟨0, rfl, fun x hm => ?_⟩
  obtain ⟨i, rfl, _⟩ := hx x hm
  rfl
/-- so many bits -/
theorem bits_ok {f : List D → D → Option (D × List D)} (hf : ∀ s d, f s d = (m_law_take s (.int 2)).bind fun t => some (t.1, t.2)) {n : Nat} {p : List D} {m : Nat} (h : PotOk n p) (hn : n < 2 ^ 50) (hm : m ≤ 50) {Q : List D × List D → Prop}
    (k : ∀ l s, l.length = m → (∀ x ∈ l, Bit x) → PotOk (n + m) s → Q (l, s)) : oP (mapSX f (rangeD 0 1 m) p) Q := by
  refine oP_eachS (fun i s => PotOk (n + i) s) (fun _ d => Bit d) (by rw [rangeD_len, size_def]; omega) h (fun i d s hi hI => ?_) fun l s' h1 h2 h3 => ?_
  · have hi' : i < m := by
      have := List.getElem?_eq_some_iff.mp hi
      obtain ⟨q, _⟩ := this
      rwa [rangeD_len] at q
    rw [hf]
    walk_at "ow"
    refine oP_mono (take_ok hI (by omega) (by decide) (by decide)) ?_
    rintro ⟨_, s'⟩ ⟨x, rfl, x0, x1, hp⟩
    exact ⟨⟨x, rfl, x0, by omega⟩, hp⟩
  · rw [rangeD_len] at h1 h3
    exact k l s' h1 (ofGet h2) h3
theorem told_of {rs : List D} {k : Nat} (h1 : 1 ≤ rs.length) (h2 : rs.length ≤ 20) (k1 : 1 ≤ k) (k2 : k ≤ 20) (h : ∀ r ∈ rs, Row k r) : Told (.tup rs) := ⟨rs, k, rfl, h1, h2, k1, k2, h⟩
theorem table_ok {n : Nat} {p : List D} (h : PotOk n p) (hn : n < 2 ^ 40) : oP (m_law_table p) fun r => Told r.1 ∧ PotOk (n + 1000) r.2 := by
  unfold m_law_table
  walk_at "ow"
  refine oP_mono (take_ok h (by omega) (by decide) (by decide)) ?_
  rintro ⟨_, p1⟩ ⟨way, rfl, w0, w1, h1⟩
  walk_at "ow"
  refine oP_mono (take_ok h1 (by omega) (by decide) (by decide)) ?_
  rintro ⟨_, p2⟩ ⟨rows, rfl, r0, r1, h2⟩
  walk_at "ow"
  refine oP_mono (take_ok h2 (by omega) (by decide) (by decide)) ?_
  rintro ⟨_, p3⟩ ⟨cols, rfl, c0, c1, h3⟩
  walk_at "ow"
  refine condK_i (fun z => ?_) fun z => ?_
  · walk_at "ow"
    refine oP_mono (take_ok h3 (by omega) (by decide) (by decide)) ?_
    rintro ⟨_, p4⟩ ⟨sz, rfl, s0, s1, h4⟩
    walk_at "ow"
    refine bits_ok (f := m_law_table_c1) (fun _ _ => rfl) h4 (by omega) (by omega) fun l s hl hb hs => ?_
    walk_at "ow"
    refine oP_each (fun _ d => Row (2 + sz).toNat d) (by rw [rangeD_len, size_def]; omega) (fun i d hi => ?_) fun l2 e2 h2 => ?_
    · obtain ⟨hi', rfl⟩ := in_range hi
      unfold m_law_table_c2
      walk_at "ow"
      refine oP_each (fun _ d => Bit d) (by rw [rangeD_len, size_def]; omega) (fun j d hj => ?_) fun l3 e3 h3 => ?_
      · obtain ⟨hj', rfl⟩ := in_range hj
        unfold m_law_table_c3
        walk_at "ow"
        refine oP_getl (Int.emod_nonneg _ (by omega)) ?_ fun x hx _ => hb x hx
        have := Int.emod_lt_of_pos ((j : Int) - i) (show 0 < 2 + sz by omega)
        omega
      · walk_at "ow"
        exact ⟨_, rfl, by rw [e3, rangeD_len], ofGet h3⟩
    · walk_at "ow"
      rw [rangeD_len] at e2
      exact ⟨told_of (by omega) (by omega) (by omega) (by omega) (ofGet h2), hs.mono (by omega)⟩
  · walk_at "ow"
    refine condK_i (fun z => ?_) fun z => ?_
    · walk_at "ow"
      refine bits_ok (f := m_law_table_c4) (fun _ _ => rfl) h3 (by omega) (by omega) fun l s hl hb hs => ?_
      have e : mulAX (.tup [.tup l]) (.int (1 + rows)) = some (.tup (List.replicate (1 + rows).toNat [.tup l]).flatten) := if_pos ⟨by omega, by omega, by simp⟩
      walk_at "ow e"
      have q : (List.replicate (1 + rows).toNat [D.tup l]).flatten = List.replicate (1 + rows).toNat (D.tup l) := by
        induction (1 + rows).toNat with
        | zero => rfl
        | succ n ih => rw [List.replicate_succ, List.flatten_cons, ih]; rfl
      rw [q]
      refine ⟨told_of (k := (1 + cols).toNat) (by rw [List.length_replicate]; omega) (by rw [List.length_replicate]; omega) (by omega) (by omega) fun r hr => ?_, hs.mono (by omega)⟩
      rw [(List.mem_replicate.mp hr).2]
      exact ⟨l, rfl, hl, hb⟩
    · walk_at "ow"
      refine condK_i (fun z => ?_) fun z => ?_
      · walk_at "ow"
        refine oP_mono (take_ok h3 (by omega) (by decide) (by decide)) ?_
        rintro ⟨_, p4⟩ ⟨c, rfl, s0, s1, h4⟩
        walk_at "ow"
        refine oP_getl s0 (by simp only [List.length_cons, List.length_nil]; omega) fun x hx _ => ?_
        have hx2 : ∃ (s : Int) (l : List Int), x = .tup [.int s, .tup (l.map D.int)] ∧ 3 ≤ s ∧ s ≤ 15 := by
          simp only [List.mem_cons, List.not_mem_nil, or_false] at hx
          rcases hx with rfl | rfl | rfl | rfl | rfl
          · exact ⟨7, [0, 1, 3], rfl, by decide, by decide⟩
          · exact ⟨11, [0, 1, 2, 4, 7], rfl, by decide, by decide⟩
          · exact ⟨13, [0, 1, 3, 9], rfl, by decide, by decide⟩
          · exact ⟨15, [0, 1, 2, 4, 5, 8, 10], rfl, by decide, by decide⟩
          · exact ⟨3, [0], rfl, by decide, by decide⟩
        obtain ⟨s, l, rfl, s3, s15⟩ := hx2
        walk_at "ow"
        refine oP_each (fun _ d => Row s.toNat d) (by rw [rangeD_len, size_def]; omega) (fun i d hi => ?_) fun l2 e2 h2 => ?_
        · obtain ⟨hi', rfl⟩ := in_range hi
          unfold m_law_table_c5
          walk_at "ow"
          refine oP_each (fun _ d => Bit d) (by rw [rangeD_len, size_def]; omega) (fun j d hj => ?_) fun l3 e3 h3 => ?_
          · obtain ⟨hj', rfl⟩ := in_range hj
            unfold m_law_table_c6
            have e := fun y => inX_tup (n := 0) (x := .int y) (l := l.map D.int) rfl (by decide) (fun x hx => by obtain ⟨i, _, rfl⟩ := List.mem_map.mp hx; rfl)
            walk_at "ow e"
            exact ⟨_, rfl, by split <;> decide, by split <;> decide⟩
          · walk_at "ow"
            exact ⟨_, rfl, by rw [e3, rangeD_len], ofGet h3⟩
        · walk_at "ow"
          rw [rangeD_len] at e2
          exact ⟨told_of (k := s.toNat) (by omega) (by omega) (by omega) (by omega) (ofGet h2), h4.mono (by omega)⟩
      · walk_at "ow"
        refine oP_eachS (fun i s => PotOk (n + 3 + 10 * i) s) (fun _ d => Row (1 + cols).toNat d) (by rw [rangeD_len, size_def]; omega) (h3.mono (by omega)) (fun i d s hi hI => ?_) fun l s' e1 h1 h2 => ?_
        · obtain ⟨hi', rfl⟩ := in_range hi
          unfold m_law_table_c7
          walk_at "ow"
          refine bits_ok (f := m_law_table_c8) (fun _ _ => rfl) hI (by omega) (by omega) fun l s hl hb hs => ?_
          walk_at "ow"
          exact ⟨⟨l, rfl, hl, hb⟩, hs.mono (by omega)⟩
        · walk_at "ow"
          rw [rangeD_len] at e1 h2
          exact ⟨told_of (k := (1 + cols).toNat) (by omega) (by omega) (by omega) (by omega) (ofGet h1), h2.mono (by omega)⟩
/-- a table as rows of numbers -/
structure Tab (rows cols : Nat) (T : List (List Int)) : Prop where
  r1 : 1 ≤ T.length
  r2 : T.length ≤ rows
  c : ∃ k, 1 ≤ k ∧ k ≤ cols ∧ ∀ r ∈ T, r.length = k
  b : ∀ r ∈ T, ∀ x ∈ r, x = 0 ∨ x = 1
theorem Tab.mono {a b c d : Nat} {T : List (List Int)} (h : Tab a b T) (h1 : a ≤ c) (h2 : b ≤ d) : Tab c d T := by
  obtain ⟨k, k1, k2, hk⟩ := h.c
  exact ⟨h.r1, by have := h.r2; omega, ⟨k, k1, by omega, hk⟩, h.b⟩
theorem Told.tab {d : D} (h : Told d) : ∃ T, d = setD T ∧ Tab 20 20 T := by
  obtain ⟨rs, k, rfl, h1, h2, k1, k2, hr⟩ := h
  obtain ⟨T, rfl, hT⟩ := map_of (f := tupI) (P := fun r => r.length = k ∧ ∀ x ∈ r, x = 0 ∨ x = 1) (l := rs) fun r hm => by
    obtain ⟨l, rfl, e, hb⟩ := hr r hm
    obtain ⟨is, rfl, hi⟩ := map_of (f := D.int) (P := fun i => i = 0 ∨ i = 1) (l := l) fun x hx => by
      obtain ⟨i, rfl, i0, i1⟩ := hb x hx
      exact ⟨i, rfl, by omega⟩
    exact ⟨is, rfl, by simpa using e, hi⟩
  rw [List.length_map] at h1 h2
  exact ⟨T, rfl, h1, h2, ⟨k, k1, k2, fun r hm => (hT r hm).1⟩, fun r hm => (hT r hm).2⟩
theorem Tab.len {a b : Nat} {T : List (List Int)} (h : Tab a b T) : ∀ r ∈ T, 1 ≤ r.length ∧ r.length ≤ b := by
  obtain ⟨k, k1, k2, hk⟩ := h.c
  exact fun r hr => by rw [hk r hr]; exact ⟨k1, k2⟩
theorem Tab.repr {a b : Nat} {T : List (List Int)} (h : Tab a b T) (ha : a ≤ 200) (hb : b ≤ 200) : reprX (setD T) = some (.str (setD T).py.shown) := by
  refine reprX_ok (setD_nice T) (by decide) (setD_ib fun r hr x hx => by rcases h.b r hr x hx with rfl | rfl <;> decide) ?_
  have := setD_rc (ls := T) (k := 200) fun r hr => by have := (h.len r hr).2; omega
  have h2 := h.r2
  have := Nat.mul_le_mul_right (200 * 47 + 5) (show T.length ≤ 200 by omega)
  omega
theorem land_step (a b x y : Nat) (hx : x ≤ 1) (hy : y ≤ 1) : (2 * a + x) &&& (2 * b + y) = 2 * (a &&& b) + (x &&& y) := by
  have hxy : x &&& y ≤ 1 := Nat.le_trans Nat.and_le_left hx
  apply Nat.eq_of_testBit_eq
  intro i
  rw [Nat.testBit_and]
  cases i with
  | zero =>
    rw [Nat.testBit_zero, Nat.testBit_zero, Nat.testBit_zero]
    have : x = 0 ∨ x = 1 := by omega
    have : y = 0 ∨ y = 1 := by omega
    rcases ‹x = 0 ∨ x = 1› with rfl | rfl <;> rcases ‹y = 0 ∨ y = 1› with rfl | rfl <;> simp <;> omega
  | succ i =>
    rw [Nat.testBit_succ, Nat.testBit_succ, Nat.testBit_succ, show (2 * a + x) / 2 = a by omega, show (2 * b + y) / 2 = b by omega, show (2 * (a &&& b) + (x &&& y)) / 2 = a &&& b by omega, Nat.testBit_and]
def pop (n : Nat) : Nat := if h : n = 0 then 0 else n % 2 + pop (n / 2)
termination_by n
decreasing_by omega
theorem pop_0 : pop 0 = 0 := by rw [pop]; rfl
theorem pop_step (a x : Nat) (hx : x ≤ 1) : pop (2 * a + x) = x + pop a := by
  by_cases z : 2 * a + x = 0
  · have : a = 0 := by omega
    have : x = 0 := by omega
    subst a x
    show pop 0 = 0 + pop 0
    rw [Nat.zero_add]
  · rw [pop, dif_neg z, show (2 * a + x) % 2 = x by omega, show (2 * a + x) / 2 = a by omega]
theorem pop_less : ∀ n : Nat, 0 < n → (n &&& (n - 1)) < n ∧ pop (n &&& (n - 1)) + 1 = pop n := by
  intro n
  induction n using Nat.strongRecOn with
  | ind n ih =>
    intro h
    obtain ⟨k, x, hx, e⟩ : ∃ k x, x ≤ 1 ∧ n = 2 * k + x := ⟨n / 2, n % 2, by omega, by omega⟩
    have hx2 : x = 0 ∨ x = 1 := by omega
    rcases hx2 with rfl | rfl
    · obtain ⟨h1, h2⟩ := ih k (by omega) (by omega)
      have e2 : n - 1 = 2 * (k - 1) + 1 := by omega
      rw [e2, e, land_step k (k - 1) 0 1 (by omega) (by omega), show (0 : Nat) &&& 1 = 0 from rfl, pop_step _ 0 (by omega), pop_step _ 0 (by omega)]
      exact ⟨by omega, by omega⟩
    · have e2 : n - 1 = 2 * k + 0 := by omega
      rw [e2, e, land_step k k 1 0 (by omega) (by omega), show (1 : Nat) &&& 0 = 0 from rfl, Nat.and_self, pop_step _ 0 (by omega), pop_step _ 1 (by omega)]
      exact ⟨by omega, by omega⟩
def cnt (r : List Int) : Nat := (r.filter fun x => decide (x = 1)).length
def Bits (r : List Int) : Prop := ∀ x ∈ r, x = 0 ∨ x = 1
theorem Bits.cons {x : Int} {r : List Int} : Bits (x :: r) ↔ (x = 0 ∨ x = 1) ∧ Bits r := List.forall_mem_cons
def pkB : Nat → List Int → Nat
  | a, [] => a
  | a, x :: xs => pkB (2 * a + x.toNat) xs
theorem pkB_pop : ∀ (r : List Int) (a : Nat), Bits r → pop (pkB a r) = pop a + cnt r
  | [], a, _ => rfl
  | x :: r, a, h => by
    rw [Bits.cons] at h
    rw [pkB, pkB_pop r _ h.2]
    unfold cnt
    rcases h.1 with rfl | rfl
    · show pop (2 * a + 0) + _ = _
      rw [pop_step a 0 (by omega), Nat.zero_add]; rfl
    · show pop (2 * a + 1) + _ = _
      rw [pop_step a 1 (by omega)]
      show 1 + pop a + (r.filter fun x => decide (x = 1)).length = pop a + ((r.filter fun x => decide (x = 1)).length + 1)
      omega
def andR (r s : List Int) : List Int := (r.zip s).map fun q => if q.1 = 1 ∧ q.2 = 1 then 1 else 0
theorem andR_bits (r s : List Int) : Bits (andR r s) := fun x hx => by
  obtain ⟨q, _, rfl⟩ := List.mem_map.mp hx
  show (if q.1 = 1 ∧ q.2 = 1 then (1 : Int) else 0) = 0 ∨ _
  split
  · exact .inr rfl
  · exact .inl rfl
theorem pkB_land : ∀ (r s : List Int) (a b : Nat), r.length = s.length → Bits r → Bits s → pkB a r &&& pkB b s = pkB (a &&& b) (andR r s)
  | [], [], _, _, _, _, _ => rfl
  | [], _ :: _, _, _, h, _, _ => by cases h
  | _ :: _, [], _, _, h, _, _ => by cases h
  | x :: r, y :: s, a, b, h, hr, hs => by
    rw [Bits.cons] at hr hs
    rw [pkB, pkB, pkB_land r s _ _ (by simpa using h) hr.2 hs.2, land_step a b _ _ (by omega) (by omega)]
    show _ = pkB (2 * (a &&& b) + (if x = 1 ∧ y = 1 then (1 : Int) else 0).toNat) (andR r s)
    congr 2
    rcases hr.1 with rfl | rfl <;> rcases hs.1 with rfl | rfl <;> rfl
theorem packed_fold : ∀ (r : List Int) (a : Nat), Bits r → (a + 1) * 2 ^ r.length ≤ 2 ^ 240 → foldX m_packed_f1 (r.map D.int) (.int (a : Int)) = some (.int (pkB a r : Nat))
  | [], a, _, _ => rfl
  | x :: r, a, h, hb => by
    rw [Bits.cons] at h
    rw [List.length_cons, Nat.pow_succ] at hb
    have h3 : (a + 1) * (2 ^ r.length * 2) = (2 * a + 2) * 2 ^ r.length := by rw [Nat.mul_comm (2 ^ r.length) 2, ← Nat.mul_assoc]; congr 1; omega
    have h4 : (2 * a + x.toNat + 1) * 2 ^ r.length ≤ (2 * a + 2) * 2 ^ r.length := Nat.mul_le_mul_right _ (by omega)
    have h5 : 2 * a + 2 ≤ (2 * a + 2) * 2 ^ r.length := Nat.le_mul_of_pos_right _ (Nat.pow_pos (by decide))
    have e : m_packed_f1 (.int (a : Int)) (.int x) = some (.int ((2 * a + x.toNat : Nat) : Int)) := by
      unfold m_packed_f1
      rw [mulX_i (by omega) (by decide), Option.bind_some, addX_i, Option.bind_some]
      congr 2
      omega
    rw [List.map_cons, foldX, e, Option.bind_some, packed_fold r _ h.2 (by omega), pkB]
theorem packed_ok {r : List Int} (h : Bits r) (hl : r.length ≤ 200) : m_packed (tupI r) = some (.int (pkB 0 r : Nat)) := by
  unfold m_packed
  rw [show itX (tupI r) = some (r.map D.int) from rfl, Option.bind_some]
  have hb : (0 + 1) * 2 ^ r.length ≤ 2 ^ 240 := by
    rw [Nat.zero_add, Nat.one_mul]
    exact Nat.pow_le_pow_right (by decide) (by omega)
  have := packed_fold r 0 h hb
  rw [show ((0 : Nat) : Int) = 0 from rfl] at this
  rw [this, Option.bind_some]
theorem ones_loop : ∀ (n k : Nat), whX m_ones_in_w1 (.int (n : Int), .int (k : Int)) = some (.nx (.int 0, .int ((pop n + k : Nat) : Int))) := by
  intro n
  induction n using Nat.strongRecOn with
  | ind n ih =>
    intro k
    rw [whX_eq]
    by_cases z : n = 0
    · subst z
      have e : m_ones_in_w1 (.int ((0 : Nat) : Int), .int (k : Int)) = some (.dn (.int 0, .int (k : Int))) := by
        unfold m_ones_in_w1
        dsimp only
        rw [gtX_i, Option.bind_some, decide_eq_false (by decide), if_neg (by decide)]; rfl
      rw [e, Option.bind_some, WH.cs_dn, pop_0, Nat.zero_add]
    · obtain ⟨h1, h2⟩ := pop_less n (by omega)
      have e : m_ones_in_w1 (.int (n : Int), .int (k : Int)) = some (.go (.int ((n &&& (n - 1) : Nat) : Int), .int ((k + 1 : Nat) : Int))) := by
        unfold m_ones_in_w1
        dsimp only
        rw [gtX_i, Option.bind_some, decide_eq_true (by omega), if_pos rfl, subX_i, Option.bind_some]
        have ea : andX (.int (n : Int)) (.int ((n : Int) - 1)) = some (.int ((n &&& (n - 1) : Nat) : Int)) := by
          show some (D.int (Builtin.bitAnd _ _)) = _
          unfold Builtin.bitAnd
          rw [decide_eq_true (show (0 : Int) ≤ n by omega), decide_eq_true (show (0 : Int) ≤ (n : Int) - 1 by omega)]
          show some (D.int (((n : Int).toNat &&& ((n : Int) - 1).toNat : Nat) : Int)) = _
          rw [Int.toNat_natCast, show ((n : Int) - 1).toNat = n - 1 by omega]
        rw [ea, Option.bind_some, iaddX_i, Option.bind_some]; rfl
      rw [e, Option.bind_some, WH.cs_go, ih _ h1, show pop (n &&& (n - 1)) + (k + 1) = pop n + k by omega]
theorem ones_ok (n : Nat) : m_ones_in (.int (n : Int)) = some (.int (pop n : Nat)) := by
  unfold m_ones_in
  have := ones_loop n 0
  rw [show ((0 : Nat) : Int) = 0 from rfl, Nat.add_zero] at this
  rw [this, Option.bind_some, SO.cs_nx]
theorem and_nat (a b : Nat) : andX (.int (a : Int)) (.int (b : Int)) = some (.int ((a &&& b : Nat) : Int)) := by
  show some (D.int (Builtin.bitAnd _ _)) = _
  unfold Builtin.bitAnd
  rw [decide_eq_true (show (0 : Int) ≤ a by omega), decide_eq_true (show (0 : Int) ≤ b by omega)]
  show some (D.int (((a : Int).toNat &&& (b : Int).toNat : Nat) : Int)) = _
  rw [Int.toNat_natCast, Int.toNat_natCast]
end
section
def both (r s : List Int) : Nat := cnt (andR r s)
theorem cut_takeN (l : List D) (n : Nat) (hn : n ≤ l.length) : cutD l none (some (n : Int)) = l.take n := by
  unfold cutD
  rw [HT.sIx_none, HT.sIx_nat, Nat.min_eq_left hn]
  rfl
/-- by twos, each with those ahead of it -/
def shL (pre : List (List Int)) : List (List Int) → List Nat
  | [] => []
  | r :: rest => pre.map (both r) ++ shL (pre ++ [r]) rest
theorem shL_len : ∀ (rest pre : List (List Int)), (shL pre rest).length ≤ rest.length * (pre.length + rest.length)
  | [], _ => by rw [shL]; exact Nat.zero_le _
  | r :: rest, pre => by
    have := shL_len rest (pre ++ [r])
    rw [List.length_append, List.length_singleton] at this
    rw [shL, List.length_append, List.length_map, List.length_cons, Nat.add_mul, Nat.one_mul]
    rw [show pre.length + 1 + rest.length = pre.length + (rest.length + 1) by omega] at this
    omega
def nD (n : Nat) : D := .int (n : Int)
theorem mapnD (l : List Nat) : l.map nD = (l.map fun n : Nat => (n : Int)).map D.int := by rw [List.map_map]; rfl
theorem foldmin_le : ∀ (l : List Int) (x : Int), l.foldl min x ≤ x ∧ ∀ y ∈ l, l.foldl min x ≤ y
  | [], x => ⟨Int.le_refl x, fun y hy => nomatch hy⟩
  | z :: l, x => by
    obtain ⟨h1, h2⟩ := foldmin_le l (min x z)
    refine ⟨Int.le_trans h1 (Int.min_le_left _ _), fun y hy => ?_⟩
    rcases List.mem_cons.mp hy with rfl | hy
    · exact Int.le_trans h1 (Int.min_le_right _ _)
    · exact h2 y hy
theorem foldmax_le : ∀ (l : List Int) (x : Int), x ≤ l.foldl max x ∧ ∀ y ∈ l, y ≤ l.foldl max x
  | [], x => ⟨Int.le_refl x, fun y hy => nomatch hy⟩
  | z :: l, x => by
    obtain ⟨h1, h2⟩ := foldmax_le l (max x z)
    refine ⟨Int.le_trans (Int.le_max_left _ _) h1, fun y hy => ?_⟩
    rcases List.mem_cons.mp hy with rfl | hy
    · exact Int.le_trans (Int.le_max_right _ _) h1
    · exact h2 y hy
theorem fold_same : ∀ (l : List Int) (x : Int), (∀ y ∈ l, y = x) → l.foldl min x = x ∧ l.foldl max x = x
  | [], x, _ => ⟨rfl, rfl⟩
  | z :: l, x, h => by
    rw [List.foldl_cons, List.foldl_cons, h z List.mem_cons_self]
    have := fold_same l x fun y hy => h y (List.mem_cons_of_mem _ hy)
    rw [Int.min_self, Int.max_self]; exact this
/-- all the same as the first -/
def sameL (x : Nat) (l : List Nat) : Bool := l.all fun y => decide (y = x)
theorem minmax (x : Nat) (l : List Nat) : ∃ a b : Int, min1X (.lst ((x :: l).map nD)) = some (.int a) ∧ max1X (.lst ((x :: l).map nD)) = some (.int b) ∧ (!decide (a = b)) = !sameL x l := by
  rw [mapnD]
  refine ⟨(l.map fun n : Nat => (n : Int)).foldl min (x : Int), (l.map fun n : Nat => (n : Int)).foldl max (x : Int), ?_, ?_, ?_⟩
  · show (D.ints _).bind minL = _
    rw [ints_of]; rfl
  · show (D.ints _).bind maxL = _
    rw [ints_of]; rfl
  · congr 1
    rw [Bool.eq_iff_iff, decide_eq_true_eq]
    unfold sameL
    rw [List.all_eq_true]
    have m1 := foldmin_le (l.map fun n : Nat => (n : Int)) x
    have m2 := foldmax_le (l.map fun n : Nat => (n : Int)) x
    constructor
    · intro e y hy
      have hy' : ((y : Nat) : Int) ∈ l.map fun n : Nat => (n : Int) := List.mem_map.mpr ⟨y, hy, rfl⟩
      have a1 := m1.2 _ hy'
      have a2 := m2.2 _ hy'
      have a3 := m1.1
      have a4 := m2.1
      exact decide_eq_true (by omega)
    · intro h
      have := fold_same (l.map fun n : Nat => (n : Int)) x fun y hy => by
        obtain ⟨n, hn, rfl⟩ := List.mem_map.mp hy
        have := of_decide_eq_true (h n hn)
        rw [this]
      rw [this.1, this.2]
theorem ofa_ok (x : Nat) (l : List Nat) (hl : (x :: l).length ≤ sizeLine) : m_one_for_all (.lst ((x :: l).map nD)) = some (if sameL x l then nD x else .non) := by
  have h0 : getX (.lst ((x :: l).map nD)) (.int 0) = some (nD x) := getX_nat (n := 0) rfl
  unfold m_one_for_all
  rw [itX_lst, Option.bind_some, mapX_map nD (fun y => .bl (decide (y = x))) _ hl fun y hy => by
    unfold m_one_for_all_c1
    rw [h0, Option.bind_some]
    show ((eqX (.int (y : Int)) (.int (x : Int))).bind _) = _
    rw [eqX_i, Option.bind_some]
    congr 2
    exact decide_eq_decide.mpr (by omega)]
  have := allX_ok ((x :: l).map fun y => decide (y = x))
  rw [List.map_map, List.all_map] at this
  have ea : allX (.lst ((x :: l).map fun y => .bl (decide (y = x)))) = some (sameL x l) := by
    refine this.trans ?_
    congr 1
    rw [List.all_cons]
    show (decide (x = x) && _) = _
    rw [decide_eq_true rfl, Bool.true_and]; rfl
  rw [Option.bind_some, ea, Option.bind_some, h0, Option.bind_some]
  cases sameL x l <;> rfl
structure TabB (T : List (List Int)) (k : Nat) : Prop where
  len : T.length ≤ 100
  kb : k ≤ 100
  row : ∀ r ∈ T, r.length = k ∧ Bits r
def resT (T : List (List Int)) : D := match T.map cnt with
  | [] => .non
  | x :: l => if sameL x l then (match shL [] T with
    | [] => .tup [nD x, .non]
    | y :: l2 => if sameL y l2 then .tup [nD x, nD y] else .non) else .non
theorem shL_nil_one : ∀ {T : List (List Int)}, T.length = 1 → shL [] T = []
  | [_], _ => rfl
theorem shL_ne : ∀ {T : List (List Int)}, 2 ≤ T.length → shL [] T ≠ []
  | [], h => by simp at h
  | [_], h => by simp at h
  | r :: s :: T, _ => by
    show [both s r] ++ shL ([] ++ [r] ++ [s]) T ≠ []
    simp
theorem rows_fold {T : List (List Int)} {k : Nat} (h : TabB T k) (ones : D) : ∀ (rest pre : List (List Int)) (acc : List Nat), T = pre ++ rest → acc.length + (shL pre rest).length ≤ sizeLine →
    foldX (m_by_rows_f3 (.lst (T.map fun r => nD (pkB 0 r))) ones) (enumL pre.length (rest.map fun r => nD (pkB 0 r))) (acc.map nD) = some ((acc ++ shL pre rest).map nD)
  | [], pre, acc, _, _ => by rw [List.map_nil, enumL, foldX, shL, List.append_nil]
  | r :: rest, pre, acc, e, hl => by
    rw [shL, List.length_append, List.length_map] at hl
    have hT := h.len
    have hr := h.row r (by rw [e]; simp)
    have hpl : pre.length ≤ T.length := by rw [e, List.length_append]; omega
    have sz := size_def
    have es : m_by_rows_f3 (.lst (T.map fun r => nD (pkB 0 r))) ones (acc.map nD) (.tup [.int pre.length, nD (pkB 0 r)]) = some ((acc ++ pre.map (both r)).map nD) := by
      unfold m_by_rows_f3
      rw [tup2X_ok, Option.bind_some]
      show ((some (pre.length : Int)).bind fun t11 => _) = _
      rw [Option.bind_some, slX_lst, cut_takeN _ _ (by rw [List.length_map]; exact hpl), Option.bind_some, itX_lst, Option.bind_some, ← List.map_take]
      have et : T.take pre.length = pre := by rw [e, List.take_left]
      rw [et, mapX_map (fun r => nD (pkB 0 r)) (fun s => nD (both r s)) pre (by omega) fun s hs => by
        have hss := h.row s (by rw [e]; exact List.mem_append_left _ hs)
        unfold m_by_rows_c4
        show ((andX (.int (pkB 0 r : Nat)) (.int (pkB 0 s : Nat))).bind _) = _
        rw [and_nat, Option.bind_some, ones_ok, Option.bind_some, pkB_land r s 0 0 (by rw [hr.1, hss.1]) hr.2 hss.2, Nat.and_self, pkB_pop _ _ (andR_bits r s), pop_0, Nat.zero_add]; rfl]
      rw [Option.bind_some, extX_ok (by rw [List.length_map, List.length_map]; omega), Option.bind_some, List.map_append, List.map_map]; rfl
    rw [List.map_cons, enumL, foldX, es, Option.bind_some]
    have := rows_fold h ones rest (pre ++ [r]) (acc ++ pre.map (both r)) (by rw [e, List.append_assoc]; rfl) (by rw [List.length_append, List.length_map]; omega)
    rw [List.length_append, List.length_singleton] at this
    rw [this, shL, List.append_assoc]
theorem by_rows_ok {T : List (List Int)} {k : Nat} (h : TabB T k) (h1 : 1 ≤ T.length) : m_by_rows (setD T) = some (resT T) := by
  have sz := size_def
  have hT := h.len
  have hk := h.kb
  unfold m_by_rows
  rw [itX_set, Option.bind_some, mapX_map tupI (fun r => nD (pkB 0 r)) T (by omega) fun r hr => by
    unfold m_by_rows_c1
    rw [packed_ok (h.row r hr).2 (by rw [(h.row r hr).1]; omega), Option.bind_some]; rfl]
  rw [Option.bind_some, mapX_map (fun r => nD (pkB 0 r)) (fun r => nD (cnt r)) T (by omega) fun r hr => by
    unfold m_by_rows_c2
    show ((m_ones_in (.int (pkB 0 r : Nat))).bind _) = _
    rw [ones_ok, Option.bind_some, pkB_pop r 0 (h.row r hr).2, pop_0, Nat.zero_add]; rfl]
  rw [Option.bind_some]
  have em : (T.map fun r => nD (cnt r)) = (T.map cnt).map nD := by rw [List.map_map]; rfl
  rw [em]
  unfold resT
  obtain ⟨x, l, ex⟩ : ∃ x l, T.map cnt = x :: l := by
    cases e : T.map cnt with
    | nil => have := congrArg List.length e; rw [List.length_map] at this; simp at this; rw [this] at h1; simp at h1
    | cons x l => exact ⟨x, l, rfl⟩
  have exl : (x :: l).length = T.length := by rw [← ex, List.length_map]
  rw [ex, ofa_ok x l (by omega), Option.bind_some]
  dsimp only
  cases hs : sameL x l with
  | false => rfl
  | true =>
    have el : lenX (.lst (T.map fun r => nD (pkB 0 r))) = some (.int T.length) := by rw [lenX_lst, List.length_map]
    have en : (if true = true then nD x else D.non).isNon = false := rfl
    rw [en, if_neg (by decide), el, Option.bind_some, eqX_i, Option.bind_some, if_pos rfl, if_pos rfl]
    by_cases z : T.length = 1
    · rw [decide_eq_true (by omega), if_pos rfl, shL_nil_one z]
    · rw [decide_eq_false (by omega), if_neg (by decide)]
      show ((some (enumL 0 (T.map fun r => nD (pkB 0 r)))).bind fun t9 => _) = _
      have sl := shL_len T []
      have sl2 : T.length * (0 + T.length) ≤ 10000 := by
        rw [Nat.zero_add]
        exact Nat.mul_le_mul hT hT
      rw [List.length_nil] at sl
      have rf := rows_fold h (nD x) T [] [] rfl (by rw [List.length_nil]; omega)
      rw [Option.bind_some]
      show ((foldX (m_by_rows_f3 (.lst (T.map fun r => nD (pkB 0 r))) (nD x)) (enumL 0 (T.map fun r => nD (pkB 0 r))) []).bind _) = _
      have rf : foldX (m_by_rows_f3 (.lst (T.map fun r => nD (pkB 0 r))) (nD x)) (enumL 0 (T.map fun r => nD (pkB 0 r))) [] = some ((shL [] T).map nD) := rf
      rw [rf, Option.bind_some]
      obtain ⟨y, l2, ey⟩ : ∃ y l2, shL [] T = y :: l2 := by
        cases e : shL [] T with
        | nil => exact absurd e (shL_ne (by omega))
        | cons y l2 => exact ⟨y, l2, rfl⟩
      rw [ey] at sl ⊢
      rw [ofa_ok y l2 (by omega), Option.bind_some]
      dsimp only
      cases sameL y l2 <;> rfl
theorem cnt_ok {r : List Int} (hl : r.length ≤ 100) : m_law_shared_c1 (tupI r) = some (nD (cnt r)) := by
  have sz := size_def
  unfold m_law_shared_c1
  rw [show itX (tupI r) = some (r.map D.int) from rfl, Option.bind_some, fmapX_map D.int (fun x => decide (x = 1)) D.int r (by omega) fun x hx => by
    unfold m_law_shared_c2
    rw [eqX_i, Option.bind_some]
    cases decide (x = 1) <;> rfl]
  rw [Option.bind_some, lenX_lst, Option.bind_some, List.length_map]; rfl
theorem zip_range : ∀ {r s : List Int}, r.length = s.length → (List.range r.length).map (fun k => (r.getD k 0, s.getD k 0)) = r.zip s
  | [], [], _ => rfl
  | [], _ :: _, h => by cases h
  | _ :: _, [], h => by cases h
  | x :: r, y :: s, h => by
    rw [List.length_cons, List.range_succ_eq_map, List.map_cons, List.map_map, List.zip_cons_cons]
    congr 1
    exact zip_range (r := r) (s := s) (by simpa using h)
theorem both_range {r s : List Int} (h : r.length = s.length) : ((List.range r.length).filter fun k => decide (r.getD k 0 = 1) && decide (s.getD k 0 = 1)).length = both r s := by
  have e := zip_range h
  unfold both cnt andR
  rw [← e, List.map_map, List.filter_map, List.length_map]
  congr 1
  apply List.filter_congr
  intro k _
  show _ = decide ((if r.getD k 0 = 1 ∧ s.getD k 0 = 1 then (1 : Int) else 0) = 1)
  by_cases z : r.getD k 0 = 1 ∧ s.getD k 0 = 1
  · rw [if_pos z, decide_eq_true z.1, decide_eq_true z.2]; rfl
  · rw [if_neg z]
    by_cases y : r.getD k 0 = 1
    · rw [decide_eq_true y, decide_eq_false fun w => z ⟨y, w⟩]; rfl
    · rw [decide_eq_false y]; rfl
theorem get_at {r : List Int} {k : Nat} (h : k < r.length) : getX (tupI r) (.int (k : Int)) = some (.int (r.getD k 0)) := by
  have := getXt_nat (l := r.map D.int) (n := k) (x := .int (r.getD k 0)) (by
    rw [List.getElem?_map, List.getD_eq_getElem?_getD, List.getElem?_eq_getElem h]; rfl)
  exact this
theorem lboth_ok {r s : List Int} {rows : D} {ones acc : List D} (h : r.length = s.length) (hl : r.length ≤ 100) (ha : acc.length < sizeLine) : m_law_shared_f4 rows ones (tupI r) acc (tupI s) = some (acc ++ [nD (both r s)]) := by
  have sz := size_def
  unfold m_law_shared_f4
  rw [show lenX (tupI r) = some (.int (r.map D.int).length) from rfl, Option.bind_some, List.length_map, rg1X_i (by omega) (by omega), Option.bind_some, Int.toNat_natCast, range0_eq, fmapX_map (fun k : Nat => D.int (k : Int)) (fun k => decide (r.getD k 0 = 1) && decide (s.getD k 0 = 1)) (fun k : Nat => D.int (k : Int)) _ (by rw [List.length_range]; omega) fun k hk => by
    rw [List.mem_range] at hk
    unfold m_law_shared_c5
    rw [get_at hk, Option.bind_some, eqX_i, Option.bind_some]
    cases decide (r.getD k 0 = 1) with
    | false => rfl
    | true =>
      rw [if_pos rfl, get_at (by omega), Option.bind_some, eqX_i, Option.bind_some, Option.bind_some]
      cases decide (s.getD k 0 = 1) <;> rfl]
  rw [Option.bind_some, lenX_lst, Option.bind_some, List.length_map, both_range h, appX_ok ha, Option.bind_some]; rfl
theorem lrow_fold {r : List Int} {rows : D} {ones : List D} (hl : r.length ≤ 100) : ∀ (pre : List (List Int)) (acc : List Nat), (∀ s ∈ pre, r.length = s.length) → acc.length + pre.length ≤ sizeLine → foldX (m_law_shared_f4 rows ones (tupI r)) (pre.map tupI) (acc.map nD) = some ((acc ++ pre.map (both r)).map nD)
  | [], acc, _, _ => by rw [List.map_nil, List.map_nil, List.append_nil]; rfl
  | s :: pre, acc, h, ha => by
    rw [List.length_cons] at ha
    have e := lboth_ok (rows := rows) (ones := ones) (acc := acc.map nD) (h s List.mem_cons_self) hl (by rw [List.length_map]; omega)
    rw [List.map_cons, foldX, e, Option.bind_some]
    have := lrow_fold (rows := rows) (ones := ones) hl pre (acc ++ [both r s]) (fun t ht => h t (List.mem_cons_of_mem _ ht)) (by rw [List.length_append, List.length_singleton]; omega)
    rw [List.map_append] at this
    have h2 : (acc.map nD ++ [nD (both r s)]) = acc.map nD ++ [both r s].map nD := rfl
    rw [h2, this, List.append_assoc]; rfl
theorem lrows_fold {T : List (List Int)} {k : Nat} (h : TabB T k) (ones : List D) : ∀ (rest pre : List (List Int)) (acc : List Nat), T = pre ++ rest → acc.length + (shL pre rest).length ≤ sizeLine →
    foldX (m_law_shared_f3 (setD T) ones) (enumL pre.length (rest.map tupI)) (acc.map nD) = some ((acc ++ shL pre rest).map nD)
  | [], pre, acc, _, _ => by rw [List.map_nil, enumL, foldX, shL, List.append_nil]
  | r :: rest, pre, acc, e, hl => by
    rw [shL, List.length_append, List.length_map] at hl
    have hT := h.len
    have hk := h.kb
    have hr := h.row r (by rw [e]; simp)
    have hpl : pre.length ≤ T.length := by rw [e, List.length_append]; omega
    have es : m_law_shared_f3 (setD T) ones (acc.map nD) (.tup [.int pre.length, tupI r]) = some ((acc ++ pre.map (both r)).map nD) := by
      unfold m_law_shared_f3
      rw [tup2X_ok, Option.bind_some]
      show ((some (pre.length : Int)).bind fun t9 => _) = _
      rw [Option.bind_some, show setD T = .tup (T.map tupI) from rfl, slX_tup, cut_takeN _ _ (by rw [List.length_map]; exact hpl), Option.bind_some, itX_tup, Option.bind_some, ← List.map_take]
      have et : T.take pre.length = pre := by rw [e, List.take_left]
      rw [et]
      show ((foldX (m_law_shared_f4 (.tup (T.map tupI)) ones (tupI r)) (pre.map tupI) (acc.map nD)).bind _) = _
      rw [lrow_fold (by rw [hr.1]; exact hk) pre acc (fun s hs => by rw [hr.1, (h.row s (by rw [e]; exact List.mem_append_left _ hs)).1]) (by omega), Option.bind_some]
    rw [List.map_cons, enumL, foldX, es, Option.bind_some]
    have := lrows_fold h ones rest (pre ++ [r]) (acc ++ pre.map (both r)) (by rw [e, List.append_assoc]; rfl) (by rw [List.length_append, List.length_map]; omega)
    rw [List.length_append, List.length_singleton] at this
    rw [this, shL, List.append_assoc]
theorem nN_nice (l : List Nat) : D.nice 1 (.lst (l.map nD)) = true := nice_lst.mpr ⟨0, rfl, fun x hx => by
  obtain ⟨n, _, rfl⟩ := List.mem_map.mp hx
  rfl⟩
theorem neX_nilN (l : List Nat) : neX (.lst (l.map nD)) (.lst []) = some (!decide (l = [])) := by
  unfold neX
  rw [if_pos ⟨(D.nice.plain (nN_nice l)).1, rfl, Nat.le_trans (Nat.min_le_right _ _) (by decide)⟩]
  cases l <;> rfl
theorem eqX_nilN (l : List Nat) : eqX (.lst (l.map nD)) (.lst []) = some (decide (l = [])) := by
  unfold eqX
  rw [if_pos ⟨(D.nice.plain (nN_nice l)).1, rfl, Nat.le_trans (Nat.min_le_right _ _) (by decide)⟩]
  cases l <;> rfl
theorem shared_ok {T : List (List Int)} {k : Nat} (h : TabB T k) (h1 : 1 ≤ T.length) : m_law_shared (setD T) = some (resT T) := by
  have sz := size_def
  have hT := h.len
  have hk := h.kb
  have sl := shL_len T []
  have sl2 : T.length * (0 + T.length) ≤ 10000 := by
    rw [Nat.zero_add]
    exact Nat.mul_le_mul hT hT
  rw [List.length_nil] at sl
  unfold m_law_shared
  rw [itX_set, Option.bind_some, mapX_map tupI (fun r => nD (cnt r)) T (by omega) fun r hr => cnt_ok (by rw [(h.row r hr).1]; exact hk)]
  rw [Option.bind_some]
  have em : (T.map fun r => nD (cnt r)) = (T.map cnt).map nD := by rw [List.map_map]; rfl
  rw [em]
  show ((some (enumL 0 (T.map tupI))).bind fun t7 => _) = _
  rw [Option.bind_some]
  have rf : foldX (m_law_shared_f3 (setD T) ((T.map cnt).map nD)) (enumL 0 (T.map tupI)) [] = some ((shL [] T).map nD) := lrows_fold h ((T.map cnt).map nD) T [] [] rfl (by rw [List.length_nil]; omega)
  rw [rf, Option.bind_some]
  unfold resT
  obtain ⟨x, l, ex⟩ : ∃ x l, T.map cnt = x :: l := by
    cases e : T.map cnt with
    | nil => have := congrArg List.length e; rw [List.length_map] at this; simp at this; rw [this] at h1; simp at h1
    | cons x l => exact ⟨x, l, rfl⟩
  rw [ex]
  obtain ⟨a, b, ea, eb, eab⟩ := minmax x l
  rw [ea, Option.bind_some, eb, Option.bind_some, neX_i, Option.bind_some, eab]
  dsimp only
  cases hs : sameL x l with
  | false => rfl
  | true =>
    rw [if_neg (by decide), neX_nilN, Option.bind_some, if_pos rfl]
    have g0 : getX (.lst ((x :: l).map nD)) (.int 0) = some (nD x) := getX_nat (n := 0) rfl
    cases ey : shL [] T with
    | nil =>
      rw [decide_eq_true rfl, if_neg (by decide), Option.bind_some, Option.bind_some, if_neg (by decide), g0, Option.bind_some, eqX_nilN, Option.bind_some, decide_eq_true rfl, if_pos rfl, Option.bind_some]
    | cons y l2 =>
      obtain ⟨c, d, ec, ed, ecd⟩ := minmax y l2
      have g1 : getX (.lst ((y :: l2).map nD)) (.int 0) = some (nD y) := getX_nat (n := 0) rfl
      rw [decide_eq_false (by simp), if_pos (by decide), ec, Option.bind_some, ed, Option.bind_some, neX_i, Option.bind_some, Option.bind_some, Option.bind_some, ecd]
      dsimp only
      cases sameL y l2 with
      | false => rfl
      | true =>
        rw [if_neg (by decide), if_pos rfl, g0, Option.bind_some, eqX_nilN, Option.bind_some, decide_eq_false (by simp), if_neg (by decide), g1, Option.bind_some, Option.bind_some]
end
section
def colsT (T : List (List Int)) (k : Nat) : List (List Int) := (List.range k).map fun j => T.map fun r => r.getD j 0
theorem colsT_tab {T : List (List Int)} {k : Nat} (h : TabB T k) : TabB (colsT T k) T.length := by
  refine ⟨by unfold colsT; rw [List.length_map, List.length_range]; exact h.kb, h.len, fun c hc => ?_⟩
  obtain ⟨j, hj, rfl⟩ := List.mem_map.mp hc
  rw [List.mem_range] at hj
  refine ⟨List.length_map _, fun x hx => ?_⟩
  obtain ⟨r, hr, rfl⟩ := List.mem_map.mp hx
  obtain ⟨h1, h2⟩ := h.row r hr
  rw [List.getD_eq_getElem?_getD, List.getElem?_eq_getElem (by omega)]
  exact h2 _ (List.getElem_mem _)
theorem cols_ok {T : List (List Int)} {k : Nat} (h : TabB T k) (h1 : 1 ≤ T.length) {f : D → D → Option D} (hf : ∀ at_ d, f at_ d = (m_mirrored_c2 at_ d)) (c1 : D → D → Option D) (hc : ∀ t d, c1 t d = (itX t).bind fun t4 => (mapX (f d) t4).bind fun t6 => (tupleX (.lst t6)).bind fun t7 => some t7) :
    (getX (setD T) (.int 0)).bind (fun t1 => (lenX t1).bind fun t2 => (rg1X t2).bind fun t3 => (mapX (c1 (setD T)) t3).bind fun t8 => (tupleX (.lst t8)).bind fun t9 => some t9) = some (setD (colsT T k)) := by
  have sz := size_def
  have hT := h.len
  have hk := h.kb
  obtain ⟨r0, T', rfl⟩ : ∃ r0 T', T = r0 :: T' := by
    cases T with
    | nil => simp at h1
    | cons r0 T' => exact ⟨r0, T', rfl⟩
  have e0 : getX (setD (r0 :: T')) (.int 0) = some (tupI r0) := getXt_nat (n := 0) rfl
  rw [e0, Option.bind_some, show lenX (tupI r0) = some (.int (r0.map D.int).length) from rfl, Option.bind_some, List.length_map, (h.row r0 List.mem_cons_self).1, rg1X_i (by omega) (by omega), Option.bind_some, Int.toNat_natCast, range0_eq]
  rw [mapX_map (fun j : Nat => D.int (j : Int)) (fun j => tupI ((r0 :: T').map fun r => r.getD j 0)) _ (by rw [List.length_range]; omega) fun j hj => by
    rw [List.mem_range] at hj
    rw [hc, itX_set, Option.bind_some, mapX_map tupI (fun r => .int (r.getD j 0)) _ (by omega) fun r hr => by
      rw [hf]
      unfold m_mirrored_c2
      rw [get_at (by rw [(h.row r hr).1]; exact hj), Option.bind_some]]
    rw [Option.bind_some, tupleX_lst, Option.bind_some]
    unfold tupI
    rw [List.map_map]; rfl]
  rw [Option.bind_some, tupleX_lst, Option.bind_some]
  unfold colsT setD
  rw [List.map_map]; rfl
theorem mirrored_ok {T : List (List Int)} {k : Nat} (h : TabB T k) (h1 : 1 ≤ T.length) : m_mirrored (setD T) = some (setD (colsT T k)) := by
  unfold m_mirrored
  exact cols_ok h h1 (f := m_mirrored_c2) (fun _ _ => rfl) m_mirrored_c1 (fun _ _ => rfl)
theorem cnt_le (r : List Int) : cnt r ≤ r.length := List.length_filter_le _ _
theorem resT_repr {T : List (List Int)} {k : Nat} (h : TabB T k) : ∃ X, reprX (resT T) = some (.str X) := by
  have hk := h.kb
  have hn : ∃ X, reprX .non = some (.str X) := ⟨_, reprX_ok (n := 0) rfl (by decide) rfl (by decide)⟩
  have b1 : ∀ x ∈ T.map cnt, x ≤ 100 := fun x hx => by
    obtain ⟨r, hr, rfl⟩ := List.mem_map.mp hx
    have := cnt_le r
    have := (h.row r hr).1
    omega
  have b2 : ∀ (rest pre : List (List Int)), (∀ r ∈ rest, r.length ≤ 100) → ∀ x ∈ shL pre rest, x ≤ 100 := by
    intro rest
    induction rest with
    | nil => intro pre _ x hx; rw [shL] at hx; exact nomatch hx
    | cons r rest ih =>
      intro pre hr x hx
      rw [shL] at hx
      rcases List.mem_append.mp hx with hx | hx
      · obtain ⟨s, _, rfl⟩ := List.mem_map.mp hx
        have := cnt_le (andR r s)
        have h2 : (andR r s).length ≤ r.length := by unfold andR; rw [List.length_map, List.length_zip]; omega
        have := hr r List.mem_cons_self
        unfold both
        omega
      · exact ih _ (fun s hs => hr s (List.mem_cons_of_mem _ hs)) x hx
  have b3 := b2 T [] fun r hr => by rw [(h.row r hr).1]; exact hk
  unfold resT
  split
  · exact hn
  · rename_i x l ex
    have hx : x ≤ 100 := b1 x (by rw [ex]; exact List.mem_cons_self)
    have ix : (nD x).ib = true := decide_eq_true (by omega)
    split
    · split
      · refine ⟨_, reprX_ok (n := 1) (nice_tup.mpr ⟨0, rfl, fun y hy => ?_⟩) (by decide) (ibL_of fun y hy => ?_) (by show 45 + 2 + (4 + 2 + 0) + 3 ≤ _; omega)⟩
        · rcases List.mem_cons.mp hy with rfl | hy
          · rfl
          · rw [List.mem_singleton.mp hy]; rfl
        · rcases List.mem_cons.mp hy with rfl | hy
          · exact ix
          · rw [List.mem_singleton.mp hy]; rfl
      · rename_i y l2 ey
        have hy : y ≤ 100 := b3 y (by rw [ey]; exact List.mem_cons_self)
        split
        · have e : D.tup [nD x, nD y] = tupI [(x : Int), (y : Int)] := rfl
          rw [e]
          refine ⟨_, reprX_ok (tupI_nice _) (by decide) (tupI_ib fun t ht => ?_) (by have := tupI_rc [(x : Int), (y : Int)]; simp at this; omega)⟩
          rcases List.mem_cons.mp ht with rfl | ht
          · omega
          · rw [List.mem_singleton.mp ht]; omega
        · exact hn
    · exact hn
theorem same_ok {d X : D} {Y : Str} (h : X = .str Y) (e : reprX d = some X) : m_law_same d d = some (.bl true) := by
  subst h
  unfold m_law_same
  rw [e, Option.bind_some, Option.bind_some, eqX_str_self, Option.bind_some]
theorem right_ok {T : List (List Int)} {k : Nat} (h : TabB T k) (h1 : 1 ≤ T.length) (k1 : 1 ≤ k) : m_law_right (setD T) = some (.bl true) := by
  have hc := colsT_tab h
  have hc1 : 1 ≤ (colsT T k).length := by unfold colsT; rw [List.length_map, List.length_range]; exact k1
  have step : ∀ d, m_law_right_f3 (setD T) (setD (colsT T k)) () d = some (.nx ()) := fun d => by
    obtain ⟨X, hX⟩ := resT_repr h
    obtain ⟨Y, hY⟩ := resT_repr hc
    have eb : m_by_columns (setD T) = some (resT (colsT T k)) := by
      unfold m_by_columns
      rw [mirrored_ok h h1, Option.bind_some, by_rows_ok hc hc1, Option.bind_some]
    unfold m_law_right_f3
    rw [by_rows_ok h h1, Option.bind_some, shared_ok h h1, Option.bind_some, same_ok rfl hX, Option.bind_some, truX_bl, Option.bind_some, if_neg (by decide), eb, Option.bind_some, shared_ok hc hc1, Option.bind_some, same_ok rfl hY, Option.bind_some, truX_bl, Option.bind_some, Option.bind_some, if_neg (by decide)]
  have ec := cols_ok h h1 (f := m_law_right_c2) (fun _ _ => rfl) m_law_right_c1 (fun _ _ => rfl)
  unfold m_law_right
  have : ∀ (g : D → Option D), ((getX (setD T) (.int 0)).bind fun t1 => (lenX t1).bind fun t2 => (rg1X t2).bind fun t3 => (mapX (m_law_right_c1 (setD T)) t3).bind fun t8 => (tupleX (.lst t8)).bind g) = ((getX (setD T) (.int 0)).bind (fun t1 => (lenX t1).bind fun t2 => (rg1X t2).bind fun t3 => (mapX (m_law_right_c1 (setD T)) t3).bind fun t8 => (tupleX (.lst t8)).bind fun t9 => some t9)).bind g := fun g => by
    simp only [Option.bind_assoc, Option.bind_some]
  rw [this, ec, Option.bind_some, rg1X_i (by decide) (by decide), Option.bind_some, forX_unit fun d _ => step d, Option.bind_some]
  rfl
end
section
theorem foldl_mul (rs : List Int) : ∀ a : Int, rs.foldl (fun p n => p * n) a = a * prodI rs := by
  induction rs with
  | nil => intro a; simp [prodI]
  | cons n rs ih => intro a; rw [List.foldl_cons, ih]; simp only [prodI, Int.mul_assoc]
theorem how_many_ok {rs : List Int} (h : ∀ n ∈ rs, 2 ≤ n ∧ n < 2 ^ 60) : m_how_many (tupI rs) = some (.int (prodI rs)) := by
  unfold m_how_many m_product_of tupI
  have := foldX_map (step := m_product_of_f1) D.int D.int (fun p n => p * n) rs 1 fun b x hx => by
    have := h x hx
    unfold m_product_of_f1
    rw [imulX_j (by omega) (by omega)]
    rfl
  rw [foldl_mul, Int.one_mul] at this
  walk_at "xs this"
end
section
section
variable {rs : List Int} {ls : List (List Int)} {b : List Int}
theorem moved_set_ok (hr : ∀ r ∈ rs, 0 < r) (h1 : 1 ≤ rs.length) (h2 : rs.length ≤ 100) (h : Spots rs ls) (hb : Spot rs b) (hl : ls.length ≤ sizeLine) : m_moved_set (tupI rs) (setD ls) (tupI b) = some (setD (movedL rs ls b)) := by
  have sz := size_def
  have e := mapX_map (f := m_moved_set_c1 (tupI rs) (tupI b)) tupI (fun s => tupI (plusL rs s b)) ls hl fun s hs => by
    unfold m_moved_set_c1
    rw [plusI_ok hr (by omega)]
    rfl
  have e2 := sorted_spots (ls := ls.map fun s => plusL rs s b) (fun s hs => by
    obtain ⟨x, hx, rfl⟩ := List.mem_map.mp hs
    exact (spot_plus (h x hx) hb).ne h1) (by rw [List.length_map]; exact hl)
  rw [List.map_map] at e2
  unfold m_moved_set
  rw [itX_set, Option.bind_some, e, Option.bind_some]
  refine (congrArg (fun o => Option.bind o _) e2).trans ?_
  rw [Option.bind_some, tupleX_set, Option.bind_some]
  rfl
theorem foldX_put {α : Type} {step : List D → D → Option (List D)} (e g : α → D) : ∀ (xs : List α) (acc : List D), acc.length + xs.length ≤ sizeLine → (∀ acc x, x ∈ xs → acc.length < sizeLine → step acc (e x) = some (acc ++ [g x])) → foldX step (xs.map e) acc = some (acc ++ xs.map g)
  | [], acc, _, _ => by simp [foldX]
  | x :: xs, acc, hl, h => by
    rw [List.length_cons] at hl
    rw [List.map_cons, foldX, h acc x List.mem_cons_self (by omega)]
    show foldX step (xs.map e) (acc ++ [g x]) = _
    rw [foldX_put e g xs (acc ++ [g x]) (by rw [List.length_append, List.length_singleton]; omega) fun acc y hy => h acc y (List.mem_cons_of_mem _ hy), List.append_assoc]
    rfl
/-- the table of a set: by each spot, whether each spot lies on its line -/
def tabL (rs : List Int) (ls : List (List Int)) : List (List Int) := (spotsL rs).map fun b => (spotsL rs).map fun x => if minusL rs x b ∈ ls then 1 else 0
theorem tabL_tab (hr : Rings 64 rs) : TabB (tabL rs ls) (spotsL rs).length ∧ (spotsL rs).length ≤ 64 ∧ 1 ≤ (spotsL rs).length := by
  have hl := spotsL_len (rs := rs) fun n hn => by have := hr.two n hn; omega
  have hp := hr.prod
  have h1 := prodI_pos hr.two
  refine ⟨⟨by unfold tabL; rw [List.length_map]; omega, by omega, fun r hr => ?_⟩, by omega, by omega⟩
  obtain ⟨b, _, rfl⟩ := List.mem_map.mp hr
  refine ⟨List.length_map _, fun x hx => ?_⟩
  obtain ⟨y, _, rfl⟩ := List.mem_map.mp hx
  split
  · exact .inr rfl
  · exact .inl rfl
theorem less_ok (hr : ∀ r ∈ rs, 0 < r) (hl : rs.length ≤ sizeLine) (a b : List Int) : m_law_less (tupI rs) (tupI a) (tupI b) = some (tupI (minusL rs a b)) := by
  have e := minusC (f := m_law_less_c1) (fun a b r hr => by unfold m_law_less_c1; walk_at "xs") hr hl a b
  unfold m_law_less
  rw [zip3X_tupI, Option.bind_some, e, Option.bind_some, tupleX_lst, Option.bind_some]
  rfl
theorem laid_ok (hr : Rings 64 rs) (h : Spots rs ls) : m_law_laid (tupI rs) (.lst ((spotsL rs).map tupI)) (setD ls) = some (setD (tabL rs ls)) := by
  have sz := size_def
  have h2 := hr.len
  have h0 : ∀ r ∈ rs, 0 < r := fun r hm => by have := hr.two r hm; omega
  obtain ⟨_, hl, _⟩ := tabL_tab (ls := ls) hr
  unfold m_law_laid
  rw [itX_lst, Option.bind_some, mapX_map tupI (fun b => tupI ((spotsL rs).map fun x => if minusL rs x b ∈ ls then 1 else 0)) _ (by omega) fun b hb => by
    unfold m_law_laid_c1
    rw [itX_lst, Option.bind_some, mapX_map tupI (fun x => .int (if minusL rs x b ∈ ls then 1 else 0)) _ (by omega) fun x hx => by
      unfold m_law_laid_c2
      rw [less_ok h0 (by omega), Option.bind_some, in_setD, Option.bind_some, intX_bl, Option.bind_some]
      by_cases z : minusL rs x b ∈ ls
      · rw [if_pos z, decide_eq_true z]; rfl
      · rw [if_neg z, decide_eq_false z]; rfl]
    rw [Option.bind_some, tupleX_lst, Option.bind_some]
    unfold tupI
    rw [List.map_map]; rfl]
  rw [Option.bind_some, tupleX_lst, Option.bind_some]
  unfold tabL setD
  rw [List.map_map]; rfl
theorem table_of_ok (hr : Rings 64 rs) (h : Spots rs ls) (hls : ls.length ≤ 64) : m_table_of (tupI rs) (setD ls) = some (.ok (setD (tabL rs ls))) := by
  have sz := size_def
  have h2 := hr.len
  have h1 := hr.ne
  have hp := hr.prod
  have h0 : ∀ r ∈ rs, 0 < r := fun r hm => by have := hr.two r hm; omega
  obtain ⟨_, hl, _⟩ := tabL_tab (ls := ls) hr
  unfold m_table_of
  rw [how_many_ok fun n hn => ⟨hr.two n hn, by have := hr.le n hn; omega⟩, Option.bind_some, gtX_i, Option.bind_some, decide_eq_false (by omega), if_neg (by decide), spots_ok hr.two (by omega) (by omega), Option.bind_some]
  have el : m_lines (tupI rs) (setD ls) = some (.tup ((spotsL rs).map fun b => setD (movedL rs ls b))) := by
    unfold m_lines
    rw [spots_ok hr.two (by omega) (by omega), Option.bind_some, itX_tup, Option.bind_some, mapX_map tupI (fun b => setD (movedL rs ls b)) _ (by omega) fun b hb => by
      unfold m_lines_c1
      rw [moved_set_ok h0 h1 (by omega) h (spotsL_mem.mp hb) (by omega), Option.bind_some]]
    rw [Option.bind_some, tupleX_lst, Option.bind_some]
  rw [el, Option.bind_some, itX_tup, Option.bind_some]
  have ef := foldX_put (step := m_table_of_f1 (.tup ((spotsL rs).map tupI))) (fun b => setD (movedL rs ls b)) (fun b => tupI ((spotsL rs).map fun x => if minusL rs x b ∈ ls then 1 else 0)) (spotsL rs) [] (by rw [List.length_nil]; omega) fun acc b hb ha => by
    have hbs := spotsL_mem.mp hb
    unfold m_table_of_f1
    rw [itX_set, Option.bind_some, mapX_map tupI (fun s => .tup [tupI s, .bl true]) _ (by rw [movedL_len]; omega) fun s hs => by unfold m_table_of_c2; rfl]
    rw [Option.bind_some, dict_seen (by rw [movedL_len]; omega), Option.bind_some, itX_tup, Option.bind_some, mapX_map tupI (fun x => .int (if minusL rs x b ∈ ls then 1 else 0)) _ (by omega) fun x hx => by
      unfold m_table_of_c3
      rw [in_seen, Option.bind_some, intX_bl, Option.bind_some]
      have := moved_mem h hbs (spotsL_mem.mp hx)
      by_cases z : minusL rs x b ∈ ls
      · rw [if_pos z, decide_eq_true (this.mpr z)]; rfl
      · rw [if_neg z, decide_eq_false fun w => z (this.mp w)]; rfl]
    rw [Option.bind_some, tupleX_lst, Option.bind_some, appX_ok ha, Option.bind_some]
    unfold tupI
    rw [List.map_map]; rfl
  rw [ef, Option.bind_some, List.nil_append, tupleX_lst, Option.bind_some]
  unfold tabL setD
  rw [List.map_map]; rfl
end
theorem refused_ok {rs : List Int} (h : ∀ n ∈ rs, 2 ≤ n ∧ n < 2 ^ 60) (hp : 64 < prodI rs) : m_law_is_refused (tupI rs) = some (.bl true) := by
  unfold m_law_is_refused m_law_is_refused_t1
  have e : m_table_of (tupI rs) (.tup []) = some (.er "TooMany") := by
    unfold m_table_of
    rw [how_many_ok h, Option.bind_some, gtX_i, Option.bind_some, decide_eq_true hp, if_pos rfl]
  have e2 : m_law_is_refused_t1x (tupI rs) (.bl false) "TooMany" = some (.bl true) := by rfl
  rw [e, bindE_er, e2, Option.bind_some]
theorem tab_repr {T : List (List Int)} {k : Nat} (h : TabB T k) : ∃ X, reprX (setD T) = some (.str X) := by
  have hT := h.len
  have hk := h.kb
  refine ⟨_, reprX_ok (setD_nice _) (by decide) (setD_ib fun s hs x hx => ?_) ?_⟩
  · rcases (h.row s hs).2 x hx with rfl | rfl <;> decide
  · have := setD_rc (ls := T) (k := 100) fun s hs => by rw [(h.row s hs).1]; exact hk
    have : T.length * (100 * 47 + 5) ≤ 100 * (100 * 47 + 5) := Nat.mul_le_mul_right _ hT
    omega
theorem Tab.tabB {a b : Nat} {T : List (List Int)} (h : Tab a b T) (ha : a ≤ 100) (hb : b ≤ 100) : ∃ k, TabB T k ∧ 1 ≤ k := by
  obtain ⟨k, k1, k2, hk⟩ := h.c
  exact ⟨k, ⟨by have := h.r2; omega, by omega, fun r hr => ⟨hk r hr, h.b r hr⟩⟩, k1⟩
def wideR : List (List Int) := [[64], [8, 8], [4, 16], [2, 2, 4, 4]]
theorem wide_ok : ∀ rs ∈ wideR, Rings 64 rs := fun rs h => by
  unfold wideR at h
  simp only [List.mem_cons, List.not_mem_nil, or_false] at h
  rcases h with rfl | rfl | rfl | rfl
  · exact ⟨by decide, by decide, by decide, by decide⟩
  · exact ⟨by decide, by decide, by decide, by decide⟩
  · exact ⟨by decide, by decide, by decide, by decide⟩
  · exact ⟨by decide, by decide, by decide, by decide⟩
theorem take_eq {n : Nat} {p : List D} {m : Int} (h : PotOk n p) (hn : n < 2 ^ 60) (h0 : 0 < m) (h1 : m < 2 ^ 62) : ∃ (i : Int) (q : List D), m_law_take p (.int m) = some (.int i, q) ∧ 0 ≤ i ∧ i < m ∧ PotOk (n + 1) q := by
  obtain ⟨⟨d, q⟩, e, i, rfl, h2, h3, h4⟩ := oP_ex (take_ok h hn h0 h1)
  exact ⟨i, q, e, h2, h3, h4⟩
theorem some_ok {rs : List Int} (hr : Rings 64 rs) {n : Nat} {p : List D} (hp : PotOk n p) (hn : n < 1000) {much : Int} (m0 : 0 < much) (m1 : much < 100) : ∃ (ls : List (List Int)) (q : List D), fmapSX (m_law_c2 (.int much)) ((spotsL rs).map tupI) p = some (ls.map tupI, q) ∧ Spots rs ls ∧ ls.length ≤ 64 ∧ PotOk (n + 64) q := by
  have sz := size_def
  obtain ⟨_, hl, _⟩ := tabL_tab (ls := []) hr
  obtain ⟨l, q, e, h1, h2, h3⟩ := fmapSX_inv (f := m_law_c2 (.int much)) (fun i s => PotOk (n + i) s) (fun z => ∃ s, z = tupI s ∧ Spot rs s) (ds := (spotsL rs).map tupI) (s := p) (by rw [List.length_map]; omega) hp (fun i d s hi hs => by
    obtain ⟨x, hx, rfl⟩ := List.mem_map.mp (List.mem_of_getElem? hi)
    have hi' := (List.getElem?_eq_some_iff.mp hi).1
    rw [List.length_map] at hi'
    obtain ⟨w, q, e, _, _, h2⟩ := take_eq (m := much) hs (by omega) m0 (by omega)
    unfold m_law_c2
    rw [e, Option.bind_some, eqX_i, Option.bind_some]
    split
    · exact ⟨_, _, rfl, fun z hz => ⟨x, (Option.some.inj hz).symm, spotsL_mem.mp hx⟩, h2⟩
    · exact ⟨_, _, rfl, fun z hz => (nomatch hz), h2⟩)
  obtain ⟨ls, rfl, hls⟩ := map_of (f := tupI) (P := fun s => Spot rs s) (l := l) h2
  rw [List.length_map, List.length_map] at h1
  rw [List.length_map] at h3
  exact ⟨ls, q, e, hls, by omega, h3.mono (by omega)⟩
theorem f1_ok {ns : List Int} {i : Nat} (hi : i < 4) : m_law_f1 (.scr (ns.map D.int)) () (.int i) = some (.nx ()) := by
  have sz := size_def
  unfold m_law_f1
  obtain ⟨p0, e0, hp0⟩ := oP_ex (pot_ok (ns := ns) (k := i) (by omega) (by omega))
  obtain ⟨w, p1, e1, _, _, h1⟩ := take_eq (m := 8) hp0 (by omega) (by decide) (by decide)
  rw [e0, Option.bind_some, e1, Option.bind_some, eqX_i, Option.bind_some]
  obtain ⟨rs, p2, e2, hr, h2⟩ : ∃ rs p2, (if decide (w = 0) = true then (m_law_take p1 (.int 4)).bind fun t8 => (getX (.lst [(.tup [(.int 64)]), (.tup [(.int 8), (.int 8)]), (.tup [(.int 4), (.int 16)]), (.tup [(.int 2), (.int 2), (.int 4), (.int 4)])]) t8.1).bind fun t9 => some (t9, t8.2) else (m_law_rings p1 (.int 30)).bind fun t10 => some (t10.1, t10.2)) = some (tupI rs, p2) ∧ Rings 64 rs ∧ PotOk 30 p2 := by
    split
    · obtain ⟨x, q, e, x0, x1, hq⟩ := take_eq (m := 4) h1 (by omega) (by decide) (by decide)
      rw [e, Option.bind_some]
      obtain ⟨y, hy, _, ey⟩ := getX_lst (l := wideR.map tupI) (i := x) x0 x1
      obtain ⟨rs, hrs, rfl⟩ := List.mem_map.mp hy
      refine ⟨rs, q, ?_, wide_ok rs hrs, hq.mono (by omega)⟩
      show ((getX (.lst (wideR.map tupI)) (.int x)).bind _) = _
      rw [ey, Option.bind_some]
    · obtain ⟨⟨d, q⟩, e, rs, rfl, hrs, hq⟩ := oP_ex (brings_ok h1 (by omega) (most := 30) (by decide) (by decide))
      rw [e, Option.bind_some]
      exact ⟨rs, q, rfl, Rings.mono hrs (by decide), hq.mono (by omega)⟩
  rw [e2, Option.bind_some]
  have hp := hr.prod
  have hlen := hr.len
  obtain ⟨x, p3, e3, x0, x1, h3⟩ := take_eq (m := 4) h2 (by omega) (by decide) (by decide)
  rw [board_ok hr.two (by omega) (by omega), Option.bind_some, e3, Option.bind_some]
  obtain ⟨much, em, m0, m1⟩ : ∃ much : Int, getX (.lst [(.int 2), (.int 3), (.int 6), (.int 1)]) (.int x) = some (.int much) ∧ 0 < much ∧ much < 100 := by
    have : x = 0 ∨ x = 1 ∨ x = 2 ∨ x = 3 := by omega
    rcases this with rfl | rfl | rfl | rfl
    · exact ⟨2, rfl, by decide, by decide⟩
    · exact ⟨3, rfl, by decide, by decide⟩
    · exact ⟨6, rfl, by decide, by decide⟩
    · exact ⟨1, rfl, by decide, by decide⟩
  rw [em, Option.bind_some, itX_lst, Option.bind_some]
  obtain ⟨ls, p4, e4, hs, hl, h4⟩ := some_ok hr h3 (by omega) m0 m1
  obtain ⟨tb, tl, t1⟩ := tabL_tab (ls := ls) hr
  have tlen : 1 ≤ (tabL rs ls).length := by unfold tabL; rw [List.length_map]; exact t1
  obtain ⟨X, hX⟩ := tab_repr tb
  rw [e4, Option.bind_some, tupleX_lst, Option.bind_some, rg1X_i (by decide) (by decide), Option.bind_some]
  rw [forX_unit fun d hd => by
    show m_law_f3 (.scr (ns.map D.int)) p4 (tupI rs) (.lst ((spotsL rs).map tupI)) (setD ls) () d = _
    unfold m_law_f3
    rw [table_of_ok hr hs hl, Option.bind_some, Ex.un_ok, Option.bind_some, laid_ok hr hs, Option.bind_some, same_ok rfl hX, Option.bind_some, truX_bl, Option.bind_some, if_neg (by decide)]]
  rw [Option.bind_some, SO.cs_nx]
  show ((m_law_laid (tupI rs) (.lst ((spotsL rs).map tupI)) (setD ls)).bind _) = _
  rw [laid_ok hr hs, Option.bind_some, right_ok tb tlen t1, Option.bind_some, truX_bl, Option.bind_some, if_neg (by decide)]
  obtain ⟨y, p5, e5, y0, y1, h5⟩ := take_eq (m := 28) h4 (by omega) (by decide) (by decide)
  rw [e5, Option.bind_some, addX_i, Option.bind_some]
  obtain ⟨z, p6, e6, z0, z1, h6⟩ := take_eq (m := 4) h5 (by omega) (by decide) (by decide)
  rw [e6, Option.bind_some]
  obtain ⟨rs2, er, hr2, hp2⟩ : ∃ rs2 : List Int, getX (.lst [(.tup [(.int 65)]), (.tup [(.int 200)]), (.tup [(.int 2), (.int 33)]), (.tup [(.int 5), (.int (13 + y))])]) (.int z) = some (tupI rs2) ∧ (∀ n ∈ rs2, 2 ≤ n ∧ n < 2 ^ 60) ∧ 64 < prodI rs2 := by
    have : z = 0 ∨ z = 1 ∨ z = 2 ∨ z = 3 := by omega
    rcases this with rfl | rfl | rfl | rfl
    · exact ⟨[65], rfl, by decide, by decide⟩
    · exact ⟨[200], rfl, by decide, by decide⟩
    · exact ⟨[2, 33], rfl, by decide, by decide⟩
    · refine ⟨[5, 13 + y], rfl, fun n hn => ?_, ?_⟩
      · rcases List.mem_cons.mp hn with rfl | hn
        · decide
        · rw [List.mem_singleton.mp hn]; omega
      · show 64 < 5 * ((13 + y) * 1)
        omega
  rw [er, Option.bind_some, refused_ok hr2 hp2, Option.bind_some, truX_bl, Option.bind_some, if_neg (by decide)]
theorem c4_ok {ns : List Int} {i : Nat} (hi : i < 100) : m_law_c4 (.scr (ns.map D.int)) (.int i) = some (.bl true) := by
  unfold m_law_c4
  obtain ⟨p0, e0, hp0⟩ := oP_ex (pot_ok (ns := ns) (k := 7 + (i : Int)) (by omega) (by omega))
  obtain ⟨⟨d, q⟩, e1, ht, _⟩ := oP_ex (table_ok hp0 (by omega))
  obtain ⟨T, rfl, hT⟩ := ht.tab
  obtain ⟨k, hk, k1⟩ := hT.tabB (by decide) (by decide)
  rw [addX_i, Option.bind_some, e0, Option.bind_some, e1, Option.bind_some]
  show ((m_law_right (setD T)).bind _) = _
  rw [right_ok hk hT.r1 k1, Option.bind_some]
theorem law_true (ns : List Int) (hn : ns.length ≤ 63) : m_law (.scr (ns.map D.int)) = some (.bl true) := by
  have sz := size_def
  refine oP_eq ?_
  unfold m_law
  rw [lenX_scr, Option.bind_some, List.length_map, min2X_i, Option.bind_some, max2X_i, Option.bind_some]
  obtain ⟨n, en, n4⟩ : ∃ n : Nat, (if (if (4 : Int) < (ns.length : Int) then (4 : Int) else (ns.length : Int)) > 1 then (if (4 : Int) < (ns.length : Int) then (4 : Int) else (ns.length : Int)) else 1) = (n : Int) ∧ n ≤ 4 := by
    refine ⟨max 1 (min ns.length 4), ?_, by omega⟩
    split <;> split <;> omega
  rw [en, rg1X_i (by omega) (by omega), Option.bind_some, Int.toNat_natCast, forX_unit fun d hd => by
    obtain ⟨i, hi⟩ := List.mem_iff_getElem?.mp hd
    obtain ⟨hi', rfl⟩ := in_range hi
    exact f1_ok (by omega)]
  rw [Option.bind_some, SO.cs_nx, Option.bind_some, min2X_i, Option.bind_some, addX_i, Option.bind_some]
  obtain ⟨m, em, m4⟩ : ∃ m : Nat, 1 + (if (6 : Int) < (ns.length : Int) then (6 : Int) else (ns.length : Int)) = (m : Int) ∧ m ≤ 7 := by
    refine ⟨1 + min ns.length 6, ?_, by omega⟩
    split <;> omega
  rw [em, rg1X_i (by omega) (by omega), Option.bind_some, Int.toNat_natCast, mapX_id (fun _ => D.bl true) _ (by rw [rangeD_len]; omega) fun d hd => by
    obtain ⟨i, hi⟩ := List.mem_iff_getElem?.mp hd
    obtain ⟨hi', rfl⟩ := in_range hi
    exact c4_ok (by omega)]
  rw [Option.bind_some]
  have ea : allX (.lst ((rangeD 0 1 m).map fun _ => D.bl true)) = some true := by
    have := allX_ok ((rangeD 0 1 m).map fun _ => true)
    rw [List.map_map, List.all_map] at this
    rw [show (fun _ : D => D.bl true) = D.bl ∘ fun _ => true from rfl, this]
    congr 1
    exact List.all_eq_true.mpr fun _ _ => rfl
  rw [ea, Option.bind_some]
  rfl
end
end TL
namespace TL
open PySem PySem.Spec PyProof.Rows L2
def sp_law : TSpec := spLaw
theorem ok_law : ∀ args PQ PX, sp_law args PQ PX → w_law (fnX args PX) (start0 10 args) (fnD args PQ) := by
  rintro args PQ PX ⟨ns, rfl, hn, hq⟩
  rw [e_law, law_true ns hn]; exact hq
theorem hl_law : ∀ args PQ PX, sp_law args PQ PX → args.length = 1 := by
  rintro args PQ PX ⟨ns, rfl, h⟩; rfl
def topS (i : Nat) : Stmt := PySem.Challenge.pw_evendiffs_k62_tables_told.main.body.getD i (.Pass ⟨0, 0, 0, 0⟩)
structure Txt (K : PySem.W.Frag) (mg : Str → Option Value) : Prop where
  b_ValueError : mg "ValueError" = none
  b_abs : mg "abs" = none
  b_all : mg "all" = none
  b_dict : mg "dict" = none
  b_enumerate : mg "enumerate" = none
  b_int : mg "int" = none
  b_isinstance : mg "isinstance" = none
  b_len : mg "len" = none
  b_max : mg "max" = none
  b_min : mg "min" = none
  b_range : mg "range" = none
  b_repr : mg "repr" = none
  b_sorted : mg "sorted" = none
  b_tuple : mg "tuple" = none
  b_zip : mg "zip" = none
  c_MOST_LAID : ∃ t, mg "MOST_LAID" = some (.int 64 t)
  k_EvenError : ClsF K mg "EvenError"
  k_NoWay : ClsF K mg "NoWay"
  k_TooMany : ClsF K mg "TooMany"
  r_TooMany : RaiseF K mg "TooMany"
  t_EvenError : TryF K mg ["TooMany"] "EvenError"
  xt : XTab K ["TooMany"] ["NoWay", "TooMany"]
abbrev s_product_of : Stmt := topS 5
abbrev n_product_of : List Str := ["some", "found", "one"]
abbrev p_product_of : List Str := ["some"]
theorem sc_product_of : FnScope n_product_of p_product_of (defScope s_product_of) := ⟨rfl, rfl, rfl, by decide +kernel, rfl, by decide +kernel, by decide +kernel⟩
abbrev s_spots : Stmt := topS 7
abbrev n_spots : List Str := ["rings", "found", "size", "longer", "spot", "place"]
abbrev p_spots : List Str := ["rings"]
theorem sc_spots : FnScope n_spots p_spots (defScope s_spots) := ⟨rfl, rfl, rfl, by decide +kernel, rfl, by decide +kernel, by decide +kernel⟩
abbrev s_plus : Stmt := topS 8
abbrev n_plus : List Str := ["rings", "a", "b", "one", "other", "size"]
abbrev p_plus : List Str := ["rings", "a", "b"]
theorem sc_plus : FnScope n_plus p_plus (defScope s_plus) := ⟨rfl, rfl, rfl, by decide +kernel, rfl, by decide +kernel, by decide +kernel⟩
abbrev s_packed : Stmt := topS 16
abbrev n_packed : List Str := ["row", "number", "cell"]
abbrev p_packed : List Str := ["row"]
theorem sc_packed : FnScope n_packed p_packed (defScope s_packed) := ⟨rfl, rfl, rfl, by decide +kernel, rfl, by decide +kernel, by decide +kernel⟩
abbrev s_ones_in : Stmt := topS 17
abbrev n_ones_in : List Str := ["number", "many"]
abbrev p_ones_in : List Str := ["number"]
theorem sc_ones_in : FnScope n_ones_in p_ones_in (defScope s_ones_in) := ⟨rfl, rfl, rfl, by decide +kernel, rfl, by decide +kernel, by decide +kernel⟩
abbrev s_one_for_all : Stmt := topS 18
abbrev n_one_for_all : List Str := ["numbers", "number"]
abbrev p_one_for_all : List Str := ["numbers"]
theorem sc_one_for_all : FnScope n_one_for_all p_one_for_all (defScope s_one_for_all) := ⟨rfl, rfl, rfl, by decide +kernel, rfl, by decide +kernel, by decide +kernel⟩
abbrev s_mirrored : Stmt := topS 20
abbrev n_mirrored : List Str := ["table", "at", "row"]
abbrev p_mirrored : List Str := ["table"]
theorem sc_mirrored : FnScope n_mirrored p_mirrored (defScope s_mirrored) := ⟨rfl, rfl, rfl, by decide +kernel, rfl, by decide +kernel, by decide +kernel⟩
abbrev s_law_pot : Stmt := topS 23
abbrev n_law_pot : List Str := ["_law_script", "_law_k", "_law_cell", "_law_mixed"]
abbrev p_law_pot : List Str := ["_law_script", "_law_k"]
theorem sc_law_pot : FnScope n_law_pot p_law_pot (defScope s_law_pot) := ⟨rfl, rfl, rfl, by decide +kernel, rfl, by decide +kernel, by decide +kernel⟩
abbrev s_law_take : Stmt := topS 24
abbrev n_law_take : List Str := ["_law_pot_here", "_law_many", "_law_digit", "_law_mixed"]
abbrev p_law_take : List Str := ["_law_pot_here", "_law_many"]
theorem sc_law_take : FnScope n_law_take p_law_take (defScope s_law_take) := ⟨rfl, rfl, rfl, by decide +kernel, rfl, by decide +kernel, by decide +kernel⟩
abbrev s_law_size : Stmt := topS 26
abbrev n_law_size : List Str := ["_law_rings_here", "_law_found", "_law_size_here"]
abbrev p_law_size : List Str := ["_law_rings_here"]
theorem sc_law_size : FnScope n_law_size p_law_size (defScope s_law_size) := ⟨rfl, rfl, rfl, by decide +kernel, rfl, by decide +kernel, by decide +kernel⟩
abbrev s_law_board : Stmt := topS 27
abbrev n_law_board : List Str := ["_law_rings_here", "_law_found", "_law_size_here", "_law_longer", "_law_one", "_law_part"]
abbrev p_law_board : List Str := ["_law_rings_here"]
theorem sc_law_board : FnScope n_law_board p_law_board (defScope s_law_board) := ⟨rfl, rfl, rfl, by decide +kernel, rfl, by decide +kernel, by decide +kernel⟩
abbrev s_law_less : Stmt := topS 28
abbrev n_law_less : List Str := ["_law_rings_here", "_law_one", "_law_other", "_law_a", "_law_b", "_law_size_here"]
abbrev p_law_less : List Str := ["_law_rings_here", "_law_one", "_law_other"]
theorem sc_law_less : FnScope n_law_less p_law_less (defScope s_law_less) := ⟨rfl, rfl, rfl, by decide +kernel, rfl, by decide +kernel, by decide +kernel⟩
abbrev s_law_shared : Stmt := topS 31
abbrev n_law_shared : List Str := ["_law_rows", "_law_ones", "_law_row", "_law_cell", "_law_both_ones", "_law_at", "_law_one", "_law_other", "_law_k"]
abbrev p_law_shared : List Str := ["_law_rows"]
theorem sc_law_shared : FnScope n_law_shared p_law_shared (defScope s_law_shared) := ⟨rfl, rfl, rfl, by decide +kernel, rfl, by decide +kernel, by decide +kernel⟩
abbrev s_law_same : Stmt := topS 32
abbrev n_law_same : List Str := ["_law_found", "_law_due"]
abbrev p_law_same : List Str := ["_law_found", "_law_due"]
theorem sc_law_same : FnScope n_law_same p_law_same (defScope s_law_same) := ⟨rfl, rfl, rfl, by decide +kernel, rfl, by decide +kernel, by decide +kernel⟩
abbrev s_how_many : Stmt := topS 6
abbrev n_how_many : List Str := ["rings"]
abbrev p_how_many : List Str := ["rings"]
theorem sc_how_many : FnScope n_how_many p_how_many (defScope s_how_many) := ⟨rfl, rfl, rfl, by decide +kernel, rfl, by decide +kernel, by decide +kernel⟩
abbrev s_moved_set : Stmt := topS 10
abbrev n_moved_set : List Str := ["rings", "some", "by", "spot"]
abbrev p_moved_set : List Str := ["rings", "some", "by"]
theorem sc_moved_set : FnScope n_moved_set p_moved_set (defScope s_moved_set) := ⟨rfl, rfl, rfl, by decide +kernel, rfl, by decide +kernel, by decide +kernel⟩
abbrev s_by_rows : Stmt := topS 19
abbrev n_by_rows : List Str := ["table", "rows", "row", "ones", "shared", "number", "other", "together"]
abbrev p_by_rows : List Str := ["table"]
theorem sc_by_rows : FnScope n_by_rows p_by_rows (defScope s_by_rows) := ⟨rfl, rfl, rfl, by decide +kernel, rfl, by decide +kernel, by decide +kernel⟩
abbrev s_law_rings : Stmt := topS 25
abbrev n_law_rings : List Str := ["_law_pot_here", "_law_most", "_law_known", "_law_rings_here", "_law_way", "_law_found"]
abbrev p_law_rings : List Str := ["_law_pot_here", "_law_most"]
theorem sc_law_rings : FnScope n_law_rings p_law_rings (defScope s_law_rings) := ⟨rfl, rfl, rfl, by decide +kernel, rfl, by decide +kernel, by decide +kernel⟩
abbrev s_law_table : Stmt := topS 29
abbrev n_law_table : List Str := ["_law_pot_here", "_law_way", "_law_rows", "_law_columns", "_law_size_here", "_law_bits", "_law_at", "_law_row", "_law_some", "_law_chosen"]
abbrev p_law_table : List Str := ["_law_pot_here"]
theorem sc_law_table : FnScope n_law_table p_law_table (defScope s_law_table) := ⟨rfl, rfl, rfl, by decide +kernel, rfl, by decide +kernel, by decide +kernel⟩
abbrev s_law_laid : Stmt := topS 30
abbrev n_law_laid : List Str := ["_law_rings_here", "_law_board_here", "_law_some", "_law_by", "_law_spot"]
abbrev p_law_laid : List Str := ["_law_rings_here", "_law_board_here", "_law_some"]
theorem sc_law_laid : FnScope n_law_laid p_law_laid (defScope s_law_laid) := ⟨rfl, rfl, rfl, by decide +kernel, rfl, by decide +kernel, by decide +kernel⟩
abbrev s_lines : Stmt := topS 12
abbrev n_lines : List Str := ["rings", "some", "spot"]
abbrev p_lines : List Str := ["rings", "some"]
theorem sc_lines : FnScope n_lines p_lines (defScope s_lines) := ⟨rfl, rfl, rfl, by decide +kernel, rfl, by decide +kernel, by decide +kernel⟩
abbrev s_by_columns : Stmt := topS 21
abbrev n_by_columns : List Str := ["table"]
abbrev p_by_columns : List Str := ["table"]
theorem sc_by_columns : FnScope n_by_columns p_by_columns (defScope s_by_columns) := ⟨rfl, rfl, rfl, by decide +kernel, rfl, by decide +kernel, by decide +kernel⟩
abbrev s_table_of : Stmt := topS 15
abbrev n_table_of : List Str := ["rings", "some", "board", "laid", "line", "there", "spot"]
abbrev p_table_of : List Str := ["rings", "some"]
theorem sc_table_of : FnScope n_table_of p_table_of (defScope s_table_of) := ⟨rfl, rfl, rfl, by decide +kernel, rfl, by decide +kernel, by decide +kernel⟩
abbrev s_law_right : Stmt := topS 34
abbrev n_law_right : List Str := ["_law_told", "_law_columns", "_law_at", "_law_row", "_law_again"]
abbrev p_law_right : List Str := ["_law_told"]
theorem sc_law_right : FnScope n_law_right p_law_right (defScope s_law_right) := ⟨rfl, rfl, rfl, by decide +kernel, rfl, by decide +kernel, by decide +kernel⟩
abbrev s_law_is_refused : Stmt := topS 33
abbrev n_law_is_refused : List Str := ["_law_rings_here", "_law_found", "error"]
abbrev p_law_is_refused : List Str := ["_law_rings_here"]
theorem sc_law_is_refused : FnScope n_law_is_refused p_law_is_refused (defScope s_law_is_refused) := ⟨rfl, rfl, rfl, by decide +kernel, rfl, by decide +kernel, by decide +kernel⟩
abbrev s_law : Stmt := topS 35
abbrev n_law : List Str := ["_law_script", "_law_cell", "_law_pot_here", "_law_wide", "_law_rings_here", "_law_board_here", "_law_much", "_law_some", "_law_again", "_law_spot"]
abbrev p_law : List Str := ["_law_script"]
theorem sc_law : FnScope n_law p_law (defScope s_law) := ⟨rfl, rfl, rfl, by decide +kernel, rfl, by decide +kernel, by decide +kernel⟩
section
variable {P : Program} {w : World} {K : PySem.W.Frag} {mg : Str → Option Value} {base : Heap}
theorem tr_product_of (T : Txt K mg)  (f : Addr) (B : Base) (cdv : Value) (A : Around) (outer : List Env) (s : Shared) (H : Hp) (E : XK) (hr : RoomG 0 (A.deeper (envOfC "product_of" (defScope s_product_of) s.heap.objs.size f cdv))) :
    PSsT B (cxOf (L2N.CX P w) P w K mg base n_product_of "product_of" (defScope s_product_of) f cdv A outer s H E) (defBody s_product_of) w_product_of := by
  have nd := sc_product_of.nd
  have hu : (cxOf (L2N.CX P w) P w K mg base n_product_of "product_of" (defScope s_product_of) f cdv A outer s H E).A.units + 66 < cLine := by have := hr.un; show (A.deeper (envOfC "product_of" (defScope s_product_of) s.heap.objs.size f cdv)).units + 66 < cLine; omega
  have hu1 : (cxOf (L2N.CX P w) P w K mg base n_product_of "product_of" (defScope s_product_of) f cdv A outer s H E).A.units + 1 < cLine := by omega
  exact S_seq (S_set 1 nd (T_fr (T_int)))
    (S_seq (S_for (IT_gh (IT_seq (T_var 0))) (G_name 2 nd)
    (S_ghE (S_one (S_aug 1 nd I_mul (T_var 2)))))
    (S_one (S_retG (T_fr (T_var 1)))))
theorem cal_product_of (T : Txt K mg) (d_product_of : Def K mg "product_of" s_product_of p_product_of)  : CalG P w K mg base 1 "product_of" 1 sp_product_of :=
  calG_of d_product_of sc_product_of hl_product_of (fun f B cdv A outer s H E hr => tr_product_of T  f B cdv A outer s H E hr) ok_product_of
theorem tr_spots (T : Txt K mg)  (f : Addr) (B : Base) (cdv : Value) (A : Around) (outer : List Env) (s : Shared) (H : Hp) (E : XK) (hr : RoomG 0 (A.deeper (envOfC "spots" (defScope s_spots) s.heap.objs.size f cdv))) :
    PSsT B (cxOf (L2N.CX P w) P w K mg base n_spots "spots" (defScope s_spots) f cdv A outer s H E) (defBody s_spots) w_spots := by
  have nd := sc_spots.nd
  have hu : (cxOf (L2N.CX P w) P w K mg base n_spots "spots" (defScope s_spots) f cdv A outer s H E).A.units + 66 < cLine := by have := hr.un; show (A.deeper (envOfC "spots" (defScope s_spots) s.heap.objs.size f cdv)).units + 66 < cLine; omega
  have hu1 : (cxOf (L2N.CX P w) P w K mg base n_spots "spots" (defScope s_spots) f cdv A outer s H E).A.units + 1 < cLine := by omega
  exact S_seq (S_set 1 nd (T_fr (T_lst (A_cons (T_tup (A_nil)) (A_nil)))))
    (S_seq (S_for (IT_gh (IT_seq (T_var 0))) (G_name 2 nd)
    (S_ghE (S_seq (S_set 3 nd (T_lst (A_nil)))
    (S_seq (S_for (IT_gh (IT_seq (T_var 1))) (G_name 4 nd)
    (S_ghE (S_one (S_drop (T_ext 3 (A_cons (T_lc [("place", 5)] nd (IT_G (IT_r1 T.b_range (A_cons (T_var 2) (A_nil)))) (blkOk_by (own := [("place", 5)]) (N := n_spots) (sc := defScope s_spots) (by decide +kernel)) (fun _ _ _ _ _ _ => G_name 5 nd) (fun _ _ _ _ _ _ => C_nil) (fun _ _ _ _ _ _ => T_bin O_add (T_var 4) (T_tup (A_cons (T_var 5) (A_nil))))) (A_nil)))))))
    (S_one (S_set 1 nd (T_fr (T_var 3))))))))
    (S_one (S_retG (T_fr (T_btyK 1 (N_tuple) T.b_tuple)))))
theorem cal_spots (T : Txt K mg) (d_spots : Def K mg "spots" s_spots p_spots)  : CalG P w K mg base 1 "spots" 1 sp_spots :=
  calG_of d_spots sc_spots hl_spots (fun f B cdv A outer s H E hr => tr_spots T  f B cdv A outer s H E hr) ok_spots
theorem tr_plus (T : Txt K mg)  (f : Addr) (B : Base) (cdv : Value) (A : Around) (outer : List Env) (s : Shared) (H : Hp) (E : XK) (hr : RoomG 0 (A.deeper (envOfC "plus" (defScope s_plus) s.heap.objs.size f cdv))) :
    PSsT B (cxOf (L2N.CX P w) P w K mg base n_plus "plus" (defScope s_plus) f cdv A outer s H E) (defBody s_plus) w_plus := by
  have nd := sc_plus.nd
  have hu : (cxOf (L2N.CX P w) P w K mg base n_plus "plus" (defScope s_plus) f cdv A outer s H E).A.units + 66 < cLine := by have := hr.un; show (A.deeper (envOfC "plus" (defScope s_plus) s.heap.objs.size f cdv)).units + 66 < cLine; omega
  have hu1 : (cxOf (L2N.CX P w) P w K mg base n_plus "plus" (defScope s_plus) f cdv A outer s H E).A.units + 1 < cLine := by omega
  exact S_one (S_retG (T_fr (T_bty (N_tuple) T.b_tuple (A_cons (T_lc [("one", 3), ("other", 4), ("size", 5)] nd (IT_G (IT_zip3 T.b_zip (A_cons (T_var 1) (A_cons (T_var 2) (A_cons (T_var 0) (A_nil)))))) (blkOk_by (own := [("one", 3), ("other", 4), ("size", 5)]) (N := n_plus) (sc := defScope s_plus) (by decide +kernel)) (fun _ _ _ _ _ _ => G_tup (G_cons (G_name 3 nd) (G_cons (G_name 4 nd) (G_cons (G_name 5 nd) (G_nil))))) (fun _ _ _ _ _ _ => C_nil) (fun _ _ _ _ _ _ => T_bin O_mod (T_bin O_add (T_var 3) (T_var 4)) (T_var 5))) (A_nil)))))
theorem cal_plus (T : Txt K mg) (d_plus : Def K mg "plus" s_plus p_plus)  : CalG P w K mg base 1 "plus" 3 sp_plus :=
  calG_of d_plus sc_plus hl_plus (fun f B cdv A outer s H E hr => tr_plus T  f B cdv A outer s H E hr) ok_plus
theorem tr_packed (T : Txt K mg)  (f : Addr) (B : Base) (cdv : Value) (A : Around) (outer : List Env) (s : Shared) (H : Hp) (E : XK) (hr : RoomG 0 (A.deeper (envOfC "packed" (defScope s_packed) s.heap.objs.size f cdv))) :
    PSsT B (cxOf (L2N.CX P w) P w K mg base n_packed "packed" (defScope s_packed) f cdv A outer s H E) (defBody s_packed) w_packed := by
  have nd := sc_packed.nd
  have hu : (cxOf (L2N.CX P w) P w K mg base n_packed "packed" (defScope s_packed) f cdv A outer s H E).A.units + 66 < cLine := by have := hr.un; show (A.deeper (envOfC "packed" (defScope s_packed) s.heap.objs.size f cdv)).units + 66 < cLine; omega
  have hu1 : (cxOf (L2N.CX P w) P w K mg base n_packed "packed" (defScope s_packed) f cdv A outer s H E).A.units + 1 < cLine := by omega
  exact S_seq (S_set 1 nd (T_fr (T_int)))
    (S_seq (S_for (IT_gh (IT_seq (T_var 0))) (G_name 2 nd)
    (S_ghE (S_one (S_set 1 nd (T_fr (T_bin O_add (T_bin O_mulA (T_var 1) (T_int)) (T_var 2)))))))
    (S_one (S_retG (T_fr (T_var 1)))))
theorem cal_packed (T : Txt K mg) (d_packed : Def K mg "packed" s_packed p_packed)  : CalG P w K mg base 1 "packed" 1 sp_packed :=
  calG_of d_packed sc_packed hl_packed (fun f B cdv A outer s H E hr => tr_packed T  f B cdv A outer s H E hr) ok_packed
theorem tr_ones_in (T : Txt K mg)  (f : Addr) (B : Base) (cdv : Value) (A : Around) (outer : List Env) (s : Shared) (H : Hp) (E : XK) (hr : RoomG 0 (A.deeper (envOfC "ones_in" (defScope s_ones_in) s.heap.objs.size f cdv))) :
    PSsT B (cxOf (L2N.CX P w) P w K mg base n_ones_in "ones_in" (defScope s_ones_in) f cdv A outer s H E) (defBody s_ones_in) w_ones_in := by
  have nd := sc_ones_in.nd
  have hu : (cxOf (L2N.CX P w) P w K mg base n_ones_in "ones_in" (defScope s_ones_in) f cdv A outer s H E).A.units + 66 < cLine := by have := hr.un; show (A.deeper (envOfC "ones_in" (defScope s_ones_in) s.heap.objs.size f cdv)).units + 66 < cLine; omega
  have hu1 : (cxOf (L2N.CX P w) P w K mg base n_ones_in "ones_in" (defScope s_ones_in) f cdv A outer s H E).A.units + 1 < cLine := by omega
  exact S_seq (S_set 1 nd (T_fr (T_int)))
    (S_seq (S_while (TT_cmp O_gt (T_var 0) (T_int) (nomark _))
    (S_seq (S_set 0 nd (T_fr (T_bin O_and (T_var 0) (T_bin O_sub (T_var 0) (T_int)))))
    (S_one (S_aug 1 nd I_add (T_int)))))
    (S_one (S_retG (T_fr (T_var 1)))))
theorem cal_ones_in (T : Txt K mg) (d_ones_in : Def K mg "ones_in" s_ones_in p_ones_in)  : CalG P w K mg base 1 "ones_in" 1 sp_ones_in :=
  calG_of d_ones_in sc_ones_in hl_ones_in (fun f B cdv A outer s H E hr => tr_ones_in T  f B cdv A outer s H E hr) ok_ones_in
theorem tr_one_for_all (T : Txt K mg)  (f : Addr) (B : Base) (cdv : Value) (A : Around) (outer : List Env) (s : Shared) (H : Hp) (E : XK) (hr : RoomG 0 (A.deeper (envOfC "one_for_all" (defScope s_one_for_all) s.heap.objs.size f cdv))) :
    PSsT B (cxOf (L2N.CX P w) P w K mg base n_one_for_all "one_for_all" (defScope s_one_for_all) f cdv A outer s H E) (defBody s_one_for_all) w_one_for_all := by
  have nd := sc_one_for_all.nd
  have hu : (cxOf (L2N.CX P w) P w K mg base n_one_for_all "one_for_all" (defScope s_one_for_all) f cdv A outer s H E).A.units + 66 < cLine := by have := hr.un; show (A.deeper (envOfC "one_for_all" (defScope s_one_for_all) s.heap.objs.size f cdv)).units + 66 < cLine; omega
  have hu1 : (cxOf (L2N.CX P w) P w K mg base n_one_for_all "one_for_all" (defScope s_one_for_all) f cdv A outer s H E).A.units + 1 < cLine := by omega
  exact S_seq (S_if (TT_tru (T_bi (N_all) T.b_all (A_cons (T_lc [("number", 1)] nd (IT_G (IT_seq (T_var 0))) (blkOk_by (own := [("number", 1)]) (N := n_one_for_all) (sc := defScope s_one_for_all) (by decide +kernel)) (fun _ _ _ _ _ _ => G_name 1 nd) (fun _ _ _ _ _ _ => C_nil) (fun _ _ _ _ _ _ => T_cmp (O_eq hu) (T_var 1) (T_subK 0 (X_get hu1) (T_int)) (nomark _))) (A_nil))))
    (S_one (S_retG (T_fr (T_subK 0 (X_get hu1) (T_int)))))
    (S_nil))
    (S_one (S_retG (T_fr (T_non))))
theorem cal_one_for_all (T : Txt K mg) (d_one_for_all : Def K mg "one_for_all" s_one_for_all p_one_for_all)  : CalG P w K mg base 1 "one_for_all" 1 sp_one_for_all :=
  calG_of d_one_for_all sc_one_for_all hl_one_for_all (fun f B cdv A outer s H E hr => tr_one_for_all T  f B cdv A outer s H E hr) ok_one_for_all
theorem tr_mirrored (T : Txt K mg)  (f : Addr) (B : Base) (cdv : Value) (A : Around) (outer : List Env) (s : Shared) (H : Hp) (E : XK) (hr : RoomG 0 (A.deeper (envOfC "mirrored" (defScope s_mirrored) s.heap.objs.size f cdv))) :
    PSsT B (cxOf (L2N.CX P w) P w K mg base n_mirrored "mirrored" (defScope s_mirrored) f cdv A outer s H E) (defBody s_mirrored) w_mirrored := by
  have nd := sc_mirrored.nd
  have hu : (cxOf (L2N.CX P w) P w K mg base n_mirrored "mirrored" (defScope s_mirrored) f cdv A outer s H E).A.units + 66 < cLine := by have := hr.un; show (A.deeper (envOfC "mirrored" (defScope s_mirrored) s.heap.objs.size f cdv)).units + 66 < cLine; omega
  have hu1 : (cxOf (L2N.CX P w) P w K mg base n_mirrored "mirrored" (defScope s_mirrored) f cdv A outer s H E).A.units + 1 < cLine := by omega
  exact S_one (S_retG (T_fr (T_bty (N_tuple) T.b_tuple (A_cons (T_lc [("at", 1)] nd (IT_G (IT_r1 T.b_range (A_cons (T_bi (N_len) T.b_len (A_cons (T_subK 0 (X_get hu1) (T_int)) (A_nil))) (A_nil)))) (blkOk_by (own := [("at", 1)]) (N := n_mirrored) (sc := defScope s_mirrored) (by decide +kernel)) (fun _ _ _ _ _ _ => G_name 1 nd) (fun _ _ _ _ _ _ => C_nil) (fun _ _ _ _ _ _ => T_bty (N_tuple) T.b_tuple (A_cons (T_lc [("row", 2)] nd (IT_G (IT_seq (T_var 0))) (blkOk_by (own := [("row", 2)]) (N := n_mirrored) (sc := { kind := PySem.ScopeKind.function, names := [ (PySem.Str.ofString ".0", PySem.NameKind.local), (PySem.Str.ofString "at", PySem.NameKind.cell), (PySem.Str.ofString "tuple", PySem.NameKind.globalImplicit), (PySem.Str.ofString "table", PySem.NameKind.cell)], isGenerator := false, isCoroutine := false, more := [] : PySem.Scope }) (by decide +kernel)) (fun _ _ _ _ _ _ => G_name 2 nd) (fun _ _ _ _ _ _ => C_nil) (fun _ _ _ _ _ _ => T_subK 2 (X_get hu1) (T_var 1))) (A_nil)))) (A_nil)))))
theorem cal_mirrored (T : Txt K mg) (d_mirrored : Def K mg "mirrored" s_mirrored p_mirrored)  : CalG P w K mg base 1 "mirrored" 1 sp_mirrored :=
  calG_of d_mirrored sc_mirrored hl_mirrored (fun f B cdv A outer s H E hr => tr_mirrored T  f B cdv A outer s H E hr) ok_mirrored
theorem tr_law_pot (T : Txt K mg)  (f : Addr) (B : Base) (cdv : Value) (A : Around) (outer : List Env) (s : Shared) (H : Hp) (E : XK) (hr : RoomG 0 (A.deeper (envOfC "_law_pot" (defScope s_law_pot) s.heap.objs.size f cdv))) :
    PSsT B (cxOf (L2N.CX P w) P w K mg base n_law_pot "_law_pot" (defScope s_law_pot) f cdv A outer s H E) (defBody s_law_pot) w_law_pot := by
  have nd := sc_law_pot.nd
  have hu : (cxOf (L2N.CX P w) P w K mg base n_law_pot "_law_pot" (defScope s_law_pot) f cdv A outer s H E).A.units + 66 < cLine := by have := hr.un; show (A.deeper (envOfC "_law_pot" (defScope s_law_pot) s.heap.objs.size f cdv)).units + 66 < cLine; omega
  have hu1 : (cxOf (L2N.CX P w) P w K mg base n_law_pot "_law_pot" (defScope s_law_pot) f cdv A outer s H E).A.units + 1 < cLine := by omega
  exact S_seq (S_set 2 nd (T_fr (T_int)))
    (S_seq (S_if (TT_cmp O_gt (T_biK 0 (N_len) T.b_len) (T_int) (nomark _))
    (S_ghE (S_one (S_set 2 nd (T_fr (T_subK 0 (X_get hu1) (T_bin O_mod (T_var 1) (T_biK 0 (N_len) T.b_len)))))))
    (S_ghE (S_nil)))
    (S_seq (S_set 3 nd (T_fr (T_bin O_mod (T_bin O_mulA (T_bin O_add (T_bin O_add (T_bin O_mod (T_var 2) (T_int)) (T_bin O_mulA (T_bin O_mulA (T_int) (T_var 1)) (T_var 1))) (T_int)) (T_int)) (T_int))))
    (S_one (S_retG (T_lst (A_cons (T_ite (TT_cmp O_ge (T_bi (N_abs) T.b_abs (A_cons (T_var 2) (A_nil))) (T_bin O_pow (T_int) (T_int)) (nomark _)) (T_fr (T_bi (N_abs) T.b_abs (A_cons (T_var 2) (A_nil)))) (T_fr (T_int))) (A_cons (T_var 3) (A_cons (T_int) (A_nil)))))))))
theorem cal_law_pot (T : Txt K mg) (d_law_pot : Def K mg "_law_pot" s_law_pot p_law_pot)  : CalG P w K mg base 1 "_law_pot" 2 sp_law_pot :=
  calG_of d_law_pot sc_law_pot hl_law_pot (fun f B cdv A outer s H E hr => tr_law_pot T  f B cdv A outer s H E hr) ok_law_pot
theorem tr_law_take (T : Txt K mg)  (f : Addr) (B : Base) (cdv : Value) (A : Around) (outer : List Env) (s : Shared) (H : Hp) (E : XK) (hr : RoomG 0 (A.deeper (envOfC "_law_take" (defScope s_law_take) s.heap.objs.size f cdv))) :
    PSsT B (cxOf (L2N.CX P w) P w K mg base n_law_take "_law_take" (defScope s_law_take) f cdv A outer s H E) (defBody s_law_take) w_law_take := by
  have nd := sc_law_take.nd
  have hu : (cxOf (L2N.CX P w) P w K mg base n_law_take "_law_take" (defScope s_law_take) f cdv A outer s H E).A.units + 66 < cLine := by have := hr.un; show (A.deeper (envOfC "_law_take" (defScope s_law_take) s.heap.objs.size f cdv)).units + 66 < cLine; omega
  have hu1 : (cxOf (L2N.CX P w) P w K mg base n_law_take "_law_take" (defScope s_law_take) f cdv A outer s H E).A.units + 1 < cLine := by omega
  exact S_seq (S_if (TT_cmp O_gt (T_subK 0 (X_get hu1) (T_int)) (T_int) (nomark _))
    (S_seq (S_set 2 nd (T_fr (T_bin O_mod (T_subK 0 (X_get hu1) (T_int)) (T_var 1))))
    (S_seq (S_put 0 hu1 (T_bin O_div (T_subK 0 (X_get hu1) (T_int)) (T_var 1)) (T_int))
    (S_one (S_retG (T_fr (T_var 2))))))
    (S_nil))
    (S_seq (S_put 0 hu1 (T_bin O_add (T_subK 0 (X_get hu1) (T_int)) (T_int)) (T_int))
    (S_seq (S_set 3 nd (T_fr (T_bin O_mod (T_bin O_mulA (T_bin O_add (T_bin O_add (T_subK 0 (X_get hu1) (T_int)) (T_bin O_mulA (T_bin O_mulA (T_int) (T_subK 0 (X_get hu1) (T_int))) (T_subK 0 (X_get hu1) (T_int)))) (T_int)) (T_int)) (T_int))))
    (S_seq (S_set 3 nd (T_fr (T_bin O_mod (T_bin O_mulA (T_var 3) (T_bin O_add (T_bin O_mod (T_var 3) (T_int)) (T_bin O_mulA (T_int) (T_subK 0 (X_get hu1) (T_int))))) (T_int))))
    (S_one (S_retG (T_fr (T_bin O_mod (T_bin O_add (T_bin O_div (T_var 3) (T_int)) (T_bin O_div (T_var 3) (T_int))) (T_var 1))))))))
theorem cal_law_take (T : Txt K mg) (d_law_take : Def K mg "_law_take" s_law_take p_law_take)  : CalG P w K mg base 1 "_law_take" 2 sp_law_take :=
  calG_of d_law_take sc_law_take hl_law_take (fun f B cdv A outer s H E hr => tr_law_take T  f B cdv A outer s H E hr) ok_law_take
theorem tr_law_size (T : Txt K mg)  (f : Addr) (B : Base) (cdv : Value) (A : Around) (outer : List Env) (s : Shared) (H : Hp) (E : XK) (hr : RoomG 0 (A.deeper (envOfC "_law_size" (defScope s_law_size) s.heap.objs.size f cdv))) :
    PSsT B (cxOf (L2N.CX P w) P w K mg base n_law_size "_law_size" (defScope s_law_size) f cdv A outer s H E) (defBody s_law_size) w_law_size := by
  have nd := sc_law_size.nd
  have hu : (cxOf (L2N.CX P w) P w K mg base n_law_size "_law_size" (defScope s_law_size) f cdv A outer s H E).A.units + 66 < cLine := by have := hr.un; show (A.deeper (envOfC "_law_size" (defScope s_law_size) s.heap.objs.size f cdv)).units + 66 < cLine; omega
  have hu1 : (cxOf (L2N.CX P w) P w K mg base n_law_size "_law_size" (defScope s_law_size) f cdv A outer s H E).A.units + 1 < cLine := by omega
  exact S_seq (S_set 1 nd (T_fr (T_int)))
    (S_seq (S_for (IT_gh (IT_seq (T_var 0))) (G_name 2 nd)
    (S_ghE (S_one (S_set 1 nd (T_fr (T_bin O_mulA (T_var 1) (T_var 2)))))))
    (S_one (S_retG (T_fr (T_var 1)))))
theorem cal_law_size (T : Txt K mg) (d_law_size : Def K mg "_law_size" s_law_size p_law_size)  : CalG P w K mg base 1 "_law_size" 1 sp_law_size :=
  calG_of d_law_size sc_law_size hl_law_size (fun f B cdv A outer s H E hr => tr_law_size T  f B cdv A outer s H E hr) ok_law_size
theorem tr_law_board (T : Txt K mg)  (f : Addr) (B : Base) (cdv : Value) (A : Around) (outer : List Env) (s : Shared) (H : Hp) (E : XK) (hr : RoomG 0 (A.deeper (envOfC "_law_board" (defScope s_law_board) s.heap.objs.size f cdv))) :
    PSsT B (cxOf (L2N.CX P w) P w K mg base n_law_board "_law_board" (defScope s_law_board) f cdv A outer s H E) (defBody s_law_board) w_law_board := by
  have nd := sc_law_board.nd
  have hu : (cxOf (L2N.CX P w) P w K mg base n_law_board "_law_board" (defScope s_law_board) f cdv A outer s H E).A.units + 66 < cLine := by have := hr.un; show (A.deeper (envOfC "_law_board" (defScope s_law_board) s.heap.objs.size f cdv)).units + 66 < cLine; omega
  have hu1 : (cxOf (L2N.CX P w) P w K mg base n_law_board "_law_board" (defScope s_law_board) f cdv A outer s H E).A.units + 1 < cLine := by omega
  exact S_seq (S_set 1 nd (T_fr (T_lst (A_cons (T_tup (A_nil)) (A_nil)))))
    (S_seq (S_for (IT_gh (IT_seq (T_var 0))) (G_name 2 nd)
    (S_ghE (S_seq (S_set 3 nd (T_lst (A_nil)))
    (S_seq (S_for (IT_gh (IT_seq (T_var 1))) (G_name 4 nd)
    (S_ghE (S_one (S_drop (T_ext 3 (A_cons (T_lc [("_law_part", 5)] nd (IT_G (IT_r1 T.b_range (A_cons (T_var 2) (A_nil)))) (blkOk_by (own := [("_law_part", 5)]) (N := n_law_board) (sc := defScope s_law_board) (by decide +kernel)) (fun _ _ _ _ _ _ => G_name 5 nd) (fun _ _ _ _ _ _ => C_nil) (fun _ _ _ _ _ _ => T_bin O_add (T_var 4) (T_tup (A_cons (T_var 5) (A_nil))))) (A_nil)))))))
    (S_one (S_set 1 nd (T_fr (T_var 3))))))))
    (S_one (S_retG (T_fr (T_var 1)))))
theorem cal_law_board (T : Txt K mg) (d_law_board : Def K mg "_law_board" s_law_board p_law_board)  : CalG P w K mg base 1 "_law_board" 1 sp_law_board :=
  calG_of d_law_board sc_law_board hl_law_board (fun f B cdv A outer s H E hr => tr_law_board T  f B cdv A outer s H E hr) ok_law_board
theorem tr_law_less (T : Txt K mg)  (f : Addr) (B : Base) (cdv : Value) (A : Around) (outer : List Env) (s : Shared) (H : Hp) (E : XK) (hr : RoomG 0 (A.deeper (envOfC "_law_less" (defScope s_law_less) s.heap.objs.size f cdv))) :
    PSsT B (cxOf (L2N.CX P w) P w K mg base n_law_less "_law_less" (defScope s_law_less) f cdv A outer s H E) (defBody s_law_less) w_law_less := by
  have nd := sc_law_less.nd
  have hu : (cxOf (L2N.CX P w) P w K mg base n_law_less "_law_less" (defScope s_law_less) f cdv A outer s H E).A.units + 66 < cLine := by have := hr.un; show (A.deeper (envOfC "_law_less" (defScope s_law_less) s.heap.objs.size f cdv)).units + 66 < cLine; omega
  have hu1 : (cxOf (L2N.CX P w) P w K mg base n_law_less "_law_less" (defScope s_law_less) f cdv A outer s H E).A.units + 1 < cLine := by omega
  exact S_one (S_retG (T_fr (T_bty (N_tuple) T.b_tuple (A_cons (T_lc [("_law_a", 3), ("_law_b", 4), ("_law_size_here", 5)] nd (IT_G (IT_zip3 T.b_zip (A_cons (T_var 1) (A_cons (T_var 2) (A_cons (T_var 0) (A_nil)))))) (blkOk_by (own := [("_law_a", 3), ("_law_b", 4), ("_law_size_here", 5)]) (N := n_law_less) (sc := defScope s_law_less) (by decide +kernel)) (fun _ _ _ _ _ _ => G_tup (G_cons (G_name 3 nd) (G_cons (G_name 4 nd) (G_cons (G_name 5 nd) (G_nil))))) (fun _ _ _ _ _ _ => C_nil) (fun _ _ _ _ _ _ => T_bin O_mod (T_bin O_sub (T_var 3) (T_var 4)) (T_var 5))) (A_nil)))))
theorem cal_law_less (T : Txt K mg) (d_law_less : Def K mg "_law_less" s_law_less p_law_less)  : CalG P w K mg base 1 "_law_less" 3 sp_law_less :=
  calG_of d_law_less sc_law_less hl_law_less (fun f B cdv A outer s H E hr => tr_law_less T  f B cdv A outer s H E hr) ok_law_less
theorem tr_law_shared (T : Txt K mg)  (f : Addr) (B : Base) (cdv : Value) (A : Around) (outer : List Env) (s : Shared) (H : Hp) (E : XK) (hr : RoomG 0 (A.deeper (envOfC "_law_shared" (defScope s_law_shared) s.heap.objs.size f cdv))) :
    PSsT B (cxOf (L2N.CX P w) P w K mg base n_law_shared "_law_shared" (defScope s_law_shared) f cdv A outer s H E) (defBody s_law_shared) w_law_shared := by
  have nd := sc_law_shared.nd
  have hu : (cxOf (L2N.CX P w) P w K mg base n_law_shared "_law_shared" (defScope s_law_shared) f cdv A outer s H E).A.units + 66 < cLine := by have := hr.un; show (A.deeper (envOfC "_law_shared" (defScope s_law_shared) s.heap.objs.size f cdv)).units + 66 < cLine; omega
  have hu1 : (cxOf (L2N.CX P w) P w K mg base n_law_shared "_law_shared" (defScope s_law_shared) f cdv A outer s H E).A.units + 1 < cLine := by omega
  exact S_seq (S_setLc 1 [("_law_row", 2)] nd (IT_G (IT_seq (T_var 0))) (blkOk_by (own := [("_law_row", 2)]) (N := n_law_shared) (sc := defScope s_law_shared) (by decide +kernel)) (fun _ _ _ _ _ _ => G_name 2 nd) (fun _ _ _ _ _ _ => C_nil) (fun _ _ _ _ _ _ => T_bi (N_len) T.b_len (A_cons (T_lc [("_law_cell", 3)] nd (IT_G (IT_seq (T_var 2))) (blkOk_by (own := [("_law_cell", 3)]) (N := n_law_shared) (sc := { kind := PySem.ScopeKind.function, names := [ (PySem.Str.ofString ".0", PySem.NameKind.local), (PySem.Str.ofString "_law_row", PySem.NameKind.local), (PySem.Str.ofString "len", PySem.NameKind.globalImplicit)], isGenerator := false, isCoroutine := false, more := [] : PySem.Scope }) (by decide +kernel)) (fun _ _ _ _ _ _ => G_name 3 nd) (fun _ _ _ _ _ _ => C_one (TT_cmp (O_eq hu) (T_var 3) (T_int) (nomark _))) (fun _ _ _ _ _ _ => T_var 3)) (A_nil))) (sw_true rfl rfl rfl (by decide +kernel)))
    (S_seq (S_set 4 nd (T_lst (A_nil)))
    (S_seq (S_for (IT_enumerate T.b_enumerate (A_cons (T_var 0) (A_nil))) (G_tup (G_cons (G_name 5 nd) (G_cons (G_name 6 nd) (G_nil))))
    (S_ghE (S_one (S_for (IT_gh (IT_seq (T_sl (T_var 0) (P_none) (P_some (T_fr (T_var 5)))))) (G_name 7 nd)
    (S_ghE (S_one (S_drop (T_app 4 (A_cons (T_bi (N_len) T.b_len (A_cons (T_lc [("_law_k", 8)] nd (IT_G (IT_r1 T.b_range (A_cons (T_biK 6 (N_len) T.b_len) (A_nil)))) (blkOk_by (own := [("_law_k", 8)]) (N := n_law_shared) (sc := defScope s_law_shared) (by decide +kernel)) (fun _ _ _ _ _ _ => G_name 8 nd) (fun _ _ _ _ _ _ => C_one (TT_w (TW_and (TT_cmp (O_eq hu) (T_subK 6 (X_get hu1) (T_var 8)) (T_int) (nomark _)) (TW_and1 (TT_cmp (O_eq hu) (T_subK 7 (X_get hu1) (T_var 8)) (T_int) (nomark _)))))) (fun _ _ _ _ _ _ => T_var 8)) (A_nil))) (A_nil))))))))))
    (S_seq (S_if (TT_w (TW_or (TT_cmp (O_ne hu) (T_biK 1 ((N_min1 hu)) T.b_min) (T_biK 1 ((N_max1 hu)) T.b_max) (nomark _)) (TW_or1 (TT_w (TW_and (TT_cmpL 4 (O_ne hu) (T_lst (A_nil)) (nomark _)) (TW_and1 (TT_cmp (O_ne hu) (T_biK 4 ((N_min1 hu)) T.b_min) (T_biK 4 ((N_max1 hu)) T.b_max) (nomark _))))))))
    (S_one (S_retG (T_fr (T_non))))
    (S_nil))
    (S_one (S_retG (T_fr (T_tup (A_cons (T_subK 1 (X_get hu1) (T_int)) (A_cons (T_ite (TT_cmpL 4 (O_eq hu) (T_lst (A_nil)) (nomark _)) (T_fr (T_non)) (T_fr (T_subK 4 (X_get hu1) (T_int)))) (A_nil))))))))))
theorem cal_law_shared (T : Txt K mg) (d_law_shared : Def K mg "_law_shared" s_law_shared p_law_shared)  : CalG P w K mg base 1 "_law_shared" 1 sp_law_shared :=
  calG_of d_law_shared sc_law_shared hl_law_shared (fun f B cdv A outer s H E hr => tr_law_shared T  f B cdv A outer s H E hr) ok_law_shared
theorem tr_law_same (T : Txt K mg)  (f : Addr) (B : Base) (cdv : Value) (A : Around) (outer : List Env) (s : Shared) (H : Hp) (E : XK) (hr : RoomG 0 (A.deeper (envOfC "_law_same" (defScope s_law_same) s.heap.objs.size f cdv))) :
    PSsT B (cxOf (L2N.CX P w) P w K mg base n_law_same "_law_same" (defScope s_law_same) f cdv A outer s H E) (defBody s_law_same) w_law_same := by
  have nd := sc_law_same.nd
  have hu : (cxOf (L2N.CX P w) P w K mg base n_law_same "_law_same" (defScope s_law_same) f cdv A outer s H E).A.units + 66 < cLine := by have := hr.un; show (A.deeper (envOfC "_law_same" (defScope s_law_same) s.heap.objs.size f cdv)).units + 66 < cLine; omega
  have hu1 : (cxOf (L2N.CX P w) P w K mg base n_law_same "_law_same" (defScope s_law_same) f cdv A outer s H E).A.units + 1 < cLine := by omega
  exact S_one (S_retG (T_fr (T_cmp (O_eq hu) (T_bi ((N_repr hr.g hu)) T.b_repr (A_cons (T_var 0) (A_nil))) (T_bi ((N_repr hr.g hu)) T.b_repr (A_cons (T_var 1) (A_nil))) (nomark _))))
theorem cal_law_same (T : Txt K mg) (d_law_same : Def K mg "_law_same" s_law_same p_law_same)  : CalG P w K mg base 1 "_law_same" 2 sp_law_same :=
  calG_of d_law_same sc_law_same hl_law_same (fun f B cdv A outer s H E hr => tr_law_same T  f B cdv A outer s H E hr) ok_law_same
theorem tr_how_many (T : Txt K mg) (c_product_of : CalG P w K mg base 1 "product_of" 1 sp_product_of) (f : Addr) (B : Base) (cdv : Value) (A : Around) (outer : List Env) (s : Shared) (H : Hp) (E : XK) (hr : RoomG 1 (A.deeper (envOfC "how_many" (defScope s_how_many) s.heap.objs.size f cdv))) :
    PSsT B (cxOf (L2N.CX P w) P w K mg base n_how_many "how_many" (defScope s_how_many) f cdv A outer s H E) (defBody s_how_many) w_how_many := by
  have nd := sc_how_many.nd
  have hu : (cxOf (L2N.CX P w) P w K mg base n_how_many "how_many" (defScope s_how_many) f cdv A outer s H E).A.units + 66 < cLine := by have := hr.un; show (A.deeper (envOfC "how_many" (defScope s_how_many) s.heap.objs.size f cdv)).units + 66 < cLine; omega
  have hu1 : (cxOf (L2N.CX P w) P w K mg base n_how_many "how_many" (defScope s_how_many) f cdv A outer s H E).A.units + 1 < cLine := by omega
  exact S_one (S_retG (T_fr (T_calG c_product_of (hr.mono (by decide)) (AA_v (T_var 0) (AA_nil)))))
theorem cal_how_many (T : Txt K mg) (d_how_many : Def K mg "how_many" s_how_many p_how_many) (c_product_of : CalG P w K mg base 1 "product_of" 1 sp_product_of) : CalG P w K mg base 2 "how_many" 1 sp_how_many :=
  calG_of d_how_many sc_how_many hl_how_many (fun f B cdv A outer s H E hr => tr_how_many T c_product_of f B cdv A outer s H E hr) ok_how_many
theorem tr_moved_set (T : Txt K mg) (c_plus : CalG P w K mg base 1 "plus" 3 sp_plus) (f : Addr) (B : Base) (cdv : Value) (A : Around) (outer : List Env) (s : Shared) (H : Hp) (E : XK) (hr : RoomG 1 (A.deeper (envOfC "moved_set" (defScope s_moved_set) s.heap.objs.size f cdv))) :
    PSsT B (cxOf (L2N.CX P w) P w K mg base n_moved_set "moved_set" (defScope s_moved_set) f cdv A outer s H E) (defBody s_moved_set) w_moved_set := by
  have nd := sc_moved_set.nd
  have hu : (cxOf (L2N.CX P w) P w K mg base n_moved_set "moved_set" (defScope s_moved_set) f cdv A outer s H E).A.units + 66 < cLine := by have := hr.un; show (A.deeper (envOfC "moved_set" (defScope s_moved_set) s.heap.objs.size f cdv)).units + 66 < cLine; omega
  have hu1 : (cxOf (L2N.CX P w) P w K mg base n_moved_set "moved_set" (defScope s_moved_set) f cdv A outer s H E).A.units + 1 < cLine := by omega
  exact S_one (S_retG (T_fr (T_bty (N_tuple) T.b_tuple (A_cons (T_bi ((N_sorted hu)) T.b_sorted (A_cons (T_lc [("spot", 3)] nd (IT_G (IT_seq (T_var 1))) (blkOk_by (own := [("spot", 3)]) (N := n_moved_set) (sc := defScope s_moved_set) (by decide +kernel)) (fun _ _ _ _ _ _ => G_name 3 nd) (fun _ _ _ _ _ _ => C_nil) (fun _ _ _ _ _ _ => T_calG c_plus (hr.mono (by decide)) (AA_v (T_var 0) (AA_v (T_var 3) (AA_v (T_var 2) (AA_nil)))))) (A_nil))) (A_nil)))))
theorem cal_moved_set (T : Txt K mg) (d_moved_set : Def K mg "moved_set" s_moved_set p_moved_set) (c_plus : CalG P w K mg base 1 "plus" 3 sp_plus) : CalG P w K mg base 2 "moved_set" 3 sp_moved_set :=
  calG_of d_moved_set sc_moved_set hl_moved_set (fun f B cdv A outer s H E hr => tr_moved_set T c_plus f B cdv A outer s H E hr) ok_moved_set
theorem tr_by_rows (T : Txt K mg) (c_packed : CalG P w K mg base 1 "packed" 1 sp_packed) (c_ones_in : CalG P w K mg base 1 "ones_in" 1 sp_ones_in) (c_one_for_all : CalG P w K mg base 1 "one_for_all" 1 sp_one_for_all) (f : Addr) (B : Base) (cdv : Value) (A : Around) (outer : List Env) (s : Shared) (H : Hp) (E : XK) (hr : RoomG 1 (A.deeper (envOfC "by_rows" (defScope s_by_rows) s.heap.objs.size f cdv))) :
    PSsT B (cxOf (L2N.CX P w) P w K mg base n_by_rows "by_rows" (defScope s_by_rows) f cdv A outer s H E) (defBody s_by_rows) w_by_rows := by
  have nd := sc_by_rows.nd
  have hu : (cxOf (L2N.CX P w) P w K mg base n_by_rows "by_rows" (defScope s_by_rows) f cdv A outer s H E).A.units + 66 < cLine := by have := hr.un; show (A.deeper (envOfC "by_rows" (defScope s_by_rows) s.heap.objs.size f cdv)).units + 66 < cLine; omega
  have hu1 : (cxOf (L2N.CX P w) P w K mg base n_by_rows "by_rows" (defScope s_by_rows) f cdv A outer s H E).A.units + 1 < cLine := by omega
  exact S_seq (S_setLc 1 [("row", 2)] nd (IT_G (IT_seq (T_var 0))) (blkOk_by (own := [("row", 2)]) (N := n_by_rows) (sc := defScope s_by_rows) (by decide +kernel)) (fun _ _ _ _ _ _ => G_name 2 nd) (fun _ _ _ _ _ _ => C_nil) (fun _ _ _ _ _ _ => T_calG c_packed (hr.mono (by decide)) (AA_v (T_var 2) (AA_nil))) (sw_true rfl rfl rfl (by decide +kernel)))
    (S_seq (S_set 3 nd (T_fr (T_calG c_one_for_all (hr.mono (by decide)) (AA_v (T_lc [("row", 2)] nd (IT_G (IT_seq (T_var 1))) (blkOk_by (own := [("row", 2)]) (N := n_by_rows) (sc := defScope s_by_rows) (by decide +kernel)) (fun _ _ _ _ _ _ => G_name 2 nd) (fun _ _ _ _ _ _ => C_nil) (fun _ _ _ _ _ _ => T_calG c_ones_in (hr.mono (by decide)) (AA_v (T_var 2) (AA_nil)))) (AA_nil)))))
    (S_seq (S_if (TT_cmp O_is (T_var 3) (T_non) (nomark _))
    (S_one (S_retG (T_fr (T_non))))
    (S_nil))
    (S_seq (S_if (TT_cmp (O_eq hu) (T_biK 1 (N_len) T.b_len) (T_int) (nomark _))
    (S_one (S_retG (T_fr (T_tup (A_cons (T_var 3) (A_cons (T_non) (A_nil)))))))
    (S_nil))
    (S_seq (S_set 4 nd (T_lst (A_nil)))
    (S_seq (S_for (IT_gh (IT_enumerate T.b_enumerate (A_cons (T_var 1) (A_nil)))) (G_tup (G_cons (G_name 5 nd) (G_cons (G_name 2 nd) (G_nil))))
    (S_ghE (S_one (S_drop (T_ext 4 (A_cons (T_lc [("other", 6)] nd (IT_G (IT_seq (T_sl (T_var 1) (P_none) (P_some (T_fr (T_var 5)))))) (blkOk_by (own := [("other", 6)]) (N := n_by_rows) (sc := defScope s_by_rows) (by decide +kernel)) (fun _ _ _ _ _ _ => G_name 6 nd) (fun _ _ _ _ _ _ => C_nil) (fun _ _ _ _ _ _ => T_calG c_ones_in (hr.mono (by decide)) (AA_v (T_bin O_and (T_var 2) (T_var 6)) (AA_nil)))) (A_nil)))))))
    (S_seq (S_set 7 nd (T_fr (T_calG c_one_for_all (hr.mono (by decide)) (AA_v (T_var 4) (AA_nil)))))
    (S_seq (S_if (TT_cmp O_is (T_var 7) (T_non) (nomark _))
    (S_one (S_retG (T_fr (T_non))))
    (S_nil))
    (S_one (S_retG (T_fr (T_tup (A_cons (T_var 3) (A_cons (T_var 7) (A_nil))))))))))))))
theorem cal_by_rows (T : Txt K mg) (d_by_rows : Def K mg "by_rows" s_by_rows p_by_rows) (c_packed : CalG P w K mg base 1 "packed" 1 sp_packed) (c_ones_in : CalG P w K mg base 1 "ones_in" 1 sp_ones_in) (c_one_for_all : CalG P w K mg base 1 "one_for_all" 1 sp_one_for_all) : CalG P w K mg base 2 "by_rows" 1 sp_by_rows :=
  calG_of d_by_rows sc_by_rows hl_by_rows (fun f B cdv A outer s H E hr => tr_by_rows T c_packed c_ones_in c_one_for_all f B cdv A outer s H E hr) ok_by_rows
theorem tr_law_rings (T : Txt K mg) (c_law_size : CalG P w K mg base 1 "_law_size" 1 sp_law_size) (c_law_take : CalG P w K mg base 1 "_law_take" 2 sp_law_take) (f : Addr) (B : Base) (cdv : Value) (A : Around) (outer : List Env) (s : Shared) (H : Hp) (E : XK) (hr : RoomG 1 (A.deeper (envOfC "_law_rings" (defScope s_law_rings) s.heap.objs.size f cdv))) :
    PSsT B (cxOf (L2N.CX P w) P w K mg base n_law_rings "_law_rings" (defScope s_law_rings) f cdv A outer s H E) (defBody s_law_rings) w_law_rings := by
  have nd := sc_law_rings.nd
  have hu : (cxOf (L2N.CX P w) P w K mg base n_law_rings "_law_rings" (defScope s_law_rings) f cdv A outer s H E).A.units + 66 < cLine := by have := hr.un; show (A.deeper (envOfC "_law_rings" (defScope s_law_rings) s.heap.objs.size f cdv)).units + 66 < cLine; omega
  have hu1 : (cxOf (L2N.CX P w) P w K mg base n_law_rings "_law_rings" (defScope s_law_rings) f cdv A outer s H E).A.units + 1 < cLine := by omega
  exact S_seq (S_set 2 nd (T_fr (T_lst (A_cons (T_tup (A_cons (T_int) (A_nil))) (A_cons (T_tup (A_cons (T_int) (A_nil))) (A_cons (T_tup (A_cons (T_int) (A_nil))) (A_cons (T_tup (A_cons (T_int) (A_nil))) (A_cons (T_tup (A_cons (T_int) (A_cons (T_int) (A_nil)))) (A_cons (T_tup (A_cons (T_int) (A_cons (T_int) (A_nil)))) (A_cons (T_tup (A_cons (T_int) (A_cons (T_int) (A_cons (T_int) (A_cons (T_int) (A_nil)))))) (A_cons (T_tup (A_cons (T_int) (A_cons (T_int) (A_nil)))) (A_cons (T_tup (A_cons (T_int) (A_nil))) (A_cons (T_tup (A_cons (T_int) (A_cons (T_int) (A_cons (T_int) (A_nil))))) (A_cons (T_tup (A_cons (T_int) (A_cons (T_int) (A_nil)))) (A_cons (T_tup (A_cons (T_int) (A_cons (T_int) (A_cons (T_int) (A_nil))))) (A_nil))))))))))))))))
    (S_seq (S_setLc 2 [("_law_rings_here", 3)] nd (IT_G (IT_seq (T_var 2))) (blkOk_by (own := [("_law_rings_here", 3)]) (N := n_law_rings) (sc := defScope s_law_rings) (by decide +kernel)) (fun _ _ _ _ _ _ => G_name 3 nd) (fun _ _ _ _ _ _ => C_one (TT_cmp O_le (T_calG c_law_size (hr.mono (by decide)) (AA_v (T_var 3) (AA_nil))) (T_var 1) (nomark _))) (fun _ _ _ _ _ _ => T_var 3) (sw_true rfl rfl rfl (by decide +kernel)))
    (S_seq (S_set 4 nd (T_fr (T_calG c_law_take (hr.mono (by decide)) (AA_r 0 (AA_v (T_int) (AA_nil))))))
    (S_seq (S_if (TT_cmp (O_eq hu) (T_var 4) (T_int) (nomark _))
    (S_one (S_retG (T_fr (T_subK 2 (X_get hu1) (T_calG c_law_take (hr.mono (by decide)) (AA_r 0 (AA_v (T_biK 2 (N_len) T.b_len) (AA_nil))))))))
    (S_nil))
    (S_seq (S_if (TT_cmp (O_eq hu) (T_var 4) (T_int) (nomark _))
    (S_one (S_retG (T_fr (T_tup (A_cons (T_bin O_add (T_int) (T_calG c_law_take (hr.mono (by decide)) (AA_r 0 (AA_v (T_bin O_sub (T_var 1) (T_int)) (AA_nil))))) (A_nil))))))
    (S_nil))
    (S_seq (S_set 5 nd (T_fr (T_tup (A_cons (T_bin O_add (T_int) (T_calG c_law_take (hr.mono (by decide)) (AA_r 0 (AA_v (T_int) (AA_nil))))) (A_nil)))))
    (S_seq (S_gh1 (S_while (TT_w (TW_and (TT_cmp (O_ltA hu) (T_biK 5 (N_len) T.b_len) (T_int) (nomark _)) (TW_and (TT_cmp O_le (T_bin O_mulA (T_calG c_law_size (hr.mono (by decide)) (AA_v (T_var 5) (AA_nil))) (T_int)) (T_var 1) (nomark _)) (TW_and1 (TT_cmp O_gt (T_calG c_law_take (hr.mono (by decide)) (AA_r 0 (AA_v (T_int) (AA_nil)))) (T_int) (nomark _))))))
    (S_one (S_set 5 nd (T_fr (T_bin O_add (T_var 5) (T_tup (A_cons (T_bin O_add (T_int) (T_calG c_law_take (hr.mono (by decide)) (AA_r 0 (AA_v (T_bin O_sub (T_bin O_div (T_var 1) (T_calG c_law_size (hr.mono (by decide)) (AA_v (T_var 5) (AA_nil)))) (T_int)) (AA_nil))))) (A_nil)))))))))
    (S_one (S_retG (T_fr (T_var 5))))))))))
theorem cal_law_rings (T : Txt K mg) (d_law_rings : Def K mg "_law_rings" s_law_rings p_law_rings) (c_law_size : CalG P w K mg base 1 "_law_size" 1 sp_law_size) (c_law_take : CalG P w K mg base 1 "_law_take" 2 sp_law_take) : CalG P w K mg base 2 "_law_rings" 2 sp_law_rings :=
  calG_of d_law_rings sc_law_rings hl_law_rings (fun f B cdv A outer s H E hr => tr_law_rings T c_law_size c_law_take f B cdv A outer s H E hr) ok_law_rings
theorem tr_law_table (T : Txt K mg) (c_law_take : CalG P w K mg base 1 "_law_take" 2 sp_law_take) (f : Addr) (B : Base) (cdv : Value) (A : Around) (outer : List Env) (s : Shared) (H : Hp) (E : XK) (hr : RoomG 1 (A.deeper (envOfC "_law_table" (defScope s_law_table) s.heap.objs.size f cdv))) :
    PSsT B (cxOf (L2N.CX P w) P w K mg base n_law_table "_law_table" (defScope s_law_table) f cdv A outer s H E) (defBody s_law_table) w_law_table := by
  have nd := sc_law_table.nd
  have hu : (cxOf (L2N.CX P w) P w K mg base n_law_table "_law_table" (defScope s_law_table) f cdv A outer s H E).A.units + 66 < cLine := by have := hr.un; show (A.deeper (envOfC "_law_table" (defScope s_law_table) s.heap.objs.size f cdv)).units + 66 < cLine; omega
  have hu1 : (cxOf (L2N.CX P w) P w K mg base n_law_table "_law_table" (defScope s_law_table) f cdv A outer s H E).A.units + 1 < cLine := by omega
  exact S_seq (S_set 1 nd (T_fr (T_calG c_law_take (hr.mono (by decide)) (AA_r 0 (AA_v (T_int) (AA_nil))))))
    (S_seq (S_asg (T_tup (A_cons (T_bin O_add (T_int) (T_calG c_law_take (hr.mono (by decide)) (AA_r 0 (AA_v (T_int) (AA_nil))))) (A_cons (T_bin O_add (T_int) (T_calG c_law_take (hr.mono (by decide)) (AA_r 0 (AA_v (T_int) (AA_nil))))) (A_nil)))) (G_tup (G_cons (G_name 2 nd) (G_cons (G_name 3 nd) (G_nil)))))
    (S_seq (S_if (TT_cmp (O_eq hu) (T_var 1) (T_int) (nomark _))
    (S_seq (S_set 4 nd (T_fr (T_bin O_add (T_int) (T_calG c_law_take (hr.mono (by decide)) (AA_r 0 (AA_v (T_int) (AA_nil)))))))
    (S_seq (S_set 5 nd (T_lc [("_law_at", 6)] nd (IT_G (IT_r1 T.b_range (A_cons (T_var 4) (A_nil)))) (blkOk_by (own := [("_law_at", 6)]) (N := n_law_table) (sc := defScope s_law_table) (by decide +kernel)) (fun _ _ _ _ _ _ => G_name 6 nd) (fun _ _ _ _ _ _ => C_nil) (fun _ _ _ _ _ _ => T_calG c_law_take (hr.mono (by decide)) (AA_r 0 (AA_v (T_int) (AA_nil))))))
    (S_one (S_retG (T_fr (T_bty (N_tuple) T.b_tuple (A_cons (T_lc [("_law_row", 7)] nd (IT_G (IT_r1 T.b_range (A_cons (T_var 4) (A_nil)))) (blkOk_by (own := [("_law_row", 7)]) (N := n_law_table) (sc := defScope s_law_table) (by decide +kernel)) (fun _ _ _ _ _ _ => G_name 7 nd) (fun _ _ _ _ _ _ => C_nil) (fun _ _ _ _ _ _ => T_bty (N_tuple) T.b_tuple (A_cons (T_lc [("_law_at", 6)] nd (IT_G (IT_r1 T.b_range (A_cons (T_var 4) (A_nil)))) (blkOk_by (own := [("_law_at", 6)]) (N := n_law_table) (sc := { kind := PySem.ScopeKind.function, names := [ (PySem.Str.ofString ".0", PySem.NameKind.local), (PySem.Str.ofString "_law_row", PySem.NameKind.cell), (PySem.Str.ofString "tuple", PySem.NameKind.globalImplicit), (PySem.Str.ofString "range", PySem.NameKind.globalImplicit), (PySem.Str.ofString "_law_bits", PySem.NameKind.cell), (PySem.Str.ofString "_law_size_here", PySem.NameKind.cell)], isGenerator := false, isCoroutine := false, more := [] : PySem.Scope }) (by decide +kernel)) (fun _ _ _ _ _ _ => G_name 6 nd) (fun _ _ _ _ _ _ => C_nil) (fun _ _ _ _ _ _ => T_subK 5 (X_get hu1) (T_bin O_mod (T_bin O_sub (T_var 6) (T_var 7)) (T_var 4)))) (A_nil)))) (A_nil))))))))
    (S_nil))
    (S_seq (S_if (TT_cmp (O_eq hu) (T_var 1) (T_int) (nomark _))
    (S_seq (S_set 5 nd (T_fr (T_bty (N_tuple) T.b_tuple (A_cons (T_lc [("_law_at", 6)] nd (IT_G (IT_r1 T.b_range (A_cons (T_var 3) (A_nil)))) (blkOk_by (own := [("_law_at", 6)]) (N := n_law_table) (sc := defScope s_law_table) (by decide +kernel)) (fun _ _ _ _ _ _ => G_name 6 nd) (fun _ _ _ _ _ _ => C_nil) (fun _ _ _ _ _ _ => T_calG c_law_take (hr.mono (by decide)) (AA_r 0 (AA_v (T_int) (AA_nil))))) (A_nil)))))
    (S_one (S_retG (T_fr (T_bin O_mulA (T_tup (A_cons (T_var 5) (A_nil))) (T_var 2))))))
    (S_nil))
    (S_seq (S_if (TT_cmp (O_eq hu) (T_var 1) (T_int) (nomark _))
    (S_seq (S_set 8 nd (T_fr (T_lst (A_cons (T_tup (A_cons (T_int) (A_cons (T_tup (A_cons (T_int) (A_cons (T_int) (A_cons (T_int) (A_nil))))) (A_nil)))) (A_cons (T_tup (A_cons (T_int) (A_cons (T_tup (A_cons (T_int) (A_cons (T_int) (A_cons (T_int) (A_cons (T_int) (A_cons (T_int) (A_nil))))))) (A_nil)))) (A_cons (T_tup (A_cons (T_int) (A_cons (T_tup (A_cons (T_int) (A_cons (T_int) (A_cons (T_int) (A_cons (T_int) (A_nil)))))) (A_nil)))) (A_cons (T_tup (A_cons (T_int) (A_cons (T_tup (A_cons (T_int) (A_cons (T_int) (A_cons (T_int) (A_cons (T_int) (A_cons (T_int) (A_cons (T_int) (A_cons (T_int) (A_nil))))))))) (A_nil)))) (A_cons (T_tup (A_cons (T_int) (A_cons (T_tup (A_cons (T_int) (A_nil))) (A_nil)))) (A_nil)))))))))
    (S_seq (S_asg (T_subK 8 (X_get hu1) (T_calG c_law_take (hr.mono (by decide)) (AA_r 0 (AA_v (T_int) (AA_nil))))) (G_tup (G_cons (G_name 4 nd) (G_cons (G_name 9 nd) (G_nil)))))
    (S_one (S_retG (T_fr (T_bty (N_tuple) T.b_tuple (A_cons (T_lc [("_law_row", 7)] nd (IT_G (IT_r1 T.b_range (A_cons (T_var 4) (A_nil)))) (blkOk_by (own := [("_law_row", 7)]) (N := n_law_table) (sc := defScope s_law_table) (by decide +kernel)) (fun _ _ _ _ _ _ => G_name 7 nd) (fun _ _ _ _ _ _ => C_nil) (fun _ _ _ _ _ _ => T_bty (N_tuple) T.b_tuple (A_cons (T_lc [("_law_at", 6)] nd (IT_G (IT_r1 T.b_range (A_cons (T_var 4) (A_nil)))) (blkOk_by (own := [("_law_at", 6)]) (N := n_law_table) (sc := { kind := PySem.ScopeKind.function, names := [ (PySem.Str.ofString ".0", PySem.NameKind.local), (PySem.Str.ofString "_law_row", PySem.NameKind.cell), (PySem.Str.ofString "tuple", PySem.NameKind.globalImplicit), (PySem.Str.ofString "range", PySem.NameKind.globalImplicit), (PySem.Str.ofString "_law_chosen", PySem.NameKind.cell), (PySem.Str.ofString "_law_size_here", PySem.NameKind.cell)], isGenerator := false, isCoroutine := false, more := [] : PySem.Scope }) (by decide +kernel)) (fun _ _ _ _ _ _ => G_name 6 nd) (fun _ _ _ _ _ _ => C_nil) (fun _ _ _ _ _ _ => T_bty (N_int) T.b_int (A_cons (T_cmpK 9 (O_inA hu) (T_bin O_mod (T_bin O_sub (T_var 6) (T_var 7)) (T_var 4)) (by rfl)) (A_nil)))) (A_nil)))) (A_nil))))))))
    (S_nil))
    (S_one (S_retG (T_fr (T_bty (N_tuple) T.b_tuple (A_cons (T_lc [("_law_row", 7)] nd (IT_G (IT_r1 T.b_range (A_cons (T_var 2) (A_nil)))) (blkOk_by (own := [("_law_row", 7)]) (N := n_law_table) (sc := defScope s_law_table) (by decide +kernel)) (fun _ _ _ _ _ _ => G_name 7 nd) (fun _ _ _ _ _ _ => C_nil) (fun _ _ _ _ _ _ => T_bty (N_tuple) T.b_tuple (A_cons (T_lc [("_law_at", 6)] nd (IT_G (IT_r1 T.b_range (A_cons (T_var 3) (A_nil)))) (blkOk_by (own := [("_law_at", 6)]) (N := n_law_table) (sc := { kind := PySem.ScopeKind.function, names := [ (PySem.Str.ofString ".0", PySem.NameKind.local), (PySem.Str.ofString "_law_row", PySem.NameKind.local), (PySem.Str.ofString "tuple", PySem.NameKind.globalImplicit), (PySem.Str.ofString "range", PySem.NameKind.globalImplicit), (PySem.Str.ofString "_law_columns", PySem.NameKind.cell), (PySem.Str.ofString "_law_pot_here", PySem.NameKind.cell)], isGenerator := false, isCoroutine := false, more := [] : PySem.Scope }) (by decide +kernel)) (fun _ _ _ _ _ _ => G_name 6 nd) (fun _ _ _ _ _ _ => C_nil) (fun _ _ _ _ _ _ => T_calG c_law_take (hr.mono (by decide)) (AA_r 0 (AA_v (T_int) (AA_nil))))) (A_nil)))) (A_nil))))))))))
theorem cal_law_table (T : Txt K mg) (d_law_table : Def K mg "_law_table" s_law_table p_law_table) (c_law_take : CalG P w K mg base 1 "_law_take" 2 sp_law_take) : CalG P w K mg base 2 "_law_table" 1 sp_law_table :=
  calG_of d_law_table sc_law_table hl_law_table (fun f B cdv A outer s H E hr => tr_law_table T c_law_take f B cdv A outer s H E hr) ok_law_table
theorem tr_law_laid (T : Txt K mg) (c_law_less : CalG P w K mg base 1 "_law_less" 3 sp_law_less) (f : Addr) (B : Base) (cdv : Value) (A : Around) (outer : List Env) (s : Shared) (H : Hp) (E : XK) (hr : RoomG 1 (A.deeper (envOfC "_law_laid" (defScope s_law_laid) s.heap.objs.size f cdv))) :
    PSsT B (cxOf (L2N.CX P w) P w K mg base n_law_laid "_law_laid" (defScope s_law_laid) f cdv A outer s H E) (defBody s_law_laid) w_law_laid := by
  have nd := sc_law_laid.nd
  have hu : (cxOf (L2N.CX P w) P w K mg base n_law_laid "_law_laid" (defScope s_law_laid) f cdv A outer s H E).A.units + 66 < cLine := by have := hr.un; show (A.deeper (envOfC "_law_laid" (defScope s_law_laid) s.heap.objs.size f cdv)).units + 66 < cLine; omega
  have hu1 : (cxOf (L2N.CX P w) P w K mg base n_law_laid "_law_laid" (defScope s_law_laid) f cdv A outer s H E).A.units + 1 < cLine := by omega
  exact S_one (S_retG (T_fr (T_bty (N_tuple) T.b_tuple (A_cons (T_lc [("_law_by", 3)] nd (IT_G (IT_seq (T_var 1))) (blkOk_by (own := [("_law_by", 3)]) (N := n_law_laid) (sc := defScope s_law_laid) (by decide +kernel)) (fun _ _ _ _ _ _ => G_name 3 nd) (fun _ _ _ _ _ _ => C_nil) (fun _ _ _ _ _ _ => T_bty (N_tuple) T.b_tuple (A_cons (T_lc [("_law_spot", 4)] nd (IT_G (IT_seq (T_var 1))) (blkOk_by (own := [("_law_spot", 4)]) (N := n_law_laid) (sc := { kind := PySem.ScopeKind.function, names := [ (PySem.Str.ofString ".0", PySem.NameKind.local), (PySem.Str.ofString "_law_by", PySem.NameKind.cell), (PySem.Str.ofString "tuple", PySem.NameKind.globalImplicit), (PySem.Str.ofString "_law_board_here", PySem.NameKind.cell), (PySem.Str.ofString "_law_rings_here", PySem.NameKind.cell), (PySem.Str.ofString "_law_some", PySem.NameKind.cell)], isGenerator := false, isCoroutine := false, more := [] : PySem.Scope }) (by decide +kernel)) (fun _ _ _ _ _ _ => G_name 4 nd) (fun _ _ _ _ _ _ => C_nil) (fun _ _ _ _ _ _ => T_bty (N_int) T.b_int (A_cons (T_cmpK 2 (O_inA hu) (T_calG c_law_less (hr.mono (by decide)) (AA_v (T_var 0) (AA_v (T_var 4) (AA_v (T_var 3) (AA_nil))))) (by rfl)) (A_nil)))) (A_nil)))) (A_nil)))))
theorem cal_law_laid (T : Txt K mg) (d_law_laid : Def K mg "_law_laid" s_law_laid p_law_laid) (c_law_less : CalG P w K mg base 1 "_law_less" 3 sp_law_less) : CalG P w K mg base 2 "_law_laid" 3 sp_law_laid :=
  calG_of d_law_laid sc_law_laid hl_law_laid (fun f B cdv A outer s H E hr => tr_law_laid T c_law_less f B cdv A outer s H E hr) ok_law_laid
theorem tr_lines (T : Txt K mg) (c_spots : CalG P w K mg base 1 "spots" 1 sp_spots) (c_moved_set : CalG P w K mg base 2 "moved_set" 3 sp_moved_set) (f : Addr) (B : Base) (cdv : Value) (A : Around) (outer : List Env) (s : Shared) (H : Hp) (E : XK) (hr : RoomG 2 (A.deeper (envOfC "lines" (defScope s_lines) s.heap.objs.size f cdv))) :
    PSsT B (cxOf (L2N.CX P w) P w K mg base n_lines "lines" (defScope s_lines) f cdv A outer s H E) (defBody s_lines) w_lines := by
  have nd := sc_lines.nd
  have hu : (cxOf (L2N.CX P w) P w K mg base n_lines "lines" (defScope s_lines) f cdv A outer s H E).A.units + 66 < cLine := by have := hr.un; show (A.deeper (envOfC "lines" (defScope s_lines) s.heap.objs.size f cdv)).units + 66 < cLine; omega
  have hu1 : (cxOf (L2N.CX P w) P w K mg base n_lines "lines" (defScope s_lines) f cdv A outer s H E).A.units + 1 < cLine := by omega
  exact S_one (S_retG (T_fr (T_bty (N_tuple) T.b_tuple (A_cons (T_lc [("spot", 2)] nd (IT_G (IT_seq (T_calG c_spots (hr.mono (by decide)) (AA_v (T_var 0) (AA_nil))))) (blkOk_by (own := [("spot", 2)]) (N := n_lines) (sc := defScope s_lines) (by decide +kernel)) (fun _ _ _ _ _ _ => G_name 2 nd) (fun _ _ _ _ _ _ => C_nil) (fun _ _ _ _ _ _ => T_calG c_moved_set (hr.mono (by decide)) (AA_v (T_var 0) (AA_v (T_var 1) (AA_v (T_var 2) (AA_nil)))))) (A_nil)))))
theorem cal_lines (T : Txt K mg) (d_lines : Def K mg "lines" s_lines p_lines) (c_spots : CalG P w K mg base 1 "spots" 1 sp_spots) (c_moved_set : CalG P w K mg base 2 "moved_set" 3 sp_moved_set) : CalG P w K mg base 3 "lines" 2 sp_lines :=
  calG_of d_lines sc_lines hl_lines (fun f B cdv A outer s H E hr => tr_lines T c_spots c_moved_set f B cdv A outer s H E hr) ok_lines
theorem tr_by_columns (T : Txt K mg) (c_mirrored : CalG P w K mg base 1 "mirrored" 1 sp_mirrored) (c_by_rows : CalG P w K mg base 2 "by_rows" 1 sp_by_rows) (f : Addr) (B : Base) (cdv : Value) (A : Around) (outer : List Env) (s : Shared) (H : Hp) (E : XK) (hr : RoomG 2 (A.deeper (envOfC "by_columns" (defScope s_by_columns) s.heap.objs.size f cdv))) :
    PSsT B (cxOf (L2N.CX P w) P w K mg base n_by_columns "by_columns" (defScope s_by_columns) f cdv A outer s H E) (defBody s_by_columns) w_by_columns := by
  have nd := sc_by_columns.nd
  have hu : (cxOf (L2N.CX P w) P w K mg base n_by_columns "by_columns" (defScope s_by_columns) f cdv A outer s H E).A.units + 66 < cLine := by have := hr.un; show (A.deeper (envOfC "by_columns" (defScope s_by_columns) s.heap.objs.size f cdv)).units + 66 < cLine; omega
  have hu1 : (cxOf (L2N.CX P w) P w K mg base n_by_columns "by_columns" (defScope s_by_columns) f cdv A outer s H E).A.units + 1 < cLine := by omega
  exact S_one (S_retG (T_fr (T_calG c_by_rows (hr.mono (by decide)) (AA_v (T_calG c_mirrored (hr.mono (by decide)) (AA_v (T_var 0) (AA_nil))) (AA_nil)))))
theorem cal_by_columns (T : Txt K mg) (d_by_columns : Def K mg "by_columns" s_by_columns p_by_columns) (c_mirrored : CalG P w K mg base 1 "mirrored" 1 sp_mirrored) (c_by_rows : CalG P w K mg base 2 "by_rows" 1 sp_by_rows) : CalG P w K mg base 3 "by_columns" 1 sp_by_columns :=
  calG_of d_by_columns sc_by_columns hl_by_columns (fun f B cdv A outer s H E hr => tr_by_columns T c_mirrored c_by_rows f B cdv A outer s H E hr) ok_by_columns
theorem tr_table_of (T : Txt K mg) (c_how_many : CalG P w K mg base 2 "how_many" 1 sp_how_many) (c_spots : CalG P w K mg base 1 "spots" 1 sp_spots) (c_lines : CalG P w K mg base 3 "lines" 2 sp_lines) (f : Addr) (B : Base) (cdv : Value) (A : Around) (outer : List Env) (s : Shared) (H : Hp) (E : XK) (hr : RoomG 3 (A.deeper (envOfC "table_of" (defScope s_table_of) s.heap.objs.size f cdv))) :
    PSsT B (cxOf (L2N.CX P w) P w K mg base n_table_of "table_of" (defScope s_table_of) f cdv A outer s H E) (defBody s_table_of) w_table_of := by
  have nd := sc_table_of.nd
  have hu : (cxOf (L2N.CX P w) P w K mg base n_table_of "table_of" (defScope s_table_of) f cdv A outer s H E).A.units + 66 < cLine := by have := hr.un; show (A.deeper (envOfC "table_of" (defScope s_table_of) s.heap.objs.size f cdv)).units + 66 < cLine; omega
  have hu1 : (cxOf (L2N.CX P w) P w K mg base n_table_of "table_of" (defScope s_table_of) f cdv A outer s H E).A.units + 1 < cLine := by omega
  exact S_seq (S_if (TT_cmp O_gt (T_calG c_how_many (hr.mono (by decide)) (AA_v (T_var 0) (AA_nil))) (T_glob (d := .int 64) (v := .int 64) rfl T.c_MOST_LAID.choose_spec ⟨_, rfl⟩ (fun _ => .int _)) (nomark _))
    (S_one (S_raise T.r_TooMany))
    (S_nil))
    (S_seq (S_set 2 nd (T_fr (T_calG c_spots (hr.mono (by decide)) (AA_v (T_var 0) (AA_nil)))))
    (S_seq (S_set 3 nd (T_lst (A_nil)))
    (S_seq (S_for (IT_gh (IT_seq (T_calG c_lines (hr.mono (by decide)) (AA_v (T_var 0) (AA_v (T_var 1) (AA_nil)))))) (G_name 4 nd)
    (S_ghE (S_seq (S_set 5 nd (T_fr (T_bty ((N_dictT hr.r)) T.b_dict (A_cons (T_lc [("spot", 6)] nd (IT_G (IT_seq (T_var 4))) (blkOk_by (own := [("spot", 6)]) (N := n_table_of) (sc := defScope s_table_of) (by decide +kernel)) (fun _ _ _ _ _ _ => G_name 6 nd) (fun _ _ _ _ _ _ => C_nil) (fun _ _ _ _ _ _ => T_tup (A_cons (T_var 6) (A_cons (T_bl) (A_nil))))) (A_nil)))))
    (S_one (S_drop (T_app 3 (A_cons (T_bty (N_tuple) T.b_tuple (A_cons (T_lc [("spot", 6)] nd (IT_G (IT_seq (T_var 2))) (blkOk_by (own := [("spot", 6)]) (N := n_table_of) (sc := defScope s_table_of) (by decide +kernel)) (fun _ _ _ _ _ _ => G_name 6 nd) (fun _ _ _ _ _ _ => C_nil) (fun _ _ _ _ _ _ => T_bty (N_int) T.b_int (A_cons (T_cmpK 5 (O_inA hu) (T_var 6) (by rfl)) (A_nil)))) (A_nil))) (A_nil))))))))
    (S_one (S_retG (T_fr (T_btyK 3 (N_tuple) T.b_tuple)))))))
theorem cal_table_of (T : Txt K mg) (d_table_of : Def K mg "table_of" s_table_of p_table_of) (c_how_many : CalG P w K mg base 2 "how_many" 1 sp_how_many) (c_spots : CalG P w K mg base 1 "spots" 1 sp_spots) (c_lines : CalG P w K mg base 3 "lines" 2 sp_lines) : CalG P w K mg base 4 "table_of" 2 sp_table_of :=
  calG_of d_table_of sc_table_of hl_table_of (fun f B cdv A outer s H E hr => tr_table_of T c_how_many c_spots c_lines f B cdv A outer s H E hr) ok_table_of
theorem tr_law_right (T : Txt K mg) (c_by_rows : CalG P w K mg base 2 "by_rows" 1 sp_by_rows) (c_law_shared : CalG P w K mg base 1 "_law_shared" 1 sp_law_shared) (c_law_same : CalG P w K mg base 1 "_law_same" 2 sp_law_same) (c_by_columns : CalG P w K mg base 3 "by_columns" 1 sp_by_columns) (f : Addr) (B : Base) (cdv : Value) (A : Around) (outer : List Env) (s : Shared) (H : Hp) (E : XK) (hr : RoomG 3 (A.deeper (envOfC "_law_right" (defScope s_law_right) s.heap.objs.size f cdv))) :
    PSsT B (cxOf (L2N.CX P w) P w K mg base n_law_right "_law_right" (defScope s_law_right) f cdv A outer s H E) (defBody s_law_right) w_law_right := by
  have nd := sc_law_right.nd
  have hu : (cxOf (L2N.CX P w) P w K mg base n_law_right "_law_right" (defScope s_law_right) f cdv A outer s H E).A.units + 66 < cLine := by have := hr.un; show (A.deeper (envOfC "_law_right" (defScope s_law_right) s.heap.objs.size f cdv)).units + 66 < cLine; omega
  have hu1 : (cxOf (L2N.CX P w) P w K mg base n_law_right "_law_right" (defScope s_law_right) f cdv A outer s H E).A.units + 1 < cLine := by omega
  exact S_seq (S_set 1 nd (T_fr (T_bty (N_tuple) T.b_tuple (A_cons (T_lc [("_law_at", 2)] nd (IT_G (IT_r1 T.b_range (A_cons (T_bi (N_len) T.b_len (A_cons (T_subK 0 (X_get hu1) (T_int)) (A_nil))) (A_nil)))) (blkOk_by (own := [("_law_at", 2)]) (N := n_law_right) (sc := defScope s_law_right) (by decide +kernel)) (fun _ _ _ _ _ _ => G_name 2 nd) (fun _ _ _ _ _ _ => C_nil) (fun _ _ _ _ _ _ => T_bty (N_tuple) T.b_tuple (A_cons (T_lc [("_law_row", 3)] nd (IT_G (IT_seq (T_var 0))) (blkOk_by (own := [("_law_row", 3)]) (N := n_law_right) (sc := { kind := PySem.ScopeKind.function, names := [ (PySem.Str.ofString ".0", PySem.NameKind.local), (PySem.Str.ofString "_law_at", PySem.NameKind.cell), (PySem.Str.ofString "tuple", PySem.NameKind.globalImplicit), (PySem.Str.ofString "_law_told", PySem.NameKind.cell)], isGenerator := false, isCoroutine := false, more := [] : PySem.Scope }) (by decide +kernel)) (fun _ _ _ _ _ _ => G_name 3 nd) (fun _ _ _ _ _ _ => C_nil) (fun _ _ _ _ _ _ => T_subK 3 (X_get hu1) (T_var 2))) (A_nil)))) (A_nil)))))
    (S_seq (S_for (IT_r1 T.b_range (A_cons (T_int) (A_nil))) (G_name 4 nd)
    (S_ghE (S_one (S_if (TT_w (TW_or (TT_not (TT_tru (T_calG c_law_same (hr.mono (by decide)) (AA_v (T_calG c_by_rows (hr.mono (by decide)) (AA_v (T_var 0) (AA_nil))) (AA_v (T_calG c_law_shared (hr.mono (by decide)) (AA_v (T_var 0) (AA_nil))) (AA_nil)))))) (TW_or1 (TT_not (TT_tru (T_calG c_law_same (hr.mono (by decide)) (AA_v (T_calG c_by_columns (hr.mono (by decide)) (AA_v (T_var 0) (AA_nil))) (AA_v (T_calG c_law_shared (hr.mono (by decide)) (AA_v (T_var 1) (AA_nil))) (AA_nil)))))))))
    (S_one (S_retG (T_fr (T_bl))))
    (S_nil)))))
    (S_one (S_retG (T_fr (T_bl)))))
theorem cal_law_right (T : Txt K mg) (d_law_right : Def K mg "_law_right" s_law_right p_law_right) (c_by_rows : CalG P w K mg base 2 "by_rows" 1 sp_by_rows) (c_law_shared : CalG P w K mg base 1 "_law_shared" 1 sp_law_shared) (c_law_same : CalG P w K mg base 1 "_law_same" 2 sp_law_same) (c_by_columns : CalG P w K mg base 3 "by_columns" 1 sp_by_columns) : CalG P w K mg base 4 "_law_right" 1 sp_law_right :=
  calG_of d_law_right sc_law_right hl_law_right (fun f B cdv A outer s H E hr => tr_law_right T c_by_rows c_law_shared c_law_same c_by_columns f B cdv A outer s H E hr) ok_law_right
theorem tr_law_is_refused (T : Txt K mg) (c_table_of : CalG P w K mg base 4 "table_of" 2 sp_table_of) (f : Addr) (B : Base) (cdv : Value) (A : Around) (outer : List Env) (s : Shared) (H : Hp) (E : XK) (hr : RoomG 4 (A.deeper (envOfC "_law_is_refused" (defScope s_law_is_refused) s.heap.objs.size f cdv))) :
    PSsT B (cxOf (L2N.CX P w) P w K mg base n_law_is_refused "_law_is_refused" (defScope s_law_is_refused) f cdv A outer s H E) (defBody s_law_is_refused) w_law_is_refused := by
  have nd := sc_law_is_refused.nd
  have hu : (cxOf (L2N.CX P w) P w K mg base n_law_is_refused "_law_is_refused" (defScope s_law_is_refused) f cdv A outer s H E).A.units + 66 < cLine := by have := hr.un; show (A.deeper (envOfC "_law_is_refused" (defScope s_law_is_refused) s.heap.objs.size f cdv)).units + 66 < cLine; omega
  have hu1 : (cxOf (L2N.CX P w) P w K mg base n_law_is_refused "_law_is_refused" (defScope s_law_is_refused) f cdv A outer s H E).A.units + 1 < cLine := by omega
  exact S_seq (S_set 1 nd (T_fr (T_bl)))
    (S_seq (S_tryE 2 ["TooMany"] nd T.t_EvenError (fun B pn xe po => S_ghE (S_one (S_drop (T_calG c_table_of (hr.mono (by decide)) (AA_v (T_var 0) (AA_v (T_tup (A_nil)) (AA_nil)))))))
    (fun B a pn hot => S_ghE (S_one (S_set 1 nd (T_fr (T_and (T_bi (N_isE T.xt) T.b_isinstance (A_cons (T_var 2) (A_cons (T_cls T.k_TooMany) (A_nil)))) (T_and (T_notT (T_bi (N_isE T.xt) T.b_isinstance (A_cons (T_var 2) (A_cons (T_cls T.k_NoWay) (A_nil))))) (T_one (T_bi (N_isE T.xt) T.b_isinstance (A_cons (T_var 2) (A_cons (T_type "ValueError" T.b_ValueError) (A_nil))))))))))))
    (S_one (S_retG (T_fr (T_var 1)))))
theorem cal_law_is_refused (T : Txt K mg) (d_law_is_refused : Def K mg "_law_is_refused" s_law_is_refused p_law_is_refused) (c_table_of : CalG P w K mg base 4 "table_of" 2 sp_table_of) : CalG P w K mg base 5 "_law_is_refused" 1 sp_law_is_refused :=
  calG_of d_law_is_refused sc_law_is_refused hl_law_is_refused (fun f B cdv A outer s H E hr => tr_law_is_refused T c_table_of f B cdv A outer s H E hr) ok_law_is_refused
theorem tr_law (T : Txt K mg) (c_law_pot : CalG P w K mg base 1 "_law_pot" 2 sp_law_pot) (c_law_take : CalG P w K mg base 1 "_law_take" 2 sp_law_take) (c_law_rings : CalG P w K mg base 2 "_law_rings" 2 sp_law_rings) (c_law_board : CalG P w K mg base 1 "_law_board" 1 sp_law_board) (c_table_of : CalG P w K mg base 4 "table_of" 2 sp_table_of) (c_law_laid : CalG P w K mg base 2 "_law_laid" 3 sp_law_laid) (c_law_same : CalG P w K mg base 1 "_law_same" 2 sp_law_same) (c_law_right : CalG P w K mg base 4 "_law_right" 1 sp_law_right) (c_law_is_refused : CalG P w K mg base 5 "_law_is_refused" 1 sp_law_is_refused) (c_law_table : CalG P w K mg base 2 "_law_table" 1 sp_law_table) (f : Addr) (B : Base) (cdv : Value) (A : Around) (outer : List Env) (s : Shared) (H : Hp) (E : XK) (hr : RoomG 5 (A.deeper (envOfC "law" (defScope s_law) s.heap.objs.size f cdv))) :
    PSsT B (cxOf (L2N.CX P w) P w K mg base n_law "law" (defScope s_law) f cdv A outer s H E) (defBody s_law) w_law := by
  have nd := sc_law.nd
  have hu : (cxOf (L2N.CX P w) P w K mg base n_law "law" (defScope s_law) f cdv A outer s H E).A.units + 66 < cLine := by have := hr.un; show (A.deeper (envOfC "law" (defScope s_law) s.heap.objs.size f cdv)).units + 66 < cLine; omega
  have hu1 : (cxOf (L2N.CX P w) P w K mg base n_law "law" (defScope s_law) f cdv A outer s H E).A.units + 1 < cLine := by omega
  exact S_seq (S_for (IT_r1 T.b_range (A_cons (T_bi (N_max2) T.b_max (A_cons (T_int) (A_cons (T_bi (N_min2) T.b_min (A_cons (T_biK 0 (N_len) T.b_len) (A_cons (T_int) (A_nil)))) (A_nil)))) (A_nil))) (G_name 1 nd)
    (S_ghE (S_seq (S_set 2 nd (T_calG c_law_pot (hr.mono (by decide)) (AA_v (T_var 0) (AA_v (T_var 1) (AA_nil)))))
    (S_seq (S_set 3 nd (T_fr (T_cmp (O_eq hu) (T_calG c_law_take (hr.mono (by decide)) (AA_r 2 (AA_v (T_int) (AA_nil)))) (T_int) (nomark _))))
    (S_seq (S_set 4 nd (T_fr (T_ite (TT_tru (T_var 3)) (T_fr (T_sub (X_get hu1) (T_lst (A_cons (T_tup (A_cons (T_int) (A_nil))) (A_cons (T_tup (A_cons (T_int) (A_cons (T_int) (A_nil)))) (A_cons (T_tup (A_cons (T_int) (A_cons (T_int) (A_nil)))) (A_cons (T_tup (A_cons (T_int) (A_cons (T_int) (A_cons (T_int) (A_cons (T_int) (A_nil)))))) (A_nil)))))) (T_calG c_law_take (hr.mono (by decide)) (AA_r 2 (AA_v (T_int) (AA_nil)))))) (T_fr (T_calG c_law_rings (hr.mono (by decide)) (AA_r 2 (AA_v (T_int) (AA_nil))))))))
    (S_seq (S_set 5 nd (T_fr (T_calG c_law_board (hr.mono (by decide)) (AA_v (T_var 4) (AA_nil)))))
    (S_seq (S_set 6 nd (T_fr (T_sub (X_get hu1) (T_lst (A_cons (T_int) (A_cons (T_int) (A_cons (T_int) (A_cons (T_int) (A_nil)))))) (T_calG c_law_take (hr.mono (by decide)) (AA_r 2 (AA_v (T_int) (AA_nil)))))))
    (S_seq (S_set 7 nd (T_fr (T_bty (N_tuple) T.b_tuple (A_cons (T_lc [("_law_spot", 9)] nd (IT_G (IT_seq (T_var 5))) (blkOk_by (own := [("_law_spot", 9)]) (N := n_law) (sc := defScope s_law) (by decide +kernel)) (fun _ _ _ _ _ _ => G_name 9 nd) (fun _ _ _ _ _ _ => C_one (TT_cmp (O_eq hu) (T_calG c_law_take (hr.mono (by decide)) (AA_r 2 (AA_v (T_var 6) (AA_nil)))) (T_int) (nomark _))) (fun _ _ _ _ _ _ => T_var 9)) (A_nil)))))
    (S_seq (S_for (IT_gh (IT_r1 T.b_range (A_cons (T_int) (A_nil)))) (G_name 8 nd)
    (S_ghE (S_one (S_if (TT_not (TT_tru (T_calG c_law_same (hr.mono (by decide)) (AA_v (T_noX (T_calG c_table_of (hr.mono (by decide)) (AA_v (T_var 4) (AA_v (T_var 7) (AA_nil))))) (AA_v (T_calG c_law_laid (hr.mono (by decide)) (AA_v (T_var 4) (AA_v (T_var 5) (AA_v (T_var 7) (AA_nil))))) (AA_nil))))))
    (S_one (S_retG (T_fr (T_bl))))
    (S_nil)))))
    (S_seq (S_if (TT_not (TT_tru (T_calG c_law_right (hr.mono (by decide)) (AA_v (T_calG c_law_laid (hr.mono (by decide)) (AA_v (T_var 4) (AA_v (T_var 5) (AA_v (T_var 7) (AA_nil))))) (AA_nil)))))
    (S_one (S_retG (T_fr (T_bl))))
    (S_nil))
    (S_one (S_if (TT_not (TT_tru (T_calG c_law_is_refused (hr.mono (by decide)) (AA_v (T_sub (X_get hu1) (T_lst (A_cons (T_tup (A_cons (T_int) (A_nil))) (A_cons (T_tup (A_cons (T_int) (A_nil))) (A_cons (T_tup (A_cons (T_int) (A_cons (T_int) (A_nil)))) (A_cons (T_tup (A_cons (T_int) (A_cons (T_bin O_add (T_int) (T_calG c_law_take (hr.mono (by decide)) (AA_r 2 (AA_v (T_int) (AA_nil))))) (A_nil)))) (A_nil)))))) (T_calG c_law_take (hr.mono (by decide)) (AA_r 2 (AA_v (T_int) (AA_nil))))) (AA_nil)))))
    (S_one (S_retG (T_fr (T_bl))))
    (S_nil)))))))))))))
    (S_one (S_retG (T_fr (T_bi (N_all) T.b_all (A_cons (T_lc [("_law_cell", 1)] nd (IT_G (IT_r1 T.b_range (A_cons (T_bin O_add (T_int) (T_bi (N_min2) T.b_min (A_cons (T_biK 0 (N_len) T.b_len) (A_cons (T_int) (A_nil))))) (A_nil)))) (blkOk_by (own := [("_law_cell", 1)]) (N := n_law) (sc := defScope s_law) (by decide +kernel)) (fun _ _ _ _ _ _ => G_name 1 nd) (fun _ _ _ _ _ _ => C_nil) (fun _ _ _ _ _ _ => T_calG c_law_right (hr.mono (by decide)) (AA_v (T_callO c_law_table (hr.mono (by decide)) (T_calG c_law_pot (hr.mono (by decide)) (AA_v (T_var 0) (AA_v (T_bin O_add (T_int) (T_var 1)) (AA_nil))))) (AA_nil)))) (A_nil))))))
end
theorem all_mk {l : PySem.W.OpenLaw} {w : World} {K : PySem.W.Frag} {h : Heap} {mg : Str → Option Value} {fa : Addr} (X : K.In h) (G : h.Ns mainGlobals mg) (hfa : mg "law" = some (.ref fa))
    {f0 : Addr} {od0 an0 : Option Addr} {sl0 : Array (Option Value)} {oc0 kV0 dc0 pm0 cd0 ct0 : Value}
    (a0 : PySem.W.nsIn K mainGlobals "product_of" = some (some (.ref f0))) (l0 : K.lookup f0 = some ⟨oc0, od0, .func (PySem.W.fnOf "product_of" "product_of" (defArgs s_product_of) (defBody s_product_of) (defScope s_product_of) .none kV0 dc0 pm0 an0 cd0 ct0), sl0⟩) (c0 : PySem.W.codeIn K cd0 "product_of" = true) (k0 : PySem.W.keepIn K (.ref f0) = true)
    {f1 : Addr} {od1 an1 : Option Addr} {sl1 : Array (Option Value)} {oc1 kV1 dc1 pm1 cd1 ct1 : Value}
    (a1 : PySem.W.nsIn K mainGlobals "spots" = some (some (.ref f1))) (l1 : K.lookup f1 = some ⟨oc1, od1, .func (PySem.W.fnOf "spots" "spots" (defArgs s_spots) (defBody s_spots) (defScope s_spots) .none kV1 dc1 pm1 an1 cd1 ct1), sl1⟩) (c1 : PySem.W.codeIn K cd1 "spots" = true) (k1 : PySem.W.keepIn K (.ref f1) = true)
    {f2 : Addr} {od2 an2 : Option Addr} {sl2 : Array (Option Value)} {oc2 kV2 dc2 pm2 cd2 ct2 : Value}
    (a2 : PySem.W.nsIn K mainGlobals "plus" = some (some (.ref f2))) (l2 : K.lookup f2 = some ⟨oc2, od2, .func (PySem.W.fnOf "plus" "plus" (defArgs s_plus) (defBody s_plus) (defScope s_plus) .none kV2 dc2 pm2 an2 cd2 ct2), sl2⟩) (c2 : PySem.W.codeIn K cd2 "plus" = true) (k2 : PySem.W.keepIn K (.ref f2) = true)
    {f3 : Addr} {od3 an3 : Option Addr} {sl3 : Array (Option Value)} {oc3 kV3 dc3 pm3 cd3 ct3 : Value}
    (a3 : PySem.W.nsIn K mainGlobals "packed" = some (some (.ref f3))) (l3 : K.lookup f3 = some ⟨oc3, od3, .func (PySem.W.fnOf "packed" "packed" (defArgs s_packed) (defBody s_packed) (defScope s_packed) .none kV3 dc3 pm3 an3 cd3 ct3), sl3⟩) (c3 : PySem.W.codeIn K cd3 "packed" = true) (k3 : PySem.W.keepIn K (.ref f3) = true)
    {f4 : Addr} {od4 an4 : Option Addr} {sl4 : Array (Option Value)} {oc4 kV4 dc4 pm4 cd4 ct4 : Value}
    (a4 : PySem.W.nsIn K mainGlobals "ones_in" = some (some (.ref f4))) (l4 : K.lookup f4 = some ⟨oc4, od4, .func (PySem.W.fnOf "ones_in" "ones_in" (defArgs s_ones_in) (defBody s_ones_in) (defScope s_ones_in) .none kV4 dc4 pm4 an4 cd4 ct4), sl4⟩) (c4 : PySem.W.codeIn K cd4 "ones_in" = true) (k4 : PySem.W.keepIn K (.ref f4) = true)
    {f5 : Addr} {od5 an5 : Option Addr} {sl5 : Array (Option Value)} {oc5 kV5 dc5 pm5 cd5 ct5 : Value}
    (a5 : PySem.W.nsIn K mainGlobals "one_for_all" = some (some (.ref f5))) (l5 : K.lookup f5 = some ⟨oc5, od5, .func (PySem.W.fnOf "one_for_all" "one_for_all" (defArgs s_one_for_all) (defBody s_one_for_all) (defScope s_one_for_all) .none kV5 dc5 pm5 an5 cd5 ct5), sl5⟩) (c5 : PySem.W.codeIn K cd5 "one_for_all" = true) (k5 : PySem.W.keepIn K (.ref f5) = true)
    {f6 : Addr} {od6 an6 : Option Addr} {sl6 : Array (Option Value)} {oc6 kV6 dc6 pm6 cd6 ct6 : Value}
    (a6 : PySem.W.nsIn K mainGlobals "mirrored" = some (some (.ref f6))) (l6 : K.lookup f6 = some ⟨oc6, od6, .func (PySem.W.fnOf "mirrored" "mirrored" (defArgs s_mirrored) (defBody s_mirrored) (defScope s_mirrored) .none kV6 dc6 pm6 an6 cd6 ct6), sl6⟩) (c6 : PySem.W.codeIn K cd6 "mirrored" = true) (k6 : PySem.W.keepIn K (.ref f6) = true)
    {f7 : Addr} {od7 an7 : Option Addr} {sl7 : Array (Option Value)} {oc7 kV7 dc7 pm7 cd7 ct7 : Value}
    (a7 : PySem.W.nsIn K mainGlobals "_law_pot" = some (some (.ref f7))) (l7 : K.lookup f7 = some ⟨oc7, od7, .func (PySem.W.fnOf "_law_pot" "_law_pot" (defArgs s_law_pot) (defBody s_law_pot) (defScope s_law_pot) .none kV7 dc7 pm7 an7 cd7 ct7), sl7⟩) (c7 : PySem.W.codeIn K cd7 "_law_pot" = true) (k7 : PySem.W.keepIn K (.ref f7) = true)
    {f8 : Addr} {od8 an8 : Option Addr} {sl8 : Array (Option Value)} {oc8 kV8 dc8 pm8 cd8 ct8 : Value}
    (a8 : PySem.W.nsIn K mainGlobals "_law_take" = some (some (.ref f8))) (l8 : K.lookup f8 = some ⟨oc8, od8, .func (PySem.W.fnOf "_law_take" "_law_take" (defArgs s_law_take) (defBody s_law_take) (defScope s_law_take) .none kV8 dc8 pm8 an8 cd8 ct8), sl8⟩) (c8 : PySem.W.codeIn K cd8 "_law_take" = true) (k8 : PySem.W.keepIn K (.ref f8) = true)
    {f9 : Addr} {od9 an9 : Option Addr} {sl9 : Array (Option Value)} {oc9 kV9 dc9 pm9 cd9 ct9 : Value}
    (a9 : PySem.W.nsIn K mainGlobals "_law_size" = some (some (.ref f9))) (l9 : K.lookup f9 = some ⟨oc9, od9, .func (PySem.W.fnOf "_law_size" "_law_size" (defArgs s_law_size) (defBody s_law_size) (defScope s_law_size) .none kV9 dc9 pm9 an9 cd9 ct9), sl9⟩) (c9 : PySem.W.codeIn K cd9 "_law_size" = true) (k9 : PySem.W.keepIn K (.ref f9) = true)
    {f10 : Addr} {od10 an10 : Option Addr} {sl10 : Array (Option Value)} {oc10 kV10 dc10 pm10 cd10 ct10 : Value}
    (a10 : PySem.W.nsIn K mainGlobals "_law_board" = some (some (.ref f10))) (l10 : K.lookup f10 = some ⟨oc10, od10, .func (PySem.W.fnOf "_law_board" "_law_board" (defArgs s_law_board) (defBody s_law_board) (defScope s_law_board) .none kV10 dc10 pm10 an10 cd10 ct10), sl10⟩) (c10 : PySem.W.codeIn K cd10 "_law_board" = true) (k10 : PySem.W.keepIn K (.ref f10) = true)
    {f11 : Addr} {od11 an11 : Option Addr} {sl11 : Array (Option Value)} {oc11 kV11 dc11 pm11 cd11 ct11 : Value}
    (a11 : PySem.W.nsIn K mainGlobals "_law_less" = some (some (.ref f11))) (l11 : K.lookup f11 = some ⟨oc11, od11, .func (PySem.W.fnOf "_law_less" "_law_less" (defArgs s_law_less) (defBody s_law_less) (defScope s_law_less) .none kV11 dc11 pm11 an11 cd11 ct11), sl11⟩) (c11 : PySem.W.codeIn K cd11 "_law_less" = true) (k11 : PySem.W.keepIn K (.ref f11) = true)
    {f12 : Addr} {od12 an12 : Option Addr} {sl12 : Array (Option Value)} {oc12 kV12 dc12 pm12 cd12 ct12 : Value}
    (a12 : PySem.W.nsIn K mainGlobals "_law_shared" = some (some (.ref f12))) (l12 : K.lookup f12 = some ⟨oc12, od12, .func (PySem.W.fnOf "_law_shared" "_law_shared" (defArgs s_law_shared) (defBody s_law_shared) (defScope s_law_shared) .none kV12 dc12 pm12 an12 cd12 ct12), sl12⟩) (c12 : PySem.W.codeIn K cd12 "_law_shared" = true) (k12 : PySem.W.keepIn K (.ref f12) = true)
    {f13 : Addr} {od13 an13 : Option Addr} {sl13 : Array (Option Value)} {oc13 kV13 dc13 pm13 cd13 ct13 : Value}
    (a13 : PySem.W.nsIn K mainGlobals "_law_same" = some (some (.ref f13))) (l13 : K.lookup f13 = some ⟨oc13, od13, .func (PySem.W.fnOf "_law_same" "_law_same" (defArgs s_law_same) (defBody s_law_same) (defScope s_law_same) .none kV13 dc13 pm13 an13 cd13 ct13), sl13⟩) (c13 : PySem.W.codeIn K cd13 "_law_same" = true) (k13 : PySem.W.keepIn K (.ref f13) = true)
    {f14 : Addr} {od14 an14 : Option Addr} {sl14 : Array (Option Value)} {oc14 kV14 dc14 pm14 cd14 ct14 : Value}
    (a14 : PySem.W.nsIn K mainGlobals "how_many" = some (some (.ref f14))) (l14 : K.lookup f14 = some ⟨oc14, od14, .func (PySem.W.fnOf "how_many" "how_many" (defArgs s_how_many) (defBody s_how_many) (defScope s_how_many) .none kV14 dc14 pm14 an14 cd14 ct14), sl14⟩) (c14 : PySem.W.codeIn K cd14 "how_many" = true) (k14 : PySem.W.keepIn K (.ref f14) = true)
    {f15 : Addr} {od15 an15 : Option Addr} {sl15 : Array (Option Value)} {oc15 kV15 dc15 pm15 cd15 ct15 : Value}
    (a15 : PySem.W.nsIn K mainGlobals "moved_set" = some (some (.ref f15))) (l15 : K.lookup f15 = some ⟨oc15, od15, .func (PySem.W.fnOf "moved_set" "moved_set" (defArgs s_moved_set) (defBody s_moved_set) (defScope s_moved_set) .none kV15 dc15 pm15 an15 cd15 ct15), sl15⟩) (c15 : PySem.W.codeIn K cd15 "moved_set" = true) (k15 : PySem.W.keepIn K (.ref f15) = true)
    {f16 : Addr} {od16 an16 : Option Addr} {sl16 : Array (Option Value)} {oc16 kV16 dc16 pm16 cd16 ct16 : Value}
    (a16 : PySem.W.nsIn K mainGlobals "by_rows" = some (some (.ref f16))) (l16 : K.lookup f16 = some ⟨oc16, od16, .func (PySem.W.fnOf "by_rows" "by_rows" (defArgs s_by_rows) (defBody s_by_rows) (defScope s_by_rows) .none kV16 dc16 pm16 an16 cd16 ct16), sl16⟩) (c16 : PySem.W.codeIn K cd16 "by_rows" = true) (k16 : PySem.W.keepIn K (.ref f16) = true)
    {f17 : Addr} {od17 an17 : Option Addr} {sl17 : Array (Option Value)} {oc17 kV17 dc17 pm17 cd17 ct17 : Value}
    (a17 : PySem.W.nsIn K mainGlobals "_law_rings" = some (some (.ref f17))) (l17 : K.lookup f17 = some ⟨oc17, od17, .func (PySem.W.fnOf "_law_rings" "_law_rings" (defArgs s_law_rings) (defBody s_law_rings) (defScope s_law_rings) .none kV17 dc17 pm17 an17 cd17 ct17), sl17⟩) (c17 : PySem.W.codeIn K cd17 "_law_rings" = true) (k17 : PySem.W.keepIn K (.ref f17) = true)
    {f18 : Addr} {od18 an18 : Option Addr} {sl18 : Array (Option Value)} {oc18 kV18 dc18 pm18 cd18 ct18 : Value}
    (a18 : PySem.W.nsIn K mainGlobals "_law_table" = some (some (.ref f18))) (l18 : K.lookup f18 = some ⟨oc18, od18, .func (PySem.W.fnOf "_law_table" "_law_table" (defArgs s_law_table) (defBody s_law_table) (defScope s_law_table) .none kV18 dc18 pm18 an18 cd18 ct18), sl18⟩) (c18 : PySem.W.codeIn K cd18 "_law_table" = true) (k18 : PySem.W.keepIn K (.ref f18) = true)
    {f19 : Addr} {od19 an19 : Option Addr} {sl19 : Array (Option Value)} {oc19 kV19 dc19 pm19 cd19 ct19 : Value}
    (a19 : PySem.W.nsIn K mainGlobals "_law_laid" = some (some (.ref f19))) (l19 : K.lookup f19 = some ⟨oc19, od19, .func (PySem.W.fnOf "_law_laid" "_law_laid" (defArgs s_law_laid) (defBody s_law_laid) (defScope s_law_laid) .none kV19 dc19 pm19 an19 cd19 ct19), sl19⟩) (c19 : PySem.W.codeIn K cd19 "_law_laid" = true) (k19 : PySem.W.keepIn K (.ref f19) = true)
    {f20 : Addr} {od20 an20 : Option Addr} {sl20 : Array (Option Value)} {oc20 kV20 dc20 pm20 cd20 ct20 : Value}
    (a20 : PySem.W.nsIn K mainGlobals "lines" = some (some (.ref f20))) (l20 : K.lookup f20 = some ⟨oc20, od20, .func (PySem.W.fnOf "lines" "lines" (defArgs s_lines) (defBody s_lines) (defScope s_lines) .none kV20 dc20 pm20 an20 cd20 ct20), sl20⟩) (c20 : PySem.W.codeIn K cd20 "lines" = true) (k20 : PySem.W.keepIn K (.ref f20) = true)
    {f21 : Addr} {od21 an21 : Option Addr} {sl21 : Array (Option Value)} {oc21 kV21 dc21 pm21 cd21 ct21 : Value}
    (a21 : PySem.W.nsIn K mainGlobals "by_columns" = some (some (.ref f21))) (l21 : K.lookup f21 = some ⟨oc21, od21, .func (PySem.W.fnOf "by_columns" "by_columns" (defArgs s_by_columns) (defBody s_by_columns) (defScope s_by_columns) .none kV21 dc21 pm21 an21 cd21 ct21), sl21⟩) (c21 : PySem.W.codeIn K cd21 "by_columns" = true) (k21 : PySem.W.keepIn K (.ref f21) = true)
    {f22 : Addr} {od22 an22 : Option Addr} {sl22 : Array (Option Value)} {oc22 kV22 dc22 pm22 cd22 ct22 : Value}
    (a22 : PySem.W.nsIn K mainGlobals "table_of" = some (some (.ref f22))) (l22 : K.lookup f22 = some ⟨oc22, od22, .func (PySem.W.fnOf "table_of" "table_of" (defArgs s_table_of) (defBody s_table_of) (defScope s_table_of) .none kV22 dc22 pm22 an22 cd22 ct22), sl22⟩) (c22 : PySem.W.codeIn K cd22 "table_of" = true) (k22 : PySem.W.keepIn K (.ref f22) = true)
    {f23 : Addr} {od23 an23 : Option Addr} {sl23 : Array (Option Value)} {oc23 kV23 dc23 pm23 cd23 ct23 : Value}
    (a23 : PySem.W.nsIn K mainGlobals "_law_right" = some (some (.ref f23))) (l23 : K.lookup f23 = some ⟨oc23, od23, .func (PySem.W.fnOf "_law_right" "_law_right" (defArgs s_law_right) (defBody s_law_right) (defScope s_law_right) .none kV23 dc23 pm23 an23 cd23 ct23), sl23⟩) (c23 : PySem.W.codeIn K cd23 "_law_right" = true) (k23 : PySem.W.keepIn K (.ref f23) = true)
    {f24 : Addr} {od24 an24 : Option Addr} {sl24 : Array (Option Value)} {oc24 kV24 dc24 pm24 cd24 ct24 : Value}
    (a24 : PySem.W.nsIn K mainGlobals "_law_is_refused" = some (some (.ref f24))) (l24 : K.lookup f24 = some ⟨oc24, od24, .func (PySem.W.fnOf "_law_is_refused" "_law_is_refused" (defArgs s_law_is_refused) (defBody s_law_is_refused) (defScope s_law_is_refused) .none kV24 dc24 pm24 an24 cd24 ct24), sl24⟩) (c24 : PySem.W.codeIn K cd24 "_law_is_refused" = true) (k24 : PySem.W.keepIn K (.ref f24) = true)
    {f25 : Addr} {od25 an25 : Option Addr} {sl25 : Array (Option Value)} {oc25 kV25 dc25 pm25 cd25 ct25 : Value}
    (a25 : PySem.W.nsIn K mainGlobals "law" = some (some (.ref f25))) (l25 : K.lookup f25 = some ⟨oc25, od25, .func (PySem.W.fnOf "law" "law" (defArgs s_law) (defBody s_law) (defScope s_law) .none kV25 dc25 pm25 an25 cd25 ct25), sl25⟩) (c25 : PySem.W.codeIn K cd25 "law" = true) (k25 : PySem.W.keepIn K (.ref f25) = true)
    (z_ValueError : PySem.W.nsIn K mainGlobals "ValueError" = some none)
    (z_abs : PySem.W.nsIn K mainGlobals "abs" = some none)
    (z_all : PySem.W.nsIn K mainGlobals "all" = some none)
    (z_dict : PySem.W.nsIn K mainGlobals "dict" = some none)
    (z_enumerate : PySem.W.nsIn K mainGlobals "enumerate" = some none)
    (z_int : PySem.W.nsIn K mainGlobals "int" = some none)
    (z_isinstance : PySem.W.nsIn K mainGlobals "isinstance" = some none)
    (z_len : PySem.W.nsIn K mainGlobals "len" = some none)
    (z_max : PySem.W.nsIn K mainGlobals "max" = some none)
    (z_min : PySem.W.nsIn K mainGlobals "min" = some none)
    (z_range : PySem.W.nsIn K mainGlobals "range" = some none)
    (z_repr : PySem.W.nsIn K mainGlobals "repr" = some none)
    (z_sorted : PySem.W.nsIn K mainGlobals "sorted" = some none)
    (z_tuple : PySem.W.nsIn K mainGlobals "tuple" = some none)
    (z_zip : PySem.W.nsIn K mainGlobals "zip" = some none)
    {t_MOST_LAID : Tok} (z_MOST_LAID : PySem.W.nsIn K mainGlobals "MOST_LAID" = some (some (.int 64 t_MOST_LAID)))
    {C_EvenError : Addr} (zx_EvenError : PySem.W.nsIn K mainGlobals (Str.ofString "EvenError") = some (some (.ref C_EvenError)))
    {C_NoWay : Addr} (zx_NoWay : PySem.W.nsIn K mainGlobals (Str.ofString "NoWay") = some (some (.ref C_NoWay)))
    {C_TooMany : Addr} (zx_TooMany : PySem.W.nsIn K mainGlobals (Str.ofString "TooMany") = some (some (.ref C_TooMany)))
    (rx_TooMany : PySem.W.excIn K C_TooMany [.type "ValueError", .type "Exception", .type "BaseException", .type "object"] "ValueError.__new__" = true) (rk_TooMany : PySem.W.keepIn K (.ref C_TooMany) = true) (rs_TooMany : PySem.W.subIn K (.ref C_TooMany) (.type "BaseException") = some true) (rt_TooMany : PySem.W.typeIn K (.ref C_TooMany) = some (.type "type"))
    (tb_EvenError : PySem.W.subIn K (.ref C_EvenError) (.type "BaseException") = some true) (td_EvenError : PySem.W.hasDictIn K C_EvenError = true) (tt_EvenError : PySem.W.typeIn K (.ref C_EvenError) = some (.type "type"))
    (te_EvenError_TooMany : PySem.W.subIn K (.ref C_TooMany) (.ref C_EvenError) = some true)
    (xa_TooMany : PySem.W.findIn K (.ref C_TooMany) "__getattribute__" = some (some (.builtin "BaseException.__getattribute__"))) (xb_TooMany : PySem.W.findIn K (.ref C_TooMany) "__getattr__" = some none) (xc_TooMany : PySem.W.subIn K (.ref C_TooMany) (.type "BaseException") = some true) (xd_TooMany : PySem.W.hasDictIn K C_TooMany = true)
    (xe_TooMany : PySem.W.findIn K (.ref C_TooMany) "__class__" = some (some (.builtin "object.__class__"))) (xf_TooMany : PySem.W.specialIn K (.builtin "object.__class__") "__get__" = some (some (.builtin "getset_descriptor.__get__"))) (xg_TooMany : PySem.W.takesIn K (.builtin "object.__class__") = some true) (xh_TooMany : PySem.W.mroIn K C_TooMany (.type "object") = some true)
    (xv_TooMany : PySem.W.subIn K (.ref C_TooMany) (.type "ValueError") = some true) (xw_TooMany : PySem.W.subIn K (.ref C_TooMany) (.ref C_TooMany) = some true)
    (xk_TooMany_NoWay : PySem.W.subIn K (.ref C_TooMany) (.ref C_NoWay) = some false)
    (xk_TooMany_TooMany : PySem.W.subIn K (.ref C_TooMany) (.ref C_TooMany) = some true)
    (xi_NoWay : PySem.W.hasDictIn K C_NoWay = true) (xj_NoWay : PySem.W.typeIn K (.ref C_NoWay) = some (.type "type"))
    (xi_TooMany : PySem.W.hasDictIn K C_TooMany = true) (xj_TooMany : PySem.W.typeIn K (.ref C_TooMany) = some (.type "type")) :
    ∃ fd : FuncData, (∀ (s : Shared) (v : Value), BindsTo s fd ⟨[v], []⟩ [("_law_script", v)]) ∧ ∀ base : Heap, K.In base → base.Ns mainGlobals mg → FnG l.prog w K mg base (L2N.CX l.prog w) 6 fa fd ["_law_script"] (toSp K 1 spLaw) := by
  have e := hfa.symm.trans (PySem.W.mg_of X G a25)
  cases e
  have TF_EvenError : TryF K mg ["TooMany"] "EvenError" := ⟨_, PySem.W.mg_of X G zx_EvenError, fun n hn C hC => by
    simp only [List.contains_cons, List.contains_nil, Bool.or_false, Bool.or_eq_true, beq_iff_eq] at hn; rcases hn with rfl
    · cases hC.eq zx_TooMany; exact exm_ref' tb_EvenError td_EvenError tt_EvenError te_EvenError_TooMany⟩
  have XT : XTab K ["TooMany"] ["NoWay", "TooMany"] := ⟨fun n hn => by
    simp only [List.contains_cons, List.contains_nil, Bool.or_false, Bool.or_eq_true, beq_iff_eq] at hn; rcases hn with rfl
    · refine ⟨_, zx_TooMany, ⟨xa_TooMany, xb_TooMany, xc_TooMany, xd_TooMany, xe_TooMany, xf_TooMany, xg_TooMany, xh_TooMany⟩, kit_val xv_TooMany, fun m hm => ?_⟩
      simp only [List.contains_cons, List.contains_nil, Bool.or_false, Bool.or_eq_true, beq_iff_eq] at hm; rcases hm with rfl | rfl
      · exact ⟨_, zx_NoWay, kit_ref xk_TooMany_NoWay xw_TooMany xi_NoWay xj_NoWay⟩
      · exact ⟨_, zx_TooMany, kit_ref xk_TooMany_TooMany xw_TooMany xi_TooMany xj_TooMany⟩⟩
  have T : Txt K mg := ⟨PySem.W.mg_none_of X G z_ValueError, PySem.W.mg_none_of X G z_abs, PySem.W.mg_none_of X G z_all, PySem.W.mg_none_of X G z_dict, PySem.W.mg_none_of X G z_enumerate, PySem.W.mg_none_of X G z_int, PySem.W.mg_none_of X G z_isinstance, PySem.W.mg_none_of X G z_len, PySem.W.mg_none_of X G z_max, PySem.W.mg_none_of X G z_min, PySem.W.mg_none_of X G z_range, PySem.W.mg_none_of X G z_repr, PySem.W.mg_none_of X G z_sorted, PySem.W.mg_none_of X G z_tuple, PySem.W.mg_none_of X G z_zip, ⟨_, PySem.W.mg_of X G z_MOST_LAID⟩, ⟨_, PySem.W.mg_of X G zx_EvenError, zx_EvenError⟩, ⟨_, PySem.W.mg_of X G zx_NoWay, zx_NoWay⟩, ⟨_, PySem.W.mg_of X G zx_TooMany, zx_TooMany⟩, ⟨⟨_, PySem.W.mg_of X G zx_TooMany, zx_TooMany, rx_TooMany, rk_TooMany, rs_TooMany, rt_TooMany⟩⟩, TF_EvenError, XT⟩
  have F0 := fun_mk (st := s_product_of) l0 c0 k0
  have d_product_of : Def K mg "product_of" s_product_of p_product_of := ⟨f0, _, F0, PySem.W.mg_of X G a0, F0.binds (ps := p_product_of) fun _ _ _ _ _ _ us hl => match us, hl with | [_], _ => rfl⟩
  have F1 := fun_mk (st := s_spots) l1 c1 k1
  have d_spots : Def K mg "spots" s_spots p_spots := ⟨f1, _, F1, PySem.W.mg_of X G a1, F1.binds (ps := p_spots) fun _ _ _ _ _ _ us hl => match us, hl with | [_], _ => rfl⟩
  have F2 := fun_mk (st := s_plus) l2 c2 k2
  have d_plus : Def K mg "plus" s_plus p_plus := ⟨f2, _, F2, PySem.W.mg_of X G a2, F2.binds (ps := p_plus) fun _ _ _ _ _ _ us hl => match us, hl with | [_, _, _], _ => rfl⟩
  have F3 := fun_mk (st := s_packed) l3 c3 k3
  have d_packed : Def K mg "packed" s_packed p_packed := ⟨f3, _, F3, PySem.W.mg_of X G a3, F3.binds (ps := p_packed) fun _ _ _ _ _ _ us hl => match us, hl with | [_], _ => rfl⟩
  have F4 := fun_mk (st := s_ones_in) l4 c4 k4
  have d_ones_in : Def K mg "ones_in" s_ones_in p_ones_in := ⟨f4, _, F4, PySem.W.mg_of X G a4, F4.binds (ps := p_ones_in) fun _ _ _ _ _ _ us hl => match us, hl with | [_], _ => rfl⟩
  have F5 := fun_mk (st := s_one_for_all) l5 c5 k5
  have d_one_for_all : Def K mg "one_for_all" s_one_for_all p_one_for_all := ⟨f5, _, F5, PySem.W.mg_of X G a5, F5.binds (ps := p_one_for_all) fun _ _ _ _ _ _ us hl => match us, hl with | [_], _ => rfl⟩
  have F6 := fun_mk (st := s_mirrored) l6 c6 k6
  have d_mirrored : Def K mg "mirrored" s_mirrored p_mirrored := ⟨f6, _, F6, PySem.W.mg_of X G a6, F6.binds (ps := p_mirrored) fun _ _ _ _ _ _ us hl => match us, hl with | [_], _ => rfl⟩
  have F7 := fun_mk (st := s_law_pot) l7 c7 k7
  have d_law_pot : Def K mg "_law_pot" s_law_pot p_law_pot := ⟨f7, _, F7, PySem.W.mg_of X G a7, F7.binds (ps := p_law_pot) fun _ _ _ _ _ _ us hl => match us, hl with | [_, _], _ => rfl⟩
  have F8 := fun_mk (st := s_law_take) l8 c8 k8
  have d_law_take : Def K mg "_law_take" s_law_take p_law_take := ⟨f8, _, F8, PySem.W.mg_of X G a8, F8.binds (ps := p_law_take) fun _ _ _ _ _ _ us hl => match us, hl with | [_, _], _ => rfl⟩
  have F9 := fun_mk (st := s_law_size) l9 c9 k9
  have d_law_size : Def K mg "_law_size" s_law_size p_law_size := ⟨f9, _, F9, PySem.W.mg_of X G a9, F9.binds (ps := p_law_size) fun _ _ _ _ _ _ us hl => match us, hl with | [_], _ => rfl⟩
  have F10 := fun_mk (st := s_law_board) l10 c10 k10
  have d_law_board : Def K mg "_law_board" s_law_board p_law_board := ⟨f10, _, F10, PySem.W.mg_of X G a10, F10.binds (ps := p_law_board) fun _ _ _ _ _ _ us hl => match us, hl with | [_], _ => rfl⟩
  have F11 := fun_mk (st := s_law_less) l11 c11 k11
  have d_law_less : Def K mg "_law_less" s_law_less p_law_less := ⟨f11, _, F11, PySem.W.mg_of X G a11, F11.binds (ps := p_law_less) fun _ _ _ _ _ _ us hl => match us, hl with | [_, _, _], _ => rfl⟩
  have F12 := fun_mk (st := s_law_shared) l12 c12 k12
  have d_law_shared : Def K mg "_law_shared" s_law_shared p_law_shared := ⟨f12, _, F12, PySem.W.mg_of X G a12, F12.binds (ps := p_law_shared) fun _ _ _ _ _ _ us hl => match us, hl with | [_], _ => rfl⟩
  have F13 := fun_mk (st := s_law_same) l13 c13 k13
  have d_law_same : Def K mg "_law_same" s_law_same p_law_same := ⟨f13, _, F13, PySem.W.mg_of X G a13, F13.binds (ps := p_law_same) fun _ _ _ _ _ _ us hl => match us, hl with | [_, _], _ => rfl⟩
  have F14 := fun_mk (st := s_how_many) l14 c14 k14
  have d_how_many : Def K mg "how_many" s_how_many p_how_many := ⟨f14, _, F14, PySem.W.mg_of X G a14, F14.binds (ps := p_how_many) fun _ _ _ _ _ _ us hl => match us, hl with | [_], _ => rfl⟩
  have F15 := fun_mk (st := s_moved_set) l15 c15 k15
  have d_moved_set : Def K mg "moved_set" s_moved_set p_moved_set := ⟨f15, _, F15, PySem.W.mg_of X G a15, F15.binds (ps := p_moved_set) fun _ _ _ _ _ _ us hl => match us, hl with | [_, _, _], _ => rfl⟩
  have F16 := fun_mk (st := s_by_rows) l16 c16 k16
  have d_by_rows : Def K mg "by_rows" s_by_rows p_by_rows := ⟨f16, _, F16, PySem.W.mg_of X G a16, F16.binds (ps := p_by_rows) fun _ _ _ _ _ _ us hl => match us, hl with | [_], _ => rfl⟩
  have F17 := fun_mk (st := s_law_rings) l17 c17 k17
  have d_law_rings : Def K mg "_law_rings" s_law_rings p_law_rings := ⟨f17, _, F17, PySem.W.mg_of X G a17, F17.binds (ps := p_law_rings) fun _ _ _ _ _ _ us hl => match us, hl with | [_, _], _ => rfl⟩
  have F18 := fun_mk (st := s_law_table) l18 c18 k18
  have d_law_table : Def K mg "_law_table" s_law_table p_law_table := ⟨f18, _, F18, PySem.W.mg_of X G a18, F18.binds (ps := p_law_table) fun _ _ _ _ _ _ us hl => match us, hl with | [_], _ => rfl⟩
  have F19 := fun_mk (st := s_law_laid) l19 c19 k19
  have d_law_laid : Def K mg "_law_laid" s_law_laid p_law_laid := ⟨f19, _, F19, PySem.W.mg_of X G a19, F19.binds (ps := p_law_laid) fun _ _ _ _ _ _ us hl => match us, hl with | [_, _, _], _ => rfl⟩
  have F20 := fun_mk (st := s_lines) l20 c20 k20
  have d_lines : Def K mg "lines" s_lines p_lines := ⟨f20, _, F20, PySem.W.mg_of X G a20, F20.binds (ps := p_lines) fun _ _ _ _ _ _ us hl => match us, hl with | [_, _], _ => rfl⟩
  have F21 := fun_mk (st := s_by_columns) l21 c21 k21
  have d_by_columns : Def K mg "by_columns" s_by_columns p_by_columns := ⟨f21, _, F21, PySem.W.mg_of X G a21, F21.binds (ps := p_by_columns) fun _ _ _ _ _ _ us hl => match us, hl with | [_], _ => rfl⟩
  have F22 := fun_mk (st := s_table_of) l22 c22 k22
  have d_table_of : Def K mg "table_of" s_table_of p_table_of := ⟨f22, _, F22, PySem.W.mg_of X G a22, F22.binds (ps := p_table_of) fun _ _ _ _ _ _ us hl => match us, hl with | [_, _], _ => rfl⟩
  have F23 := fun_mk (st := s_law_right) l23 c23 k23
  have d_law_right : Def K mg "_law_right" s_law_right p_law_right := ⟨f23, _, F23, PySem.W.mg_of X G a23, F23.binds (ps := p_law_right) fun _ _ _ _ _ _ us hl => match us, hl with | [_], _ => rfl⟩
  have F24 := fun_mk (st := s_law_is_refused) l24 c24 k24
  have d_law_is_refused : Def K mg "_law_is_refused" s_law_is_refused p_law_is_refused := ⟨f24, _, F24, PySem.W.mg_of X G a24, F24.binds (ps := p_law_is_refused) fun _ _ _ _ _ _ us hl => match us, hl with | [_], _ => rfl⟩
  have F25 := fun_mk (st := s_law) l25 c25 k25
  refine ⟨PySem.W.fnOf "law" "law" (defArgs s_law) (defBody s_law) (defScope s_law) .none kV25 dc25 pm25 an25 cd25 ct25, fun s v => BindsTo.of_eq rfl, fun base _ _ => ?_⟩
  have c_product_of : CalG l.prog w K mg base 1 "product_of" 1 sp_product_of := cal_product_of T d_product_of 
  have c_spots : CalG l.prog w K mg base 1 "spots" 1 sp_spots := cal_spots T d_spots 
  have c_plus : CalG l.prog w K mg base 1 "plus" 3 sp_plus := cal_plus T d_plus 
  have c_packed : CalG l.prog w K mg base 1 "packed" 1 sp_packed := cal_packed T d_packed 
  have c_ones_in : CalG l.prog w K mg base 1 "ones_in" 1 sp_ones_in := cal_ones_in T d_ones_in 
  have c_one_for_all : CalG l.prog w K mg base 1 "one_for_all" 1 sp_one_for_all := cal_one_for_all T d_one_for_all 
  have c_mirrored : CalG l.prog w K mg base 1 "mirrored" 1 sp_mirrored := cal_mirrored T d_mirrored 
  have c_law_pot : CalG l.prog w K mg base 1 "_law_pot" 2 sp_law_pot := cal_law_pot T d_law_pot 
  have c_law_take : CalG l.prog w K mg base 1 "_law_take" 2 sp_law_take := cal_law_take T d_law_take 
  have c_law_size : CalG l.prog w K mg base 1 "_law_size" 1 sp_law_size := cal_law_size T d_law_size 
  have c_law_board : CalG l.prog w K mg base 1 "_law_board" 1 sp_law_board := cal_law_board T d_law_board 
  have c_law_less : CalG l.prog w K mg base 1 "_law_less" 3 sp_law_less := cal_law_less T d_law_less 
  have c_law_shared : CalG l.prog w K mg base 1 "_law_shared" 1 sp_law_shared := cal_law_shared T d_law_shared 
  have c_law_same : CalG l.prog w K mg base 1 "_law_same" 2 sp_law_same := cal_law_same T d_law_same 
  have c_how_many : CalG l.prog w K mg base 2 "how_many" 1 sp_how_many := cal_how_many T d_how_many c_product_of
  have c_moved_set : CalG l.prog w K mg base 2 "moved_set" 3 sp_moved_set := cal_moved_set T d_moved_set c_plus
  have c_by_rows : CalG l.prog w K mg base 2 "by_rows" 1 sp_by_rows := cal_by_rows T d_by_rows c_packed c_ones_in c_one_for_all
  have c_law_rings : CalG l.prog w K mg base 2 "_law_rings" 2 sp_law_rings := cal_law_rings T d_law_rings c_law_size c_law_take
  have c_law_table : CalG l.prog w K mg base 2 "_law_table" 1 sp_law_table := cal_law_table T d_law_table c_law_take
  have c_law_laid : CalG l.prog w K mg base 2 "_law_laid" 3 sp_law_laid := cal_law_laid T d_law_laid c_law_less
  have c_lines : CalG l.prog w K mg base 3 "lines" 2 sp_lines := cal_lines T d_lines c_spots c_moved_set
  have c_by_columns : CalG l.prog w K mg base 3 "by_columns" 1 sp_by_columns := cal_by_columns T d_by_columns c_mirrored c_by_rows
  have c_table_of : CalG l.prog w K mg base 4 "table_of" 2 sp_table_of := cal_table_of T d_table_of c_how_many c_spots c_lines
  have c_law_right : CalG l.prog w K mg base 4 "_law_right" 1 sp_law_right := cal_law_right T d_law_right c_by_rows c_law_shared c_law_same c_by_columns
  have c_law_is_refused : CalG l.prog w K mg base 5 "_law_is_refused" 1 sp_law_is_refused := cal_law_is_refused T d_law_is_refused c_table_of
  exact fnG F25 sc_law hl_law (fun B cdv A outer s H E hr => tr_law T c_law_pot c_law_take c_law_rings c_law_board c_table_of c_law_laid c_law_same c_law_right c_law_is_refused c_law_table _ B cdv A outer s H E hr) ok_law
end TL
open PySem PySem.W PyProof.Rows
set_option maxHeartbeats 0 in
theorem PySem.Challenge.cw_evendiffs_k62_tables_told_holds : PySem.Challenge.rw_evendiffs_k62_tables_told.Holds := by
  w_on; o_law; k_head; (case hw => w_witness2)
  k_fill
  refine TL.walk_ofG (l := PySem.Challenge.rw_evendiffs_k62_tables_told) (n := 63) (k := 6) (x := "_law_script") (CX := fun w => L2N.CX PySem.Challenge.rw_evendiffs_k62_tables_told.prog w) (sp := fun w => TL.toSp _ 1 TL.spLaw) rfl (by decide) rfl ⟨⟨rfl, by decide, by decide⟩, rfl⟩ (fun w h Y => PySem.W.kIn_of Y) ?F (fun _ _ a ns hl hS => TL.law_sp hl hS) (fun _ _ _ _ _ h => TL.law_cx h)
  case F =>
    intro w mg fa h KX G hmg
    refine' TL.all_mk KX G hmg ?a0 ?l0 ?c0 ?k0 ?a1 ?l1 ?c1 ?k1 ?a2 ?l2 ?c2 ?k2 ?a3 ?l3 ?c3 ?k3 ?a4 ?l4 ?c4 ?k4 ?a5 ?l5 ?c5 ?k5 ?a6 ?l6 ?c6 ?k6 ?a7 ?l7 ?c7 ?k7 ?a8 ?l8 ?c8 ?k8 ?a9 ?l9 ?c9 ?k9 ?a10 ?l10 ?c10 ?k10 ?a11 ?l11 ?c11 ?k11 ?a12 ?l12 ?c12 ?k12 ?a13 ?l13 ?c13 ?k13 ?a14 ?l14 ?c14 ?k14 ?a15 ?l15 ?c15 ?k15 ?a16 ?l16 ?c16 ?k16 ?a17 ?l17 ?c17 ?k17 ?a18 ?l18 ?c18 ?k18 ?a19 ?l19 ?c19 ?k19 ?a20 ?l20 ?c20 ?k20 ?a21 ?l21 ?c21 ?k21 ?a22 ?l22 ?c22 ?k22 ?a23 ?l23 ?c23 ?k23 ?a24 ?l24 ?c24 ?k24 ?a25 ?l25 ?c25 ?k25 ?z_ValueError ?z_abs ?z_all ?z_dict ?z_enumerate ?z_int ?z_isinstance ?z_len ?z_max ?z_min ?z_range ?z_repr ?z_sorted ?z_tuple ?z_zip ?z_MOST_LAID ?zx_EvenError ?zx_NoWay ?zx_TooMany ?rx_TooMany ?rk_TooMany ?rs_TooMany ?rt_TooMany ?tb_EvenError ?td_EvenError ?tt_EvenError ?te_EvenError_TooMany ?xa_TooMany ?xb_TooMany ?xc_TooMany ?xd_TooMany ?xe_TooMany ?xf_TooMany ?xg_TooMany ?xh_TooMany ?xv_TooMany ?xw_TooMany ?xk_TooMany_NoWay ?xk_TooMany_TooMany ?xi_NoWay ?xj_NoWay ?xi_TooMany ?xj_TooMany
    (case a0 => k_is)
    (case l0 => k_is)
    (case c0 => k_is)
    (case k0 => k_is)
    (case a1 => k_is)
    (case l1 => k_is)
    (case c1 => k_is)
    (case k1 => k_is)
    (case a2 => k_is)
    (case l2 => k_is)
    (case c2 => k_is)
    (case k2 => k_is)
    (case a3 => k_is)
    (case l3 => k_is)
    (case c3 => k_is)
    (case k3 => k_is)
    (case a4 => k_is)
    (case l4 => k_is)
    (case c4 => k_is)
    (case k4 => k_is)
    (case a5 => k_is)
    (case l5 => k_is)
    (case c5 => k_is)
    (case k5 => k_is)
    (case a6 => k_is)
    (case l6 => k_is)
    (case c6 => k_is)
    (case k6 => k_is)
    (case a7 => k_is)
    (case l7 => k_is)
    (case c7 => k_is)
    (case k7 => k_is)
    (case a8 => k_is)
    (case l8 => k_is)
    (case c8 => k_is)
    (case k8 => k_is)
    (case a9 => k_is)
    (case l9 => k_is)
    (case c9 => k_is)
    (case k9 => k_is)
    (case a10 => k_is)
    (case l10 => k_is)
    (case c10 => k_is)
    (case k10 => k_is)
    (case a11 => k_is)
    (case l11 => k_is)
    (case c11 => k_is)
    (case k11 => k_is)
    (case a12 => k_is)
    (case l12 => k_is)
    (case c12 => k_is)
    (case k12 => k_is)
    (case a13 => k_is)
    (case l13 => k_is)
    (case c13 => k_is)
    (case k13 => k_is)
    (case a14 => k_is)
    (case l14 => k_is)
    (case c14 => k_is)
    (case k14 => k_is)
    (case a15 => k_is)
    (case l15 => k_is)
    (case c15 => k_is)
    (case k15 => k_is)
    (case a16 => k_is)
    (case l16 => k_is)
    (case c16 => k_is)
    (case k16 => k_is)
    (case a17 => k_is)
    (case l17 => k_is)
    (case c17 => k_is)
    (case k17 => k_is)
    (case a18 => k_is)
    (case l18 => k_is)
    (case c18 => k_is)
    (case k18 => k_is)
    (case a19 => k_is)
    (case l19 => k_is)
    (case c19 => k_is)
    (case k19 => k_is)
    (case a20 => k_is)
    (case l20 => k_is)
    (case c20 => k_is)
    (case k20 => k_is)
    (case a21 => k_is)
    (case l21 => k_is)
    (case c21 => k_is)
    (case k21 => k_is)
    (case a22 => k_is)
    (case l22 => k_is)
    (case c22 => k_is)
    (case k22 => k_is)
    (case a23 => k_is)
    (case l23 => k_is)
    (case c23 => k_is)
    (case k23 => k_is)
    (case a24 => k_is)
    (case l24 => k_is)
    (case c24 => k_is)
    (case k24 => k_is)
    (case a25 => k_is)
    (case l25 => k_is)
    (case c25 => k_is)
    (case k25 => k_is)
    (case z_ValueError => k_is)
    (case z_abs => k_is)
    (case z_all => k_is)
    (case z_dict => k_is)
    (case z_enumerate => k_is)
    (case z_int => k_is)
    (case z_isinstance => k_is)
    (case z_len => k_is)
    (case z_max => k_is)
    (case z_min => k_is)
    (case z_range => k_is)
    (case z_repr => k_is)
    (case z_sorted => k_is)
    (case z_tuple => k_is)
    (case z_zip => k_is)
    (case z_MOST_LAID => k_is)
    (case zx_EvenError => k_is)
    (case zx_NoWay => k_is)
    (case zx_TooMany => k_is)
    (case rx_TooMany => k_exc)
    (case rk_TooMany => k_is)
    (case rs_TooMany => k_is)
    (case rt_TooMany => k_is)
    (case tb_EvenError => k_is)
    (case td_EvenError => k_is)
    (case tt_EvenError => k_is)
    (case te_EvenError_TooMany => k_is)
    (case xa_TooMany => k_is)
    (case xb_TooMany => k_is)
    (case xc_TooMany => k_is)
    (case xd_TooMany => k_is)
    (case xe_TooMany => k_is)
    (case xf_TooMany => k_is)
    (case xg_TooMany => k_is)
    (case xh_TooMany => k_is)
    (case xv_TooMany => k_is)
    (case xw_TooMany => k_is)
    (case xk_TooMany_NoWay => k_is)
    (case xk_TooMany_TooMany => k_is)
    (case xi_NoWay => k_is)
    (case xj_NoWay => k_is)
    (case xi_TooMany => k_is)
    (case xj_TooMany => k_is)
