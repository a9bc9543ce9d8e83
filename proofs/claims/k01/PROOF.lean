import PyProof.Rows.All
import Wide.All
import OpenK.AllK
import Wide.FinOn
import KE.KStateDown
import HandS.Base
import HandS.Call
import HandS.Words
import HandS.Defaults
import HandS.ExcInit
import HandS.ExcField
import HandS.Head0
import HandS.Head1
import HandS.Head2
import HandS.HeadHook1
import HandS.HeadHook2
import HandS.HeadHook4
import KE.KNestM
import Wide.Once
import KE.GoesNew
import HandS.ForMost
import HandS.ForExc
import HandS.Walk
import HandS.IsInst
import HandS.Lambda
import HandS.EndTab
import HandS.StrMore
import HandS.Zip
import HandS.DictTup
import KE.KeyNested
import KE.KDictKeyed
import HandS.Style
import HandS.Conv
import HandS.TupAny
import PyProof.ReprRoads
import PyProof.ReprLen
import HandS.Codes
import HandS.Text
import HandS.Replace
import HandS.ReplaceLit
import HandS.ReplaceList
import HandS.Iter
import HandS.RaiseMore
import HandS.OwnEq
import HandS.Wide
import HandS.More
import HandS.MakeKwOnly
import HandS.ExcOwn
import HandS.HeadWalk
import PySem.Challenge.RW_nestfile_k01_things_of_the_package
set_option Elab.async false
set_option linter.all false
set_option maxRecDepth 100000
set_option maxHeartbeats 8000000
/-! The facts of a large top by one run: which objects are looked at, further checks. -/
namespace HdK
open PySem PySem.Spec PyProof.Rows L2 He
def valsOf (o : Obj) : List Addr := match o.data with
  | .dict es _ => es.toList.flatMap fun e => refV e.val
  | _ => []
def partsOf (o : Obj) : List Addr := match o.data with
  | .cls cd => cd.ns :: cd.mro.flatMap refV
  | .func fd => refV fd.code ++ (refV fd.defaults ++ refV fd.kwdefaults)
  | _ => []
def viaG (g : Addr → Option Obj) (f : Obj → List Addr) (as : List Addr) : List Addr := as.flatMap fun a => match g a with
  | some o => f o
  | none => []
def asK (g : Addr → Option Obj) : List Addr :=
  mainGlobals :: (viaG g valsOf [mainGlobals] ++ (viaG g partsOf (viaG g valsOf [mainGlobals]) ++ (viaG g valsOf (viaG g partsOf (viaG g valsOf [mainGlobals])) ++ viaG g partsOf (viaG g valsOf (viaG g partsOf (viaG g valsOf [mainGlobals]))))))
abbrev AlK : Type := AlD × Bool
def obsK (fa : List Fa) (fn : List DefD) (ex : List (PySem.W.Frag → Bool)) (K : PySem.W.Frag) : AlK := (obsD fa fn K, ex.all fun e => e K)
def valK (fn : List DefD) : AlK := (valD fn, true)
def obsKG (fa : List Fa) (fn : List DefD) (ex : List (PySem.W.Frag → Bool)) (g : Addr → Option Obj) : AlK := obsK fa fn ex (frG g (asK g))
structure SaysK (fa : List Fa) (fn : List DefD) (ex : List (PySem.W.Frag → Bool)) (K : PySem.W.Frag) : Prop where
  d : SaysD fa fn K
  m : (ex.all fun e => e K) = true
def hookK (fa : List Fa) (fn : List DefD) (ex : List (PySem.W.Frag → Bool)) : PySem.W.Hook where
  α := AlK
  obs := fun s => obsKG fa fn ex s.heap.get?
  val := fun _ => valK fn
  says := fun _ h => ∃ K : PySem.W.Frag, K.In h ∧ SaysK fa fn ex K
  of := fun _ _ e => ⟨_, frG_in, congrArg (fun z : AlK => z.1) e, congrArg (fun z : AlK => z.2) e⟩
  keeps := fun _ _ _ ⟨K, hK, c⟩ k => ⟨K, PySem.W.Frag.In.keeps hK k, c⟩
theorem obsKG_eq {fa : List Fa} {fn : List DefD} {ex : List (PySem.W.Frag → Bool)} {g : Addr → Option Obj} {s : Shared} (h : ∀ a, g a = s.heap.get? a) : obsKG fa fn ex g = (hookK fa fn ex).obs s := by
  have e : g = s.heap.get? := funext h
  rw [e] <;> rfl
theorem SaysK.at {fa : List Fa} {fn : List DefD} {ex : List (PySem.W.Frag → Bool)} {K : PySem.W.Frag} (c : SaysK fa fn ex K) (i : Nat) {e : PySem.W.Frag → Bool} (h : ex[i]? = some e := by rfl) : e K = true :=
  List.all_eq_true.mp c.m e (List.mem_of_getElem? h)
/-! ### single checks -/
theorem nsg {K : PySem.W.Frag} {x : Str} (c : (Fa.glo x).ok K = true) : PySem.W.nsIn K mainGlobals x = some (some (.ref (ga K x))) := eqO_ok c
theorem nsf {K : PySem.W.Frag} {x : Str} (c : (Fa.free x).ok K = true) : PySem.W.nsIn K mainGlobals x = some none := eqO_ok c
theorem nsi {K : PySem.W.Frag} {x : Str} {i : Int} (c : (Fa.int x i).ok K = true) : ∃ t, PySem.W.nsIn K mainGlobals x = some (some (.int i t)) := by
  have c2 : (match PySem.W.nsIn K mainGlobals x with
    | some (some (.int j _)) => decide (j = i)
    | _ => false) = true := c
  cases e : PySem.W.nsIn K mainGlobals x with
  | none =>
    rw [e] at c2
    cases c2
  | some o =>
    rw [e] at c2
    cases o with
    | none => cases c2
    | some v =>
      cases v with
      | int j t =>
        have ej : j = i := of_decide_eq_true c2
        exact ⟨t, by rw [ej]⟩
      | _ => cases c2
theorem nss {K : PySem.W.Frag} {x z : Str} (c : (Fa.str x z).ok K = true) : ∃ t, PySem.W.nsIn K mainGlobals x = some (some (.str z t)) := by
  have c2 : (match PySem.W.nsIn K mainGlobals x with
    | some (some (.str y _)) => decide (y = z)
    | _ => false) = true := c
  cases e : PySem.W.nsIn K mainGlobals x with
  | none =>
    rw [e] at c2
    cases c2
  | some o =>
    rw [e] at c2
    cases o with
    | none => cases c2
    | some v =>
      cases v with
      | str j t =>
        have ej : j = z := of_decide_eq_true c2
        exact ⟨t, by rw [ej]⟩
      | _ => cases c2
/-- a def without defaults, as the walks want it -/
theorem fun0 {K : PySem.W.Frag} {x qual : Str} {st : Stmt} {f : Addr} (h : ∃ fd, FunD K x qual (defArgs st) (defBody st) (defScope st) [] [] f fd) : ∃ fd, Fun K x qual st f fd := by
  obtain ⟨fd, F⟩ := h
  obtain ⟨oc, od, dV, kV, doc, pm, an, cdv, ct, osl, e, lk, cd, hd, _⟩ := F.ex
  rcases hd with ⟨_, hd⟩ | ⟨hd, _⟩
  · rw [hd] at e
    exact ⟨fd, ⟨oc, od, kV, doc, pm, an, cdv, ct, osl, e, lk, cd⟩, F.kp⟩
  · exact absurd rfl hd
/-- an own class of errors -/
def excB (K : PySem.W.Frag) (C : Addr) : Bool := match K.lookup C with
  | some ⟨.type c, _, .cls cd, sl⟩ => (match cd.mro, sl.toList with
    | .ref D :: bm, [_, _, _, _, some (.builtin n), _] => decide (c = "type") && (decide (D = C) && (decide (n = "ValueError.__new__") && (!cd.hasDel && (cd.hasDict && PySem.HandSPX.refsVE bm))))
    | _, _ => false)
  | _ => false
theorem excB_ok {K : PySem.W.Frag} {C : Addr} (q : excB K C = true) : ∃ nm q N bs bm sn sub ab col dd k0 k1 k2 k3 k5, K.lookup C = some (excClassObj nm q C N bs bm true sn sub ab col dd k0 k1 k2 k3 k5 "ValueError.__new__") ∧ PySem.HandSPX.refsVE bm = true := by
  unfold excB at q
  split at q
  · rename_i c dd cd sl ho
    split at q
    · rename_i D bm k0 k1 k2 k3 n k5 hm hs
      simp only [Bool.and_eq_true, decide_eq_true_eq, Bool.not_eq_true'] at q
      obtain ⟨e1, e2, e3, hdel, hdic, hv⟩ := q
      subst e1 e2 e3
      obtain ⟨nm, bs, mro, ns, qn, hd, sn, sub, ab, col, del⟩ := cd
      dsimp only at hm hdel hdic
      subst hm hdel hdic
      have hsl : sl = #[k0, k1, k2, k3, some (.builtin "ValueError.__new__"), k5] := by
        obtain ⟨l⟩ := sl
        simp only at hs
        rw [hs]
      subst hsl
      exact ⟨nm, qn, ns, bs, bm, sn, sub, ab, col, dd, k0, k1, k2, k3, k5, ho, hv⟩
    · cases q
  · cases q
def oexB (K : PySem.W.Frag) (C : Addr) : Bool := excB K C && (decide (PySem.W.findIn K (.ref C) "__setattr__" = some (some (.builtin "object.__setattr__"))) && (decide (PySem.W.subIn K (.ref C) (.type "BaseException") = some true) && (decide (PySem.W.typeIn K (.ref C) = some (.type "type")) && PySem.W.keepIn K (.ref C))))
theorem oexB_ok {K : PySem.W.Frag} {C : Addr} (q : oexB K C = true) : OexC K C := by
  obtain ⟨h1, h⟩ := Bool.and_eq_true_iff.mp q
  obtain ⟨h2, h⟩ := Bool.and_eq_true_iff.mp h
  obtain ⟨h3, h⟩ := Bool.and_eq_true_iff.mp h
  obtain ⟨h4, h5⟩ := Bool.and_eq_true_iff.mp h
  exact ⟨excB_ok h1, of_decide_eq_true h2, of_decide_eq_true h3, of_decide_eq_true h4, h5⟩
/-- a dict of integers and texts, as it stands -/
def entB : List DictEntry → List (Int × Str) → Bool
  | [], [] => true
  | ⟨h, .int i _, .str s _⟩ :: r, (j, z) :: q => decide (h = j) && (decide (i = j) && (decide (s = z) && entB r q))
  | _, _ => false
theorem entB_nil {es : List DictEntry} (h : entB es [] = true) : es = [] := by
  cases es with
  | nil => rfl
  | cons e r =>
    obtain ⟨hh, k, v⟩ := e
    cases k <;> cases v <;> cases h
theorem entB_cons {es : List DictEntry} {j : Int} {z : Str} {q : List (Int × Str)} (h : entB es ((j, z) :: q) = true) : ∃ t u r, es = ⟨j, .int j t, .str z u⟩ :: r ∧ entB r q = true := by
  cases es with
  | nil => cases h
  | cons e r =>
    obtain ⟨hh, k, v⟩ := e
    cases k with
    | int i t =>
      cases v with
      | str s u =>
        obtain ⟨h1, g1⟩ := Bool.and_eq_true_iff.mp (show (decide (hh = j) && (decide (i = j) && (decide (s = z) && entB r q))) = true from h)
        obtain ⟨h2, g2⟩ := Bool.and_eq_true_iff.mp g1
        obtain ⟨h3, g3⟩ := Bool.and_eq_true_iff.mp g2
        have e1 := of_decide_eq_true h1
        have e2 := of_decide_eq_true h2
        have e3 := of_decide_eq_true h3
        subst e1 e2 e3
        exact ⟨t, u, r, rfl, g3⟩
      | _ => cases h
    | _ => cases v <;> cases h
def dicB (K : PySem.W.Frag) (a : Addr) (l : List (Int × Str)) : Bool := match K.lookup a with
  | some ⟨.type c, none, .dict es _, sl⟩ => decide (c = "dict") && (sl.isEmpty && entB es.toList l)
  | _ => false
theorem dicB_ok {K : PySem.W.Frag} {a : Addr} {l : List (Int × Str)} (h : dicB K a l = true) : ∃ es n, K.lookup a = some ⟨.type "dict", none, .dict es n, #[]⟩ ∧ entB es.toList l = true := by
  unfold dicB at h
  split at h
  · rename_i c es n sl ho
    obtain ⟨h1, h⟩ := Bool.and_eq_true_iff.mp h
    obtain ⟨h2, h⟩ := Bool.and_eq_true_iff.mp h
    have e1 := of_decide_eq_true h1
    subst e1
    have e2 := Array.isEmpty_iff.mp h2
    subst e2
    exact ⟨es, n, ho, h⟩
  · cases h
theorem dic5_ok {K : PySem.W.Frag} {a : Addr} {j1 j2 j3 j4 j5 : Int} {z1 z2 z3 z4 z5 : Str} (h : dicB K a [(j1, z1), (j2, z2), (j3, z3), (j4, z4), (j5, z5)] = true) :
    ∃ t1 t2 t3 t4 t5 u1 u2 u3 u4 u5 n, K.lookup a = some ⟨.type "dict", none, .dict #[⟨j1, .int j1 t1, .str z1 u1⟩, ⟨j2, .int j2 t2, .str z2 u2⟩, ⟨j3, .int j3 t3, .str z3 u3⟩, ⟨j4, .int j4 t4, .str z4 u4⟩, ⟨j5, .int j5 t5, .str z5 u5⟩] n, #[]⟩ := by
  obtain ⟨es, n, ho, h⟩ := dicB_ok h
  obtain ⟨t1, u1, r1, e1, h⟩ := entB_cons h
  obtain ⟨t2, u2, r2, e2, h⟩ := entB_cons h
  obtain ⟨t3, u3, r3, e3, h⟩ := entB_cons h
  obtain ⟨t4, u4, r4, e4, h⟩ := entB_cons h
  obtain ⟨t5, u5, r5, e5, h⟩ := entB_cons h
  have e6 := entB_nil h
  subst e6 e5 e4 e3 e2
  obtain ⟨es⟩ := es
  have e1' : es = _ := e1
  subst e1'
  exact ⟨t1, t2, t3, t4, t5, u1, u2, u3, u4, u5, n, ho⟩
end HdK

set_option Elab.async false
set_option linter.all false
set_option maxRecDepth 100000
set_option maxHeartbeats 8000000
/-! HdK's facts, with the empty tables of some defs' code objects (left out of K). -/
namespace HdT
open PySem PySem.Spec PyProof.Rows L2 He HdK
/-- a kept table of this def -/
structure SaysB (fa : List Fa) (fn : List DefD) (tf : List Defn) (ex : List (PySem.W.Frag → Bool)) (h : Heap) (K : PySem.W.Frag) : Prop where
  k : SaysK fa fn ex K
  hd : ∀ p ∈ tf, PySem.W.codeHdIn K (cT K p).1 (cT K p).2 = true
  out : ∀ p ∈ tf, K.lookup (cT K p).2 = none
  empty : ∀ p ∈ tf, h.get? (cT K p).2 = some { cls := .none, data := .fields #[] }
def obsTG (fa : List Fa) (fn : List DefD) (tf : List Defn) (ex : List (PySem.W.Frag → Bool)) (g : Addr → Option Obj) : AlK := (obsD fa fn (frT g (asK g)), (ex.all fun e => e (frT g (asK g))) && tabsB g tf (frT g (asK g)))
theorem says_of {fa : List Fa} {fn : List DefD} {tf : List Defn} {ex : List (PySem.W.Frag → Bool)} {h : Heap} (e : obsTG fa fn tf ex h.get? = valK fn) : SaysB fa fn tf ex h (frT h.get? (asK h.get?)) := by
  have e1 : obsD fa fn (frT h.get? (asK h.get?)) = valD fn := congrArg (fun z : AlK => z.1) e
  have e2 : ((ex.all fun e => e (frT h.get? (asK h.get?))) && tabsB h.get? tf (frT h.get? (asK h.get?))) = true := congrArg (fun z : AlK => z.2) e
  obtain ⟨h1, h2⟩ := Bool.and_eq_true_iff.mp e2
  have key : ∀ p ∈ tf, PySem.W.codeHdIn (frT h.get? (asK h.get?)) (cT (frT h.get? (asK h.get?)) p).1 (cT (frT h.get? (asK h.get?)) p).2 = true ∧ ∃ o, h.get? (cT (frT h.get? (asK h.get?)) p).2 = some o ∧ emptyTab o = true := fun p hp => by
    obtain ⟨h3, h4⟩ := Bool.and_eq_true_iff.mp (List.all_eq_true.mp h2 p hp)
    refine ⟨h3, ?_⟩
    cases q : h.get? (cT (frT h.get? (asK h.get?)) p).2 with
    | none =>
      rw [q] at h4
      cases h4
    | some o =>
      rw [q] at h4
      exact ⟨o, rfl, h4⟩
  refine ⟨⟨e1, h1⟩, fun p hp => (key p hp).1, fun p hp => ?_, fun p hp => ?_⟩
  · obtain ⟨_, o, q, z⟩ := key p hp
    exact frT_none q z
  · obtain ⟨_, o, q, z⟩ := key p hp
    rw [q, emptyTab_eq z]
def hookT (fa : List Fa) (fn : List DefD) (tf : List Defn) (ex : List (PySem.W.Frag → Bool)) : PySem.W.Hook where
  α := AlK
  obs := fun s => obsTG fa fn tf ex s.heap.get?
  val := fun _ => valK fn
  says := fun _ h => ∃ K : PySem.W.Frag, K.In h ∧ SaysB fa fn tf ex h K
  of := fun _ _ e => ⟨_, frT_in, says_of e⟩
  keeps := fun _ _ _ ⟨K, hK, c⟩ k => ⟨K, PySem.W.Frag.In.keeps hK k, ⟨c.k, c.hd, c.out, fun p hp => k _ _ (c.empty p hp)⟩⟩
theorem obsTG_eq {fa : List Fa} {fn : List DefD} {tf : List Defn} {ex : List (PySem.W.Frag → Bool)} {g : Addr → Option Obj} {s : Shared} (h : ∀ a, g a = s.heap.get? a) : obsTG fa fn tf ex g = (hookT fa fn tf ex).obs s := by
  have e : g = s.heap.get? := funext h
  rw [e] <;> rfl
end HdT

set_option Elab.async false
set_option linter.all false
set_option maxRecDepth 100000
set_option maxHeartbeats 8000000
/-! The top by one run of the kernel, with the checks that the facts want. -/
namespace HeadS
open PySem PySem.Spec PyProof.Rows L2 He
abbrev R : PySem.W.OpenRow := PySem.W.OpenLaw.row PySem.Challenge.rw_nestfile_k01_things_of_the_package
def tp (i : Nat) : Stmt := PySem.Challenge.pw_nestfile_k01_things_of_the_package.main.body.getD i (.Pass ⟨0, 0, 0, 0⟩)
def nms0' : List PySem.Str := [("_wall" : PySem.Str), ("NestError" : PySem.Str), ("NoValue" : PySem.Str), ("GREATEST" : PySem.Str), ("Thing" : PySem.Str), ("is_integer" : PySem.Str), ("is_between" : PySem.Str), ("are_between" : PySem.Str), ("are_plain" : PySem.Str), ("refuse" : PySem.Str), ("Wide" : PySem.Str), ("Data" : PySem.Str), ("Uid" : PySem.Str), ("Real" : PySem.Str), ("Date" : PySem.Str), ("_law_source" : PySem.Str), ("_law_draw" : PySem.Str), ("_law_pick" : PySem.Str), ("_law_octets" : PySem.Str), ("_law_units" : PySem.Str), ("_law_made" : PySem.Str), ("_law_field" : PySem.Str), ("_law_drawn" : PySem.Str), ("_law_refused" : PySem.Str), ("_law_odd_right" : PySem.Str), ("_law_one_right" : PySem.Str), ("_law_right" : PySem.Str)]
def nms : List PySem.Str := nms0'
def fa0' : List He.Fa := [.glo "NoValue", .glo "Wide", .glo "Data", .glo "Uid", .glo "Real", .glo "Date", .glo "Thing", .glo "NestError", .glo "is_integer", .glo "is_between", .glo "are_between", .glo "are_plain", .glo "refuse", .glo "_law_source", .glo "_law_draw", .glo "_law_pick", .glo "_law_octets", .glo "_law_units", .glo "_law_made", .glo "_law_field", .glo "_law_drawn", .glo "_law_refused", .glo "_law_odd_right", .glo "_law_one_right", .glo "_law_right", .glo "law", .free "len", .free "isinstance", .free "str", .free "int"]
def fa1' : List He.Fa := [.free "bool", .free "abs", .free "range", .free "list", .free "tuple", .free "all", .free "repr", .free "enumerate", .int "GREATEST" 18446744073709551615]
def fa : List He.Fa := fa0' ++ fa1'
def d0 : He.DefD := ⟨("NoValue", some "__init__"), "__init__", "NoValue.__init__", defArgs (inClass (tp 3) 0), defBody (inClass (tp 3) 0), defScope (inClass (tp 3) 0), [], []⟩
def d1 : He.DefD := ⟨("Thing", some "__eq__"), "__eq__", "Thing.__eq__", defArgs (inClass (tp 6) 2), defBody (inClass (tp 6) 2), defScope (inClass (tp 6) 2), [], []⟩
def d2 : He.DefD := ⟨("is_integer", none), "is_integer", "is_integer", defArgs (tp 7), defBody (tp 7), defScope (tp 7), [], []⟩
def d3 : He.DefD := ⟨("is_between", none), "is_between", "is_between", defArgs (tp 8), defBody (tp 8), defScope (tp 8), [], []⟩
def d4 : He.DefD := ⟨("are_between", none), "are_between", "are_between", defArgs (tp 9), defBody (tp 9), defScope (tp 9), [], []⟩
def d5 : He.DefD := ⟨("are_plain", none), "are_plain", "are_plain", defArgs (tp 10), defBody (tp 10), defScope (tp 10), [], []⟩
def d6 : He.DefD := ⟨("refuse", none), "refuse", "refuse", defArgs (tp 11), defBody (tp 11), defScope (tp 11), [], []⟩
def d7 : He.DefD := ⟨("Wide", some "__init__"), "__init__", "Wide.__init__", defArgs (inClass (tp 12) 0), defBody (inClass (tp 12) 0), defScope (inClass (tp 12) 0), [], []⟩
def d8 : He.DefD := ⟨("Wide", some "class_name"), "class_name", "Wide.class_name", defArgs (inClass (tp 12) 1), defBody (inClass (tp 12) 1), defScope (inClass (tp 12) 1), [], []⟩
def d9 : He.DefD := ⟨("Wide", some "facts"), "facts", "Wide.facts", defArgs (inClass (tp 12) 2), defBody (inClass (tp 12) 2), defScope (inClass (tp 12) 2), [], []⟩
def d10 : He.DefD := ⟨("Data", some "__init__"), "__init__", "Data.__init__", defArgs (inClass (tp 13) 0), defBody (inClass (tp 13) 0), defScope (inClass (tp 13) 0), [], []⟩
def d11 : He.DefD := ⟨("Data", some "class_name"), "class_name", "Data.class_name", defArgs (inClass (tp 13) 1), defBody (inClass (tp 13) 1), defScope (inClass (tp 13) 1), [], []⟩
def d12 : He.DefD := ⟨("Data", some "facts"), "facts", "Data.facts", defArgs (inClass (tp 13) 2), defBody (inClass (tp 13) 2), defScope (inClass (tp 13) 2), [], []⟩
def d13 : He.DefD := ⟨("Uid", some "__init__"), "__init__", "Uid.__init__", defArgs (inClass (tp 14) 0), defBody (inClass (tp 14) 0), defScope (inClass (tp 14) 0), [], []⟩
def d14 : He.DefD := ⟨("Uid", some "class_name"), "class_name", "Uid.class_name", defArgs (inClass (tp 14) 1), defBody (inClass (tp 14) 1), defScope (inClass (tp 14) 1), [], []⟩
def d15 : He.DefD := ⟨("Uid", some "facts"), "facts", "Uid.facts", defArgs (inClass (tp 14) 2), defBody (inClass (tp 14) 2), defScope (inClass (tp 14) 2), [], []⟩
def d16 : He.DefD := ⟨("Real", some "__init__"), "__init__", "Real.__init__", defArgs (inClass (tp 15) 0), defBody (inClass (tp 15) 0), defScope (inClass (tp 15) 0), [], []⟩
def d17 : He.DefD := ⟨("Real", some "class_name"), "class_name", "Real.class_name", defArgs (inClass (tp 15) 1), defBody (inClass (tp 15) 1), defScope (inClass (tp 15) 1), [], []⟩
def d18 : He.DefD := ⟨("Real", some "facts"), "facts", "Real.facts", defArgs (inClass (tp 15) 2), defBody (inClass (tp 15) 2), defScope (inClass (tp 15) 2), [], []⟩
def d19 : He.DefD := ⟨("Date", some "__init__"), "__init__", "Date.__init__", defArgs (inClass (tp 16) 0), defBody (inClass (tp 16) 0), defScope (inClass (tp 16) 0), [], []⟩
def d20 : He.DefD := ⟨("Date", some "class_name"), "class_name", "Date.class_name", defArgs (inClass (tp 16) 1), defBody (inClass (tp 16) 1), defScope (inClass (tp 16) 1), [], []⟩
def d21 : He.DefD := ⟨("Date", some "facts"), "facts", "Date.facts", defArgs (inClass (tp 16) 2), defBody (inClass (tp 16) 2), defScope (inClass (tp 16) 2), [], []⟩
def d22 : He.DefD := ⟨("_law_source", none), "_law_source", "_law_source", defArgs (tp 18), defBody (tp 18), defScope (tp 18), [], []⟩
def d23 : He.DefD := ⟨("_law_draw", none), "_law_draw", "_law_draw", defArgs (tp 19), defBody (tp 19), defScope (tp 19), [], []⟩
def d24 : He.DefD := ⟨("_law_pick", none), "_law_pick", "_law_pick", defArgs (tp 20), defBody (tp 20), defScope (tp 20), [], []⟩
def d25 : He.DefD := ⟨("_law_octets", none), "_law_octets", "_law_octets", defArgs (tp 21), defBody (tp 21), defScope (tp 21), [], []⟩
def d26 : He.DefD := ⟨("_law_units", none), "_law_units", "_law_units", defArgs (tp 22), defBody (tp 22), defScope (tp 22), [], []⟩
def d27 : He.DefD := ⟨("_law_made", none), "_law_made", "_law_made", defArgs (tp 23), defBody (tp 23), defScope (tp 23), [], []⟩
def d28 : He.DefD := ⟨("_law_field", none), "_law_field", "_law_field", defArgs (tp 24), defBody (tp 24), defScope (tp 24), [], []⟩
def d29 : He.DefD := ⟨("_law_drawn", none), "_law_drawn", "_law_drawn", defArgs (tp 25), defBody (tp 25), defScope (tp 25), [], []⟩
def d30 : He.DefD := ⟨("_law_refused", none), "_law_refused", "_law_refused", defArgs (tp 26), defBody (tp 26), defScope (tp 26), [], []⟩
def d31 : He.DefD := ⟨("_law_odd_right", none), "_law_odd_right", "_law_odd_right", defArgs (tp 27), defBody (tp 27), defScope (tp 27), [], []⟩
def d32 : He.DefD := ⟨("_law_one_right", none), "_law_one_right", "_law_one_right", defArgs (tp 28), defBody (tp 28), defScope (tp 28), [], []⟩
def d33 : He.DefD := ⟨("_law_right", none), "_law_right", "_law_right", defArgs (tp 29), defBody (tp 29), defScope (tp 29), [], []⟩
def d34 : He.DefD := ⟨("law", none), "law", "law", defArgs (tp 30), defBody (tp 30), defScope (tp 30), [], []⟩
def fn0' : List He.DefD := [d0, d1, d2, d3, d4, d5, d6, d7, d8, d9, d10, d11, d12, d13, d14, d15, d16, d17, d18, d19, d20, d21, d22, d23, d24, d25, d26, d27, d28, d29]
def fn1' : List He.DefD := [d30, d31, d32, d33, d34]
def fn : List He.DefD := fn0' ++ fn1'
def ex0' : List (PySem.W.Frag → Bool) := [fun K => HdK.oexB K (He.ga K "NoValue"), fun K => xfB K (He.ga K "NoValue"), fun K => decide (PySem.W.findIn K (.ref (He.ga K "NoValue")) "path" = some none), fun K => PySem.W.isClsIn K (He.ga K "NoValue"), fun K => decide (PySem.W.subIn K (.ref (He.ga K "NoValue")) (.ref (He.ga K "NoValue")) = some true), fun K => PySem.W.makesIn K (He.ga K "Wide"), fun K => PySem.W.keepIn K (.ref (He.ga K "Wide")), fun K => PySem.W.plainGet K (He.ga K "Wide") Str.empty, fun K => PySem.W.hasDictIn K (He.ga K "Wide"), fun K => PySem.W.plainOver K (He.ga K "Wide"), fun K => decide (PySem.W.findIn K (.ref (He.ga K "Wide")) "__setattr__" = some (some (.builtin "object.__setattr__"))), fun K => decide (PySem.W.findIn K (.ref (He.ga K "Wide")) "units" = some none), fun K => PySem.W.makesIn K (He.ga K "Data"), fun K => PySem.W.keepIn K (.ref (He.ga K "Data")), fun K => PySem.W.plainGet K (He.ga K "Data") Str.empty, fun K => PySem.W.hasDictIn K (He.ga K "Data"), fun K => PySem.W.plainOver K (He.ga K "Data"), fun K => decide (PySem.W.findIn K (.ref (He.ga K "Data")) "__setattr__" = some (some (.builtin "object.__setattr__"))), fun K => decide (PySem.W.findIn K (.ref (He.ga K "Data")) "octets" = some none), fun K => PySem.W.makesIn K (He.ga K "Uid")]
def ex1' : List (PySem.W.Frag → Bool) := [fun K => PySem.W.keepIn K (.ref (He.ga K "Uid")), fun K => PySem.W.plainGet K (He.ga K "Uid") Str.empty, fun K => PySem.W.hasDictIn K (He.ga K "Uid"), fun K => PySem.W.plainOver K (He.ga K "Uid"), fun K => decide (PySem.W.findIn K (.ref (He.ga K "Uid")) "__setattr__" = some (some (.builtin "object.__setattr__"))), fun K => decide (PySem.W.findIn K (.ref (He.ga K "Uid")) "number" = some none), fun K => PySem.W.makesIn K (He.ga K "Real"), fun K => PySem.W.keepIn K (.ref (He.ga K "Real")), fun K => PySem.W.plainGet K (He.ga K "Real") Str.empty, fun K => PySem.W.hasDictIn K (He.ga K "Real"), fun K => PySem.W.plainOver K (He.ga K "Real"), fun K => decide (PySem.W.findIn K (.ref (He.ga K "Real")) "__setattr__" = some (some (.builtin "object.__setattr__"))), fun K => decide (PySem.W.findIn K (.ref (He.ga K "Real")) "octets" = some none), fun K => PySem.W.makesIn K (He.ga K "Date"), fun K => PySem.W.keepIn K (.ref (He.ga K "Date")), fun K => PySem.W.plainGet K (He.ga K "Date") Str.empty, fun K => PySem.W.hasDictIn K (He.ga K "Date"), fun K => PySem.W.plainOver K (He.ga K "Date"), fun K => decide (PySem.W.findIn K (.ref (He.ga K "Date")) "__setattr__" = some (some (.builtin "object.__setattr__"))), fun K => decide (PySem.W.findIn K (.ref (He.ga K "Date")) "octets" = some none)]
def ex2' : List (PySem.W.Frag → Bool) := [fun K => decide (PySem.W.findIn K (.ref (He.ga K "NoValue")) "__init__" = some (some (.ref (He.ma K (He.ga K "NoValue") "__init__")))), fun K => decide (PySem.W.typeIn K (.ref (He.ma K (He.ga K "NoValue") "__init__")) = some (.type "function")), fun K => decide (PySem.W.findIn K (.ref (He.ga K "Thing")) "__eq__" = some (some (.ref (He.ma K (He.ga K "Thing") "__eq__")))), fun K => PySem.W.isFn K (.ref (He.ma K (He.ga K "Thing") "__eq__")), fun K => decide (PySem.W.findIn K (.ref (He.ga K "Wide")) "__init__" = some (some (.ref (He.ma K (He.ga K "Wide") "__init__")))), fun K => PySem.W.isFn K (.ref (He.ma K (He.ga K "Wide") "__init__")), fun K => decide (PySem.W.findIn K (.ref (He.ga K "Wide")) "class_name" = some (some (.ref (He.ma K (He.ga K "Wide") "class_name")))), fun K => PySem.W.isFn K (.ref (He.ma K (He.ga K "Wide") "class_name")), fun K => decide (PySem.W.findIn K (.ref (He.ga K "Wide")) "facts" = some (some (.ref (He.ma K (He.ga K "Wide") "facts")))), fun K => PySem.W.isFn K (.ref (He.ma K (He.ga K "Wide") "facts")), fun K => decide (PySem.W.findIn K (.ref (He.ga K "Data")) "__init__" = some (some (.ref (He.ma K (He.ga K "Data") "__init__")))), fun K => PySem.W.isFn K (.ref (He.ma K (He.ga K "Data") "__init__")), fun K => decide (PySem.W.findIn K (.ref (He.ga K "Data")) "class_name" = some (some (.ref (He.ma K (He.ga K "Data") "class_name")))), fun K => PySem.W.isFn K (.ref (He.ma K (He.ga K "Data") "class_name")), fun K => decide (PySem.W.findIn K (.ref (He.ga K "Data")) "facts" = some (some (.ref (He.ma K (He.ga K "Data") "facts")))), fun K => PySem.W.isFn K (.ref (He.ma K (He.ga K "Data") "facts")), fun K => decide (PySem.W.findIn K (.ref (He.ga K "Uid")) "__init__" = some (some (.ref (He.ma K (He.ga K "Uid") "__init__")))), fun K => PySem.W.isFn K (.ref (He.ma K (He.ga K "Uid") "__init__")), fun K => decide (PySem.W.findIn K (.ref (He.ga K "Uid")) "class_name" = some (some (.ref (He.ma K (He.ga K "Uid") "class_name")))), fun K => PySem.W.isFn K (.ref (He.ma K (He.ga K "Uid") "class_name"))]
def ex3' : List (PySem.W.Frag → Bool) := [fun K => decide (PySem.W.findIn K (.ref (He.ga K "Uid")) "facts" = some (some (.ref (He.ma K (He.ga K "Uid") "facts")))), fun K => PySem.W.isFn K (.ref (He.ma K (He.ga K "Uid") "facts")), fun K => decide (PySem.W.findIn K (.ref (He.ga K "Real")) "__init__" = some (some (.ref (He.ma K (He.ga K "Real") "__init__")))), fun K => PySem.W.isFn K (.ref (He.ma K (He.ga K "Real") "__init__")), fun K => decide (PySem.W.findIn K (.ref (He.ga K "Real")) "class_name" = some (some (.ref (He.ma K (He.ga K "Real") "class_name")))), fun K => PySem.W.isFn K (.ref (He.ma K (He.ga K "Real") "class_name")), fun K => decide (PySem.W.findIn K (.ref (He.ga K "Real")) "facts" = some (some (.ref (He.ma K (He.ga K "Real") "facts")))), fun K => PySem.W.isFn K (.ref (He.ma K (He.ga K "Real") "facts")), fun K => decide (PySem.W.findIn K (.ref (He.ga K "Date")) "__init__" = some (some (.ref (He.ma K (He.ga K "Date") "__init__")))), fun K => PySem.W.isFn K (.ref (He.ma K (He.ga K "Date") "__init__")), fun K => decide (PySem.W.findIn K (.ref (He.ga K "Date")) "class_name" = some (some (.ref (He.ma K (He.ga K "Date") "class_name")))), fun K => PySem.W.isFn K (.ref (He.ma K (He.ga K "Date") "class_name")), fun K => decide (PySem.W.findIn K (.ref (He.ga K "Date")) "facts" = some (some (.ref (He.ma K (He.ga K "Date") "facts")))), fun K => PySem.W.isFn K (.ref (He.ma K (He.ga K "Date") "facts")), fun K => decide (PySem.W.specialIn K (.builtin "object.__class__") "__get__" = some (some (.builtin "getset_descriptor.__get__"))), fun K => decide (PySem.W.takesIn K (.builtin "object.__class__") = some true), fun K => PySem.W.isFn K (.ref (He.ma K (He.ga K "Thing") "__eq__")), fun K => decide (PySem.W.kitOne K (.type "NoneType") (.ref (He.ga K "Thing")) = some false), fun K => decide (PySem.W.kitOne K (.type "int") (.ref (He.ga K "Thing")) = some false), fun K => decide (PySem.W.kitOne K (.type "str") (.ref (He.ga K "Thing")) = some false)]
def ex4' : List (PySem.W.Frag → Bool) := [fun K => decide (PySem.W.kitOne K (.type "list") (.ref (He.ga K "Thing")) = some false), fun K => decide (PySem.W.kitOne K (.type "tuple") (.ref (He.ga K "Thing")) = some false), fun K => decide (PySem.W.findIn K (.ref (He.ga K "Wide")) "__eq__" = some (some (.ref (He.ma K (He.ga K "Thing") "__eq__")))), fun K => decide (PySem.W.findIn K (.ref (He.ga K "Wide")) "__ne__" = some (some (.builtin "object.__ne__"))), fun K => decide (PySem.W.findIn K (.ref (He.ga K "Wide")) "__class__" = some (some (.builtin "object.__class__"))), fun K => decide (PySem.W.mroIn K (He.ga K "Wide") (.type "object") = some true), fun K => decide (PySem.W.kitOne K (.ref (He.ga K "Wide")) (.ref (He.ga K "Thing")) = some true), fun K => PySem.W.notFirst K (He.ga K "Wide") (.type "NoneType"), fun K => PySem.W.notFirst K (He.ga K "Wide") (.type "int"), fun K => PySem.W.notFirst K (He.ga K "Wide") (.type "str"), fun K => PySem.W.notFirst K (He.ga K "Wide") (.type "list"), fun K => PySem.W.notFirst K (He.ga K "Wide") (.type "tuple"), fun K => PySem.W.notFirst K (He.ga K "Wide") (.ref (He.ga K "Wide")), fun K => PySem.W.notFirst K (He.ga K "Wide") (.ref (He.ga K "Data")), fun K => PySem.W.notFirst K (He.ga K "Wide") (.ref (He.ga K "Uid")), fun K => PySem.W.notFirst K (He.ga K "Wide") (.ref (He.ga K "Real")), fun K => PySem.W.notFirst K (He.ga K "Wide") (.ref (He.ga K "Date")), fun K => decide (PySem.W.findIn K (.ref (He.ga K "Data")) "__eq__" = some (some (.ref (He.ma K (He.ga K "Thing") "__eq__")))), fun K => decide (PySem.W.findIn K (.ref (He.ga K "Data")) "__ne__" = some (some (.builtin "object.__ne__"))), fun K => decide (PySem.W.findIn K (.ref (He.ga K "Data")) "__class__" = some (some (.builtin "object.__class__")))]
def ex5' : List (PySem.W.Frag → Bool) := [fun K => decide (PySem.W.mroIn K (He.ga K "Data") (.type "object") = some true), fun K => decide (PySem.W.kitOne K (.ref (He.ga K "Data")) (.ref (He.ga K "Thing")) = some true), fun K => PySem.W.notFirst K (He.ga K "Data") (.type "NoneType"), fun K => PySem.W.notFirst K (He.ga K "Data") (.type "int"), fun K => PySem.W.notFirst K (He.ga K "Data") (.type "str"), fun K => PySem.W.notFirst K (He.ga K "Data") (.type "list"), fun K => PySem.W.notFirst K (He.ga K "Data") (.type "tuple"), fun K => PySem.W.notFirst K (He.ga K "Data") (.ref (He.ga K "Wide")), fun K => PySem.W.notFirst K (He.ga K "Data") (.ref (He.ga K "Data")), fun K => PySem.W.notFirst K (He.ga K "Data") (.ref (He.ga K "Uid")), fun K => PySem.W.notFirst K (He.ga K "Data") (.ref (He.ga K "Real")), fun K => PySem.W.notFirst K (He.ga K "Data") (.ref (He.ga K "Date")), fun K => decide (PySem.W.findIn K (.ref (He.ga K "Uid")) "__eq__" = some (some (.ref (He.ma K (He.ga K "Thing") "__eq__")))), fun K => decide (PySem.W.findIn K (.ref (He.ga K "Uid")) "__ne__" = some (some (.builtin "object.__ne__"))), fun K => decide (PySem.W.findIn K (.ref (He.ga K "Uid")) "__class__" = some (some (.builtin "object.__class__"))), fun K => decide (PySem.W.mroIn K (He.ga K "Uid") (.type "object") = some true), fun K => decide (PySem.W.kitOne K (.ref (He.ga K "Uid")) (.ref (He.ga K "Thing")) = some true), fun K => PySem.W.notFirst K (He.ga K "Uid") (.type "NoneType"), fun K => PySem.W.notFirst K (He.ga K "Uid") (.type "int"), fun K => PySem.W.notFirst K (He.ga K "Uid") (.type "str")]
def ex6' : List (PySem.W.Frag → Bool) := [fun K => PySem.W.notFirst K (He.ga K "Uid") (.type "list"), fun K => PySem.W.notFirst K (He.ga K "Uid") (.type "tuple"), fun K => PySem.W.notFirst K (He.ga K "Uid") (.ref (He.ga K "Wide")), fun K => PySem.W.notFirst K (He.ga K "Uid") (.ref (He.ga K "Data")), fun K => PySem.W.notFirst K (He.ga K "Uid") (.ref (He.ga K "Uid")), fun K => PySem.W.notFirst K (He.ga K "Uid") (.ref (He.ga K "Real")), fun K => PySem.W.notFirst K (He.ga K "Uid") (.ref (He.ga K "Date")), fun K => decide (PySem.W.findIn K (.ref (He.ga K "Real")) "__eq__" = some (some (.ref (He.ma K (He.ga K "Thing") "__eq__")))), fun K => decide (PySem.W.findIn K (.ref (He.ga K "Real")) "__ne__" = some (some (.builtin "object.__ne__"))), fun K => decide (PySem.W.findIn K (.ref (He.ga K "Real")) "__class__" = some (some (.builtin "object.__class__"))), fun K => decide (PySem.W.mroIn K (He.ga K "Real") (.type "object") = some true), fun K => decide (PySem.W.kitOne K (.ref (He.ga K "Real")) (.ref (He.ga K "Thing")) = some true), fun K => PySem.W.notFirst K (He.ga K "Real") (.type "NoneType"), fun K => PySem.W.notFirst K (He.ga K "Real") (.type "int"), fun K => PySem.W.notFirst K (He.ga K "Real") (.type "str"), fun K => PySem.W.notFirst K (He.ga K "Real") (.type "list"), fun K => PySem.W.notFirst K (He.ga K "Real") (.type "tuple"), fun K => PySem.W.notFirst K (He.ga K "Real") (.ref (He.ga K "Wide")), fun K => PySem.W.notFirst K (He.ga K "Real") (.ref (He.ga K "Data")), fun K => PySem.W.notFirst K (He.ga K "Real") (.ref (He.ga K "Uid"))]
def ex7' : List (PySem.W.Frag → Bool) := [fun K => PySem.W.notFirst K (He.ga K "Real") (.ref (He.ga K "Real")), fun K => PySem.W.notFirst K (He.ga K "Real") (.ref (He.ga K "Date")), fun K => decide (PySem.W.findIn K (.ref (He.ga K "Date")) "__eq__" = some (some (.ref (He.ma K (He.ga K "Thing") "__eq__")))), fun K => decide (PySem.W.findIn K (.ref (He.ga K "Date")) "__ne__" = some (some (.builtin "object.__ne__"))), fun K => decide (PySem.W.findIn K (.ref (He.ga K "Date")) "__class__" = some (some (.builtin "object.__class__"))), fun K => decide (PySem.W.mroIn K (He.ga K "Date") (.type "object") = some true), fun K => decide (PySem.W.kitOne K (.ref (He.ga K "Date")) (.ref (He.ga K "Thing")) = some true), fun K => PySem.W.notFirst K (He.ga K "Date") (.type "NoneType"), fun K => PySem.W.notFirst K (He.ga K "Date") (.type "int"), fun K => PySem.W.notFirst K (He.ga K "Date") (.type "str"), fun K => PySem.W.notFirst K (He.ga K "Date") (.type "list"), fun K => PySem.W.notFirst K (He.ga K "Date") (.type "tuple"), fun K => PySem.W.notFirst K (He.ga K "Date") (.ref (He.ga K "Wide")), fun K => PySem.W.notFirst K (He.ga K "Date") (.ref (He.ga K "Data")), fun K => PySem.W.notFirst K (He.ga K "Date") (.ref (He.ga K "Uid")), fun K => PySem.W.notFirst K (He.ga K "Date") (.ref (He.ga K "Real")), fun K => PySem.W.notFirst K (He.ga K "Date") (.ref (He.ga K "Date"))]
def ex : List (PySem.W.Frag → Bool) := ex0' ++ ex1' ++ ex2' ++ ex3' ++ ex4' ++ ex5' ++ ex6' ++ ex7'
def tf : List He.Defn := [("_law_made", none)]
abbrev hk : PySem.W.Hook := HdT.hookT fa fn tf ex
def ob (s : PySem.W.SharedT) : HdK.AlK := HdT.obsTG fa fn tf ex (HandSHeadRun.getT s)
theorem ob_eq (s : PySem.W.SharedT) : ob s = hk.obs s.abs := HdT.obsTG_eq (HandSHeadRun.getT_eq s)
theorem runF (w : World) : HandSHeadRun.RunEq R (PySem.W.view R.prog [30]) hk ob 20000 nms (w.withFollow "special-get-raises" false) := by
  intro os
  kernel_rfl
theorem runT (w : World) : HandSHeadRun.RunEq R (PySem.W.view R.prog [30]) hk ob 20000 nms (w.withFollow "special-get-raises" true) := by
  intro os
  kernel_rfl
theorem run (w : World) : HandSHeadRun.RunEq R (PySem.W.view R.prog [30]) hk ob 20000 nms w :=
  PySem.W.byRow2 "special-get-raises" (P := fun w => HandSHeadRun.RunEq R (PySem.W.view R.prog [30]) hk ob 20000 nms w) runF runT w
end HeadS

set_option Elab.async false
set_option linter.all false
set_option maxRecDepth 100000
set_option maxHeartbeats 4000000
/-! Rules of my own beside the hand layer: pairs handed out by enumerate and zip over tuples and texts; a text's slice with a step; a try with several clauses, some with a name. -/
namespace G58
open PySem PySem.Spec PyProof.Rows L2

/-! ### new pairs, handed out one by one -/
/-- n pairs while g stands; the i-th one is told by yv -/
def ItP (n : Nat) (g : Hp → Prop) (yv : Nat → V → V → Prop) : It where
  go := fun i H => i < n ∧ g H
  yld := fun i H v H' => ∃ T x y, v = .ref T ∧ H T = none ∧ H' = upd H T (.tup [x, y]) ∧ yv i x y
  stop := fun i H => i = n ∧ g H
theorem walkP {n : Nat} {g : Hp → Prop} {yv : Nat → V → V → Prop} :
    Walk (ItP n g yv) n g (fun i H v H' => ∃ T x y, v = .ref T ∧ H T = none ∧ H' = upd H T (.tup [x, y]) ∧ yv i x y) :=
  ⟨fun _ _ hi q => ⟨hi, q⟩, fun _ q => ⟨rfl, q⟩, fun _ _ _ _ _ _ y => y⟩
/-- what an iterator of pairs owes in a context -/
def PairsIn (X : Cx) (tg : Expr) (I : Addr) (fpA : List Addr) (n : Nat) (yv : Nat → V → V → Prop) (tn : Nat → Heap → Prop) (h0 : Heap) : Prop :=
  ∃ (fp wr : List Addr) (Y : Nat → Heap → Value → Heap → Prop) (St : Nat → Heap → Prop),
    GoesN X.prog X.w X.A tg I fp wr n Y St ∧ (∀ b ∈ wr, b ∈ fpA) ∧ (∀ i, tn i h0 → St i h0) ∧ (∀ i h, St i h → tn i h) ∧
    ∀ i ha v hb, Y i ha v hb → ∃ (T : Addr) (x y : V) (u1 u2 : Value), v = .ref T ∧ ha.objs.size ≤ T ∧ RelV x u1 ∧ RelV y u2 ∧ yv i x y ∧ hb.IsTuple T #[u1, u2]
theorem turnP {P : Program} {w : World} {K : PySem.W.Frag} {tg : Expr} {I : Addr} {fpA : List Addr} {n : Nat} {g : Hp → Prop} {yv : Nat → V → V → Prop} {tn : Nat → Heap → Prop}
    (mem : I ∈ fpA) (obj : ∀ i h, tn i h → ∀ b ∈ fpA, ∃ o, h.get? b = some o ∧ ∀ v, o.data ≠ .cell v)
    (keep : ∀ i h h', tn i h → (∀ b ∈ fpA, ∀ o, h.get? b = some o → h'.get? b = some o) → tn i h')
    (mk : ∀ (X : Cx), X.prog = P → X.w = w → X.K = K → X.calm = true → ∀ (i : Nat) (pins : List (Addr × Obj)) (s : Shared) (σ : L2.St) (H : Hp), Inv X pins σ H s → g H → tn i s.heap → PairsIn X tg I fpA n yv tn s.heap)
    (self : ∀ (A : Around) (i : Nat) (s : Shared) (Q : Value → Shared → Prop) (E : Value → Shared → Prop), tn i s.heap → Q (.ref I) s → wpAny (model P w) A (pyIter (.ref I)) Q E s) :
    Turn P w K tg (ItP n g yv) fpA I tn where
  mem := mem
  obj := obj
  keep := keep
  item := by
    intro X hP hw hK hc i pins s σ H E Iv hf st hg
    obtain ⟨fp, wr, Y, St, W, hwr, toS, ofS, hy⟩ := mk X hP hw hK hc i pins s σ H Iv hg.2 st
    subst hP hw hK
    refine W.goes i s _ E hg.1 (toS i st) fun v h' tk hY st' hk _ => ?_
    obtain ⟨T, x, y, u1, u2, ev, hT, r1, r2, hyv, htup⟩ := hy i _ v h' hY
    have new : ObjOk X.prog X.w (upd H T (.tup [x, y])) h' T (.tup [x, y]) := ⟨by show 2 ≤ sizeLine; decide, [u1, u2], .cons r1 (.cons r2 .nil), htup⟩
    have fpo : ∀ b ∈ wr, FpOk X pins H b := fun b hb => hf b (hwr b hb)
    refine ⟨.ref T, _, Iv.turnedNew (ch := wr) hk fpo hT new, ev, ⟨T, x, y, rfl, Iv.hok.fresh hT, rfl, hyv⟩, ofS _ _ st', fun b hb => ?_⟩
    obtain ⟨o, ho, _⟩ := obj i _ st b hb
    rw [upd_ne (Nat.ne_of_lt (Nat.lt_of_lt_of_le (Heap.lt_size ho) hT))]
    exact (hf b hb).1
  done := by
    intro X hP hw hK hc i pins s σ H E Iv hf st hg
    obtain ⟨fp, wr, Y, St, W, hwr, toS, ofS, hy⟩ := mk X hP hw hK hc i pins s σ H Iv hg.2 st
    subst hP hw hK
    obtain ⟨rfl, _⟩ := hg
    refine W.stops s _ E (toS i st) fun h' tk hk _ => ?_
    exact Iv.turnedL (ch := wr) hk fun b hb => hf b (hwr b hb)
  self := self
theorem pi_or {X : Cx} {tg it : Expr} {w1 w2 : TI} (h1 : PI X tg it w1) (h2 : PI X tg it w2) : PI X tg it (fun σ H R => w1 σ H R ∨ w2 σ H R) :=
  ⟨fun pins s σ H R Iv h => h.elim (h1.run pins s σ H R Iv) (h2.run pins s σ H R Iv)⟩

/-! ### enumerate(v), one argument, any v -/
set_option maxHeartbeats 1000000 in
theorem meets_enum1 {v : Value} {o : Obj} {G : Heap → Prop} (B : Begins v o G) :
    Meets (Builtin.«enumerate.__new__» ⟨[.type "enumerate", v], []⟩) (fun _ R s => G s.heap ∧
      R (.ok (.ret (.ref (s.heap.push o).objs.size))) { s with heap := (s.heap.push o).push { cls := .type "enumerate", data := .fields #[.none, .bool false, .ref s.heap.objs.size, rawInt 0, .none, .none] } }) :=
  .of_wp fun prog w A R s h => by
    obtain ⟨hp, gn, dr, tk, os⟩ := s
    obtain ⟨g1, h⟩ := h
    have hsub := sub_enumerate
    have go : ∀ {A' : Around} {E : Value → Shared → Prop} {Q : Value → Shared → Prop}, Q (.ref hp.objs.size) ⟨hp.push o, gn, dr, tk, os⟩ → wpAny (model prog w) A' (pyIter v) Q E ⟨hp, gn, dr, tk, os⟩ :=
      fun q => B.iter prog w _ _ ⟨hp, gn, dr, tk, os⟩ _ g1 q
    wp_walk using go
    refine wpAny_stack_any fun st => wpAny_pure ?_
    split
    · rename_i c _ _ _ _ _
      cases (c == Value.type "enumerate")
      all_goals
        wp_walk using go
        exact ⟨_, rfl, h⟩
    · wp_walk using go
      exact ⟨_, rfl, h⟩
theorem call_enum1 {prog : Program} {w : World} {A : Around} {E : Value → Shared → Prop} {s : Shared} {v : Value} {o : Obj} {G : Heap → Prop} {Q : Value → Shared → Prop} (B : Begins v o G) (g1 : G s.heap)
    (h : ∀ h', IsEnum h' (s.heap.objs.size + 1) s.heap.objs.size 0 .none → h'.get? s.heap.objs.size = some o → (∀ b u, s.heap.get? b = some u → h'.get? b = some u) → Q (.ref (s.heap.objs.size + 1)) { s with heap := h' }) :
    wpAny (model prog w) A (call (.type "enumerate") [v]) Q E s := by
  refine callType_new F.called_enumerate (by decide) (F.typeCall_enumerate_1 _) (F.newCall_enumerate_1 _) (fun obj => F.args_object_init_2 obj _) F.entry_enumerate_new (meets_enum1 B) ⟨g1, ?_⟩
  have hz : (s.heap.push o).objs.size = s.heap.objs.size + 1 := Heap.size_push ..
  show _ ∧ _
  rw [hz]
  have he : IsEnum ((s.heap.push o).push { cls := .type "enumerate", data := .fields #[.none, .bool false, .ref s.heap.objs.size, rawInt 0, .none, .none] }) (s.heap.objs.size + 1) s.heap.objs.size 0 .none := by
    have q := Heap.get?_push_size (s.heap.push o) (o := { cls := .type "enumerate", data := .fields #[.none, .bool false, .ref s.heap.objs.size, rawInt 0, .none, .none] }) rfl
    rw [hz] at q
    exact q
  exact ⟨⟨_, he, rfl⟩, h _ he (Heap.get?_push_of_some _ (Heap.get?_push_size _ B.free)) fun b u x => Heap.get?_push_of_some _ (Heap.get?_push_of_some _ x)⟩

/-! ### enumerate over a tuple -/
theorem turn_enumT {P : Program} {w : World} {K : PySem.W.Frag} {elts : List Expr} {kk : Nat} {tpos : Pos} {xs : List V} (a e it : Addr) :
    Turn P w K (.Tuple elts kk tpos) (ItP xs.length (fun H => SqT K H a xs) (fun i x y => x = .int (i : Nat) ∧ xs[i]? = some y)) [e, it] e
      (fun i h => (∃ old, IsEnum h e it (0 + (i : Int)) old) ∧ h.IsTupleIter it a i ∧ e ≠ it) := by
  refine turnP (by simp) (fun i h st b hb => ?_) (fun i h h' st k => ?_) (fun X hP hw hK hc i pins s σ H Iv hq st => ?_) (fun A i s Q E st q => ?_)
  · obtain ⟨⟨old, he⟩, ⟨o, ho, hc, hd⟩, _⟩ := st
    have z : b = e ∨ b = it := by simpa using hb
    rcases z with z | z
    · rw [z]; exact ⟨_, he, fun v q => nomatch q⟩
    · rw [z]; exact ⟨o, ho, fun v q => by rw [hd] at q; cases q⟩
  · obtain ⟨⟨old, he⟩, hi, hne⟩ := st
    exact ⟨⟨old, k e (by simp) _ he⟩, hi.at fun o q => k it (by simp) o q, hne⟩
  · subst hP hw hK
    obtain ⟨⟨old, he⟩, hit, hne⟩ := st
    obtain ⟨its, rv, p, hz⟩ := Iv.tuple hq
    have pT : s.heap.IsTuple a its.toArray := p
    have hlen := rv.length
    have n1 : a ≠ it := fun z => by
      obtain ⟨o, ho, hcl, _⟩ := hit
      obtain ⟨o', ho', hcl', _⟩ := pT
      rw [z, ho] at ho'
      cases ho'
      rw [hcl] at hcl'
      exact absurd (Value.type.inj hcl') (by decide)
    have n2 : e ≠ a := fun z => by
      obtain ⟨o', ho', hcl', _⟩ := pT
      have he' : s.heap.get? e = some _ := he
      rw [z, ho'] at he'
      cases he'
      exact absurd (Value.type.inj hcl') (by decide)
    have D : Draws X.prog X.w X.A.in1 it [it, a] its.toArray.size (fun i v => its.toArray[i]? = some v) (fun i h => h.IsTupleIter it a i ∧ h.IsTuple a its.toArray) := Draws.tuple (A := X.A.in1) (show X.A.in1.handled = none from Iv.ok.hd hc) it a n1 its.toArray
    have W := GoesN.enumFrom (elts := elts) (x1 := kk) (pos := tpos) 0 D e hne (fun z => by
      rcases List.mem_cons.mp z with q | q
      · exact hne q
      · exact n2 (List.mem_singleton.mp q)) (by simp)
    have en : its.toArray.size = xs.length := by rw [List.size_toArray]; exact hlen.symm
    rw [en] at W
    refine ⟨_, _, _, _, W, fun b hb => hb, fun j q => ?_, fun j h q => ?_, fun j ha v hb q => ?_⟩
    · exact ⟨q.1, q.2.1, pT⟩
    · exact ⟨q.1, q.2.1, hne⟩
    · obtain ⟨T, t, u, ev, hT, hu, htup⟩ := q
      have hl : j < xs.length := by
        have z := (Array.getElem?_eq_some_iff.mp hu).1
        rw [en] at z
        exact z
      obtain ⟨u', hu', ru⟩ := rv.get (x := xs[j]) (i := j) (by simp [hl])
      have eu : u' = u := by
        have z : its.toArray[j]? = some u' := by simpa using hu'
        rw [z] at hu
        exact Option.some.inj hu
      subst eu
      refine ⟨T, .int (j : Nat), xs[j], .int (0 + (j : Int)) t, u', ev, hT, ⟨t, ?_⟩, ru, ⟨rfl, by simp [hl]⟩, htup⟩
      rw [Int.zero_add]
  · obtain ⟨⟨old, he⟩, _⟩ := st
    exact wpAny_pyIter_enum he q
/-- for i, x in enumerate(t), t a tuple -/
def iEnumT (K : PySem.W.Frag) (ta : TA) : TI := fun σ H R => ta σ H fun vs H1 => ∃ a xs, vs = [.ref a] ∧ SqT K H1 a xs ∧ R (ItP xs.length (fun H => SqT K H a xs) (fun i x y => x = .int (i : Nat) ∧ xs[i]? = some y)) H1
theorem pi_enumT {X : Cx} {e : Expr} {ta : TA} {p pos tpos : Pos} {elts : List Expr} {kk : Nat} (hg : Gl X "enumerate") (hm : X.mg "enumerate" = none) (ha : PA X [e] ta)
    (hs : starEach [e] X.env = [(false, eval e X.env)] := by rfl) : PI X (.Tuple elts kk tpos) (.Call (.Name "enumerate" p) [e] [] pos) (iEnumT X.K ta) := by
  refine ⟨fun pins s σ H R Iv h => ?_⟩
  refine Call_ (ld_blt Iv hg hm boot_enumerate (PyProof.Rows.callWith_type1 (thn (ha.run pos pins s σ H _ Iv h) fun us s1 ⟨vs, H1, I1, r1, q1⟩ => ?_) hs rfl))
  obtain ⟨a, xs, ex, hq, q⟩ := q1
  subst ex
  obtain ⟨u, rfl, ru⟩ := vals1 r1
  obtain rfl : u = Value.ref a := ru
  obtain ⟨its, rv, p', hz⟩ := I1.tuple hq
  have pT : s1.heap.IsTuple a its.toArray := p'
  refine call_enum1 (begins_tuple a its.toArray) pT fun h' he hit hk => wpAny_pyIter_enum he ?_
  have I2 : Inv X pins σ H1 { s1 with heap := h' } := I1.kept (t' := s1.toks) hk
  refine ⟨s1.heap.objs.size + 1, [s1.heap.objs.size + 1, s1.heap.objs.size], _, _, H1, rfl, I2, turn_enumT a (s1.heap.objs.size + 1) s1.heap.objs.size, ⟨⟨.none, he⟩, ⟨_, hit, rfl, rfl⟩, Nat.succ_ne_self _⟩, fun b hb => ?_, q⟩
  have z : b = s1.heap.objs.size + 1 ∨ b = s1.heap.objs.size := by simpa using hb
  have hle : s1.heap.objs.size ≤ b := by
    rcases z with z | z <;> rw [z]
    · exact Nat.le_add_right _ _
    · exact Nat.le_refl _
  exact I1.fpOk hle (I1.hok.fresh hle)

/-! ### enumerate over a text -/
/-- the text of one sign -/
abbrev sgn (c : Nat) : Str := ⟨#[c]⟩
theorem turn_enumS {P : Program} {w : World} {K : PySem.W.Frag} {elts : List Expr} {kk : Nat} {tpos : Pos} (z : Str) (t : Tok) (e it : Addr) :
    Turn P w K (.Tuple elts kk tpos) (ItP z.cps.size (fun _ => True) (fun i x y => x = .int (i : Nat) ∧ ∃ c, z.cps[i]? = some c ∧ y = .str (sgn c))) [e, it] e
      (fun i h => (∃ old, IsEnum h e it (0 + (i : Int)) old) ∧ h.IsStrIter it (strIterType z) z t i ∧ e ≠ it) := by
  refine turnP (by simp) (fun i h st b hb => ?_) (fun i h h' st k => ?_) (fun X hP hw hK hc i pins s σ H Iv hq st => ?_) (fun A i s Q E st q => ?_)
  · obtain ⟨⟨old, he⟩, ⟨o, ho, hc, hd⟩, _⟩ := st
    have y : b = e ∨ b = it := by simpa using hb
    rcases y with y | y
    · rw [y]; exact ⟨_, he, fun v q => nomatch q⟩
    · rw [y]; exact ⟨o, ho, fun v q => by rw [hd] at q; cases q⟩
  · obtain ⟨⟨old, he⟩, ⟨o, ho, r⟩, hne⟩ := st
    exact ⟨⟨old, k e (by simp) _ he⟩, ⟨o, k it (by simp) o ho, r⟩, hne⟩
  · subst hP hw hK
    obtain ⟨⟨old, he⟩, hit, hne⟩ := st
    have D := Draws.text (prog := X.prog) (w := X.w) (A := X.A.in1) (Iv.ok.hd hc) it z t
    have W := GoesN.enumFrom (elts := elts) (x1 := kk) (pos := tpos) 0 D e hne (fun y => hne (List.mem_singleton.mp y)) (by simp)
    refine ⟨_, _, _, _, W, fun b hb => hb, fun j q => ⟨q.1, q.2.1⟩, fun j h q => ⟨q.1, q.2, hne⟩, fun j ha v hb q => ?_⟩
    obtain ⟨T, tk, u, ev, hT, ⟨c, tc, hc', rfl⟩, htup⟩ := q
    refine ⟨T, .int (j : Nat), .str (sgn c), .int (0 + (j : Int)) tk, .str ⟨#[c]⟩ tc, ev, hT, ⟨tk, ?_⟩, ⟨tc, rfl⟩, ⟨rfl, c, hc', rfl⟩, htup⟩
    rw [Int.zero_add]
  · obtain ⟨⟨old, he⟩, _⟩ := st
    exact wpAny_pyIter_enum he q
def iEnumS (ta : TA) : TI := fun σ H R => ta σ H fun vs H1 => ∃ z : Str, vs = [.str z] ∧ R (ItP z.cps.size (fun _ => True) (fun i x y => x = .int (i : Nat) ∧ ∃ c, z.cps[i]? = some c ∧ y = .str (sgn c))) H1
theorem pi_enumS {X : Cx} {e : Expr} {ta : TA} {p pos tpos : Pos} {elts : List Expr} {kk : Nat} (hg : Gl X "enumerate") (hm : X.mg "enumerate" = none) (ha : PA X [e] ta)
    (hs : starEach [e] X.env = [(false, eval e X.env)] := by rfl) : PI X (.Tuple elts kk tpos) (.Call (.Name "enumerate" p) [e] [] pos) (iEnumS ta) := by
  refine ⟨fun pins s σ H R Iv h => ?_⟩
  refine Call_ (ld_blt Iv hg hm boot_enumerate (PyProof.Rows.callWith_type1 (thn (ha.run pos pins s σ H _ Iv h) fun us s1 ⟨vs, H1, I1, r1, q1⟩ => ?_) hs rfl))
  obtain ⟨z, ex, q⟩ := q1
  subst ex
  obtain ⟨u, rfl, ru⟩ := vals1 r1
  obtain ⟨t, rfl⟩ := ru
  refine call_enum1 (begins_text z t) True.intro fun h' he hit hk => wpAny_pyIter_enum he ?_
  have I2 : Inv X pins σ H1 { s1 with heap := h' } := I1.kept (t' := s1.toks) hk
  refine ⟨s1.heap.objs.size + 1, [s1.heap.objs.size + 1, s1.heap.objs.size], _, _, H1, rfl, I2, turn_enumS z t (s1.heap.objs.size + 1) s1.heap.objs.size, ⟨⟨.none, he⟩, ⟨_, hit, rfl, rfl⟩, Nat.succ_ne_self _⟩, fun b hb => ?_, q⟩
  have y : b = s1.heap.objs.size + 1 ∨ b = s1.heap.objs.size := by simpa using hb
  have hle : s1.heap.objs.size ≤ b := by
    rcases y with y | y <;> rw [y]
    · exact Nat.le_add_right _ _
    · exact Nat.le_refl _
  exact I1.fpOk hle (I1.hok.fresh hle)

/-! ### zip of two texts -/
def zipY (y z : Str) : Nat → V → V → Prop := fun i u v => ∃ c d, y.cps[i]? = some c ∧ z.cps[i]? = some d ∧ u = .str (sgn c) ∧ v = .str (sgn d)
theorem turn_zipS {P : Program} {w : World} {K : PySem.W.Frag} {elts : List Expr} {kk : Nat} {tpos : Pos} (y z : Str) (t1 t2 : Tok) (N : Nat) :
    Turn P w K (.Tuple elts kk tpos) (ItP (min y.cps.size z.cps.size) (fun _ => True) (zipY y z)) [N + 4, N + 2, N + 3, N, N + 1] (N + 4)
      (fun i h => IsZip h (N + 4) (N + 2) (N + 3) .none ∧ IsTupOf2 h (N + 2) (.ref N) (.ref (N + 1)) ∧ (∃ a1 a2, IsTupOf2 h (N + 3) a1 a2) ∧ h.IsStrIter N (strIterType y) y t1 i ∧ h.IsStrIter (N + 1) (strIterType z) z t2 i) := by
  refine turnP (by simp) (fun i h st b hb => ?_) (fun i h h' st k => ?_) (fun X hP hw hK hc i pins s σ H Iv hq st => ?_) (fun A i s Q E st q => wpAny_pyIter_zip st.1 q)
  · obtain ⟨hz, hTI, ⟨a1, a2, hTO⟩, ⟨o1, e1, _, d1⟩, ⟨o2, e2, _, d2⟩⟩ := st
    have m : b = N + 4 ∨ b = N + 2 ∨ b = N + 3 ∨ b = N ∨ b = N + 1 := by simpa using hb
    rcases m with m | m | m | m | m <;> rw [m]
    · exact ⟨_, hz, fun v q => nomatch q⟩
    · exact ⟨_, hTI, fun v q => nomatch q⟩
    · exact ⟨_, hTO, fun v q => nomatch q⟩
    · exact ⟨o1, e1, fun v q => by rw [d1] at q; cases q⟩
    · exact ⟨o2, e2, fun v q => by rw [d2] at q; cases q⟩
  · obtain ⟨hz, hTI, ⟨a1, a2, hTO⟩, ⟨o1, e1, r1⟩, ⟨o2, e2, r2⟩⟩ := st
    exact ⟨k _ (by simp) _ hz, k _ (by simp) _ hTI, ⟨a1, a2, k _ (by simp) _ hTO⟩, ⟨o1, k _ (by simp) _ e1, r1⟩, ⟨o2, k _ (by simp) _ e2, r2⟩⟩
  · subst hP hw hK
    have D1 := Draws.text (prog := X.prog) (w := X.w) (A := X.A.in1) (Iv.ok.hd hc) N y t1
    have D2 := Draws.text (prog := X.prog) (w := X.w) (A := X.A.in1) (Iv.ok.hd hc) (N + 1) z t2
    have S : ZipSep2 (N + 4) (N + 2) (N + 3) N (N + 1) [N] [N + 1] := zip_sep2 (fp1 := []) (fp2 := []) (fun b hb => nomatch hb) (fun b hb => nomatch hb)
    have W := GoesN.zip2 (elts := elts) (x1 := kk) (pos := tpos) S D1 D2
    refine ⟨_, _, _, _, W, fun b hb => ?_, fun j q => q, fun j h q => q, fun j ha v hb q => ?_⟩
    · have m : b = N + 4 ∨ b = N + 3 ∨ b = N ∨ b = N + 1 := by simpa using hb
      rcases m with m | m | m | m <;> simp [m]
    · obtain ⟨T, u, u', ev, hT, ⟨c, tc, hc1, rfl⟩, ⟨d, td, hd1, rfl⟩, htup⟩ := q
      exact ⟨T, .str (sgn c), .str (sgn d), .str ⟨#[c]⟩ tc, .str ⟨#[d]⟩ td, ev, hT, ⟨tc, rfl⟩, ⟨td, rfl⟩, ⟨c, d, hc1, hd1, rfl, rfl⟩, htup⟩
def iZipS (ta : TA) : TI := fun σ H R => ta σ H fun vs H1 => ∃ y z : Str, vs = [.str y, .str z] ∧ R (ItP (min y.cps.size z.cps.size) (fun _ => True) (zipY y z)) H1
theorem pi_zipS {X : Cx} {e e2 : Expr} {ta : TA} {p pos tpos : Pos} {elts : List Expr} {kk : Nat} (hg : Gl X "zip") (hm : X.mg "zip" = none) (ha : PA X [e, e2] ta)
    (hs : starEach [e, e2] X.env = (false, eval e X.env) :: starEach [e2] X.env := by rfl) (hpl : (backTo pos (starEach [e2] X.env)).any (·.1) = false := by rfl) :
    PI X (.Tuple elts kk tpos) (.Call (.Name "zip" p) [e, e2] [] pos) (iZipS ta) := by
  refine ⟨fun pins s σ H R Iv h => ?_⟩
  refine Call_ (ld_blt Iv hg hm PyProof.Rows.boot_zip (PyProof.Rows.callWith_type1 (thn (ha.run pos pins s σ H _ Iv h) fun us s1 ⟨vs, H1, I1, r1, q1⟩ => ?_) hs hpl))
  obtain ⟨y, z, ex, q⟩ := q1
  subst ex
  obtain ⟨u1, u2, rfl, ru1, ru2⟩ := vals2 r1
  obtain ⟨t1, rfl⟩ := ru1
  obtain ⟨t2, rfl⟩ := ru2
  refine zip_begins2 (begins_text y t1) (begins_text z t2) True.intro True.intro fun h' hz hTI hTO h1 h2 _ hk => wpAny_pyIter_zip hz ?_
  have I2 : Inv X pins σ H1 { s1 with heap := h' } := I1.kept (t' := s1.toks) hk
  refine ⟨s1.heap.objs.size + 4, [s1.heap.objs.size + 4, s1.heap.objs.size + 2, s1.heap.objs.size + 3, s1.heap.objs.size, s1.heap.objs.size + 1], _, _, H1, rfl, I2, turn_zipS y z t1 t2 s1.heap.objs.size,
    ⟨hz, hTI, ⟨_, _, hTO⟩, ⟨_, h1, rfl, rfl⟩, ⟨_, h2, rfl, rfl⟩⟩, fun b hb => ?_, q⟩
  have m : b = s1.heap.objs.size + 4 ∨ b = s1.heap.objs.size + 2 ∨ b = s1.heap.objs.size + 3 ∨ b = s1.heap.objs.size ∨ b = s1.heap.objs.size + 1 := by simpa using hb
  have hle : s1.heap.objs.size ≤ b := by
    rcases m with m | m | m | m | m <;> rw [m] <;> first | exact Nat.le_refl _ | exact Nat.le_add_right _ _
  exact I1.fpOk hle (I1.hok.fresh hle)

/-! ### a text's slice with a step -/
def stepS (z : Str) (lo hi : Option Int) (k : Int) : Str := ⟨((Builtin.Str.strSliceIndices lo hi k z.length).filterMap (z.cps[·]?)).toArray⟩
def tStepS (te : TE) (tl th ts : TO) : TE := fun σ H Q => te σ H fun x H1 => tl σ H1 fun l H2 => th σ H2 fun u H3 => ts σ H3 fun st H4 =>
  ∃ (z : Str) (k : Int), x = .str z ∧ st = some k ∧ k ≠ 0 ∧ k ≠ 1 ∧ (stepS z l u k).length ≤ sizeLine ∧ Q (.str (stepS z l u k)) H4
theorem pe_stepS {X : Cx} {e st : Expr} {lo hi : Option Expr} {te : TE} {tl th ts : TO} {p2 pos : Pos} (he : PE X e te) (hl : PO X lo tl) (hu : PO X hi th) (hst : PO X (some st) ts) :
    PE X (.Subscript e (.Slice lo hi (some st) p2) pos) (tStepS te tl th ts) := by
  refine ⟨fun pins s σ H Q Iv h => ?_⟩
  refine Subscript_ (thn (he.run pins s σ H _ Iv h) fun v s1 ⟨x, H1, I1, r1, q1⟩ => ?_)
  refine wpAny_Slice (thn (hl.run pins s1 σ H1 _ I1 q1) fun vl s2 ⟨l, H2, I2, pl, q2⟩ => thn (hu.run pins s2 σ H2 _ I2 q2) fun vu s3 ⟨u, H3, I3, pu, q3⟩ =>
    thn (hst.run pins s3 σ H3 _ I3 q3) fun vs s4 ⟨o, H4, I4, ps, z, k, ex, eo, k0, k1, hsz, q⟩ => ?_)
  subst ex eo
  obtain ⟨t, rfl⟩ := r1
  obtain ⟨l', rfl, rfl⟩ := IsPart.raw pl
  obtain ⟨u', rfl, rfl⟩ := IsPart.raw pu
  cases ps with
  | int _ tk =>
    have I5 : Inv X pins σ H4 { s4 with heap := s4.heap.push { cls := .type "slice", data := .fields #[partValue l', partValue u', .int k tk] } } := I4.kept (t' := s4.toks) fun b ob q => Heap.get?_push_of_some _ q
    show wpAny (model X.prog X.w) X.A (subscriptTail e (.Slice lo hi (some st) p2) (.str z t) (.ref s4.heap.objs.size)) (EP X pins σ Q) X.xe { s4 with heap := s4.heap.push { cls := .type "slice", data := .fields #[partValue l', partValue u', .int k tk] } }
    refine tail_any (ops := [.str z t, .ref s4.heap.objs.size]) (typeIs_str _ _ _) F.slot_str_getitem.lookup ?_ (by with_unfolding_all rfl)
    have hk0 : (((some (k, tk) : Option (Int × Tok)).map (·.1)).getD 1 == 0) = false := by
      show (k == 0) = false
      simpa using k0
    refine wpAny_getItem_str_slice (l := l') (u := u') (st := some (k, tk)) ⟨_, Heap.get?_push_size _ rfl, rfl, rfl⟩ hk0 ?_
    have hk1 : (k == 1) = false := by simpa using k1
    show Made.post (if ((k : Int) == 1 && (Builtin.Str.strSliceIndices (l'.map (·.1)) (u'.map (·.1)) k z.length).length == z.length) = true then Made.val (.str z t)
      else Made.str ⟨((Builtin.Str.strSliceIndices (l'.map (·.1)) (u'.map (·.1)) k z.length).filterMap (z.cps[·]?)).toArray⟩) (EP X pins σ Q) _
    rw [hk1, Bool.false_and, if_neg Bool.false_ne_true]
    exact ⟨hsz, .str _, H4, I5.tok _, ⟨_, rfl⟩, q⟩
end G58

set_option Elab.async false
set_option linter.all false
set_option maxRecDepth 100000
set_option maxHeartbeats 4000000
/-! A try with several clauses, with or without a name. -/
namespace G58
open PySem PySem.Spec PyProof.Rows L2
/-- a clause: its class, the slot of its name if it has one, what its suite reads as -/
structure Clause where
  cls : Value
  slot : Option Nat
  ts : Addr → Value → Option Addr → TS
/-- behind a suite its name is gone -/
def unset (i : Nat) (D : Ends) : Ends :=
  ⟨fun s' H' => D.nx (s'.set i none) H', D.rt, fun s' H' => D.bk (s'.set i none) H', fun s' H' => D.ct (s'.set i none) H'⟩
def Clause.does (cl : Clause) (D : Ends) (a : Addr) (k : Value) (d : Option Addr) (st : L2.St) (H : Hp) : Prop :=
  match cl.slot with
  | none => cl.ts a k d D st H
  | some i => i < st.length → cl.ts a k d (unset i D) (st.set i (some (.ref a))) H
/-- what the clauses wish, from the first on -/
def wMix (K : PySem.W.Frag) (Wout : WX) (D : Ends) : List Clause → WX
  | [] => Wout
  | cl :: r => fun k d st H => ∃ b, PySem.W.exmOne K k cl.cls = some b ∧ (b = true → ∀ a, H a = none → cl.does D a k d st H) ∧ (b = false → wMix K Wout D r k d st H)
/-- the suite of a clause -/
def SuiteOk (X : Cx) (body : List Stmt) (ts : Addr → Value → Option Addr → TS) : Prop :=
  ∀ (a : Addr) (oe : Obj) (k : Value) (d : Option Addr) (pn : List (Addr × Obj)), Zc k d oe → (∃ vs, oe.data = .fields vs) → PSs (X.suite a ((a, oe) :: pn)) body (ts a k d)
inductive MixOk (X : Cx) : List ExceptHandler → List Clause → Prop
  | nil : MixOk X [] []
  | bare {x : Str} {c : Value} {ts : Addr → Value → Option Addr → TS} {b0 : Stmt} {suite : List Stmt} {np hp : Pos} {hds : List ExceptHandler} {l : List Clause}
      (hc : Names X x c) (hsu : SuiteOk X (b0 :: suite) ts) (r : MixOk X hds l) : MixOk X (.ExceptHandler (some (.Name x np)) none (b0 :: suite) hp :: hds) (⟨c, none, ts⟩ :: l)
  | named {x n : Str} {i : Nat} {c : Value} {ts : Addr → Value → Option Addr → TS} {b0 : Stmt} {suite : List Stmt} {np hp : Pos} {hds : List ExceptHandler} {l : List Clause}
      (hN : X.N.Nodup) (hi : X.N[i]? = some n) (hln : X.env.kindOf n = some .local)
      (hc : Names X x c) (hsu : SuiteOk X (b0 :: suite) ts) (r : MixOk X hds l) : MixOk X (.ExceptHandler (some (.Name x np)) (some n) (b0 :: suite) hp :: hds) (⟨c, some i, ts⟩ :: l)
section
variable {X : Cx} {body : List Stmt} {h0 : ExceptHandler} {hds : List ExceptHandler} {l : List Clause} {pos : Pos} {tb : WX → TS} {Wout : WX}
theorem name_in_suite {a : Addr} {oe : Obj} {pins : List (Addr × Obj)} {st : L2.St} {H : Hp} {s : Shared} {x : Str} {c : Value} {np : Pos} (S : Inv (X.suite a ((a, oe) :: (X.pn ++ pins))) [] st H s) (hc : Names X x c)
    {Q : Value → Shared → Prop} {E : Value → Shared → Prop} (q : Q c s) : wpAny (model X.prog X.w) (X.A.mark (some (.ref a))) (eval (.Name x np) X.env) Q E s := by
  obtain ⟨hg, hdb, hm | ⟨hm, hv, hnn⟩⟩ := hc
  · exact ld_glob (X := X.suite a ((a, oe) :: (X.pn ++ pins))) S hg hm q hdb
  · exact ld_blt (X := X.suite a ((a, oe) :: (X.pn ++ pins))) S hg hm hv q hnn hdb
theorem ps_try_mix (hs : X.stack = X.env :: X.outer) (hf : X.env.frame = some X.env.locals) (tk : Takes X Wout)
    (hb : ∀ (W : WX) (pn : List (Addr × Obj)) (xe : Value → Shared → Prop), Takes (X.tr pn xe) W → PassesOwn (model X.prog X.w) X.A X.env xe → PSs (X.tr pn xe) body (tb W))
    (hh : MixOk X (h0 :: hds) l) : PS X (.Try body (h0 :: hds) [] [] pos) (fun D st H => tb (wMix X.K Wout D l) D st H) := by
  refine ⟨fun pins s st H D Iv h => ?_⟩
  have ok := Iv.ok
  have hfr : X.A.frames = some (X.env :: X.outer) := ok.frames.trans (congrArg some hs)
  refine wpAny_Try_except ?_
  let catcher : Value → Shared → Prop := fun e s1 => wpAny (model X.prog X.w) X.A (noteFrame e X.env) (fun _ s2 => wpAny (model X.prog X.w) X.A (setFlight e none)
    (fun _ s3 => wpAny (model X.prog X.w) X.A (handleBy e X.env (h0 :: hds)) (SP X pins D) X.xe s3) X.xe s2) X.xe s1
  have takes : Takes (X.tr (X.pn ++ pins) catcher) (wMix X.K Wout D l) := by
    intro u s' xx
    obtain ⟨a, B, sI, pins', st', H', k, d, rfl, J', nb, up, sky, na, os, ag, w⟩ := xx
    have J : Inv X pins st' H' sI := J'.ofTry ok
    have sky' : Sky B (X.env :: X.outer) a (Zc k d) X.env.locals s'.heap := by
      have z : Sky B X.stack a (Zc k d) X.env.locals s'.heap := sky
      rw [hs] at z
      exact z
    refine Sky.land Zc.steady hfr hf sky' fun h3 fl3 up3 => ?_
    have J3 : Inv X pins st' H' { s' with heap := h3 } := J.landed nb fl3.1 (up.trans up3) os ag
    obtain ⟨oe3, vs3, he3, hz3, hd3⟩ := fl3.there
    have apart : a ∉ frs (X.env :: X.outer) := fun hm => by
      obtain ⟨_, o', e', hnf⟩ := fl3.2.2.1.mem hm
      rw [he3] at e'
      cases e'
      exact hnf _ hd3
    have nL : a ≠ X.env.locals := fun z => apart (List.mem_filterMap.mpr ⟨X.env, List.mem_cons_self, by rw [hf, z]⟩)
    have nF : a ∉ X.fs := fun hm => by
      obtain ⟨e, he, q⟩ := List.mem_filterMap.mp hm
      exact apart (List.mem_filterMap.mpr ⟨e, List.mem_cons_of_mem _ he, q⟩)
    have S3 := J3.suite he3 hd3 na nL nF
    have ofType : PySem.W.Looks (model X.prog X.w) h3 (typeOf (.ref a)) k := fun A Q E s kk q => wpAny_typeOf_ref (kk _ _ he3) (by rw [hz3.1]; exact q)
    have go : ∀ {hds' : List ExceptHandler} {l' : List Clause}, MixOk X hds' l' → wMix X.K Wout D l' k d st' H' →
        wpAny (model X.prog X.w) X.A (handleBy (.ref a) X.env hds') (SP X pins D) X.xe { s' with heap := h3 } := by
      intro hds' l' hk
      induction hk with
      | nil =>
        intro w
        refine wpAny_handleBy_nil ?_
        obtain ⟨k1, k2, k3, oe, vs, T, oT, ts', he, hz, hd, hv1, hr⟩ := id fl3
        unfold PySem.passOn
        refine wpAny_bind (wpAny_field he hd hv1 ?_)
        rw [if_neg (show ¬ ((Value.ref T == Value.none) = true) from by simp)]
        have fin : wpAny (model X.prog X.w) X.A (setFlight (.ref a) X.env.frame) (fun _ s4 => wpAny (model X.prog X.w) X.A (throw (.ref a) : Sem Flow) (SP X pins D) X.xe s4) X.xe { s' with heap := h3 } := by
          rw [hf]
          refine HandSPX.setFlight_upZ fl3 fun h4 hh4 up4 => wpAny_throw (tk _ _ ?_)
          exact ⟨a, B, sI, pins, st', H', k, d, rfl, J, nb, (up.trans up3).trans up4, .inr (.inr (by rw [hs]; exact hh4)), na, os, ag, w⟩
        first
          | exact wpAny_bind (wpAny_pure (wpAny_bind fin))
          | exact wpAny_bind fin
      | bare hc hsu r ih =>
        intro w
        obtain ⟨b, hb1, hyes, hno⟩ := w
        refine wpAny_handleBy_cons (codeAny_handlers_test ?_) (by intro q; cases q)
        refine name_in_suite S3 hc ((PySem.W.exm_one (M := model X.prog X.w) J3.kIn ofType hb1).here ?_)
        cases b with
        | true =>
          refine codeAny_handlers_suite ?_
          refine HandSPX.lands_againZ fl3 fun h4 fl4 up4 => ?_
          have J4 : Inv X pins st' H' { s' with heap := h4 } := J.landed nb fl4.1 ((up.trans up3).trans up4) os ag
          obtain ⟨oe4, vs4, he4, hz4, hd4⟩ := fl4.there
          have S4 := J4.suite he4 hd4 na nL nF
          refine wpAny_mono ((hsu a oe4 k d (X.pn ++ pins) hz4 ⟨_, hd4⟩).run [] _ _ H' _ S4 (hyes rfl a na)) (fun f s6 hsp => ?_) (fun _ _ z => False.elim z)
          cases f with
          | ret u =>
            obtain ⟨v6, t6, H6, S6, r6, q6⟩ := hsp
            exact ⟨_, _, _, S6.unsuite ok, r6, q6⟩
          | _ =>
            obtain ⟨t6, H6, S6, q6⟩ := hsp
            exact ⟨_, _, S6.unsuite ok, q6⟩
        | false => exact ih (hno rfl)
      | named hN hi hln hc hsu r ih =>
        intro w
        obtain ⟨b, hb1, hyes, hno⟩ := w
        refine wpAny_handleBy_cons (codeAny_handlers_test ?_) (by intro q; cases q)
        refine name_in_suite S3 hc ((PySem.W.exm_one (M := model X.prog X.w) J3.kIn ofType hb1).here ?_)
        cases b with
        | true =>
          refine codeAny_handlers_suite_as ?_
          refine HandSPX.lands_againZ fl3 fun h4 fl4 up4 => ?_
          have J4 : Inv X pins st' H' { s' with heap := h4 } := J.landed nb fl4.1 ((up.trans up3).trans up4) os ag
          obtain ⟨oe4, vs4, he4, hz4, hd4⟩ := fl4.there
          have S4 := J4.suite he4 hd4 na nL nF
          refine store_ok (X := X.suite a ((a, oe4) :: (X.pn ++ pins))) (v := .ref a) S4 hN hi (.inl hln) rfl (fun s5 S5 => ?_) (.inr hln)
          refine wpAny_mono ((hsu a oe4 k d (X.pn ++ pins) hz4 ⟨_, hd4⟩).run [] s5 _ H' _ S5 (hyes rfl a na (by rw [J.len]; exact (List.getElem?_eq_some_iff.mp hi).1))) (fun f s6 hsp => ?_) (fun _ _ z => False.elim z)
          cases f with
          | ret u =>
            obtain ⟨v6, t6, H6, S6, r6, q6⟩ := hsp
            exact gone_ok (S6.unsuite ok) hN hi hln fun s7 J7 => ⟨_, _, _, J7, r6, q6⟩
          | _ =>
            obtain ⟨t6, H6, S6, q6⟩ := hsp
            exact gone_ok (S6.unsuite ok) hN hi hln fun s7 J7 => ⟨_, _, J7, q6⟩
        | false => exact ih (hno rfl)
    exact go hh w
  refine wpAny_mono ((hb (wMix X.K Wout D l) (X.pn ++ pins) catcher takes PassesOwn.looking).run [] s st H D (Iv.toTry _) h) (fun f s1 hsp => ?_) (fun e s1 he => he)
  cases f with
  | next =>
    obtain ⟨t1, H1, J1, q⟩ := hsp
    exact wpAny_execs_nil ⟨t1, H1, J1.ofTry ok, q⟩
  | ret u =>
    obtain ⟨v, t1, H1, J1, r, q⟩ := hsp
    exact ⟨v, t1, H1, J1.ofTry ok, r, q⟩
  | _ =>
    obtain ⟨t1, H1, J1, q⟩ := hsp
    exact ⟨t1, H1, J1.ofTry ok, q⟩
end
end G58

set_option Elab.async false
set_option linter.all false
set_option maxRecDepth 100000
set_option maxHeartbeats 4000000
/-! Dicts whose keys are nested tuples, over the hand layer. -/
namespace G58
open PySem PySem.Spec PyProof.Rows L2
mutual
/-- the value v is the key k -/
def NV (H : Hp) : NestedKey → V → Prop
  | .none, v => v = .non
  | .num i, v => v = .int i
  | .text x, v => v = .str x
  | .tup ks, v => ∃ p xs, v = .ref p ∧ H p = some (.tup xs) ∧ NVs H ks xs
def NVs (H : Hp) : List NestedKey → List V → Prop
  | [], xs => xs = []
  | k :: ks, xs => ∃ x r, xs = x :: r ∧ NV H k x ∧ NVs H ks r
end
mutual
theorem NV.go {H H' : Hp} (e : ∀ b xs, H b = some (.tup xs) → H' b = some (.tup xs)) : ∀ (k : NestedKey) (v : V), NV H k v → NV H' k v
  | .none, v, h => by
    unfold NV at h ⊢
    exact h
  | .num i, v, h => by
    unfold NV at h ⊢
    exact h
  | .text x, v, h => by
    unfold NV at h ⊢
    exact h
  | .tup ks, v, h => by
    unfold NV at h ⊢
    obtain ⟨p, xs, h1, h2, h3⟩ := h
    exact ⟨p, xs, h1, e _ _ h2, NVs.go e ks xs h3⟩
theorem NVs.go {H H' : Hp} (e : ∀ b xs, H b = some (.tup xs) → H' b = some (.tup xs)) : ∀ (ks : List NestedKey) (xs : List V), NVs H ks xs → NVs H' ks xs
  | [], xs, h => by
    unfold NVs at h ⊢
    exact h
  | k :: ks, xs, h => by
    unfold NVs at h ⊢
    obtain ⟨x, r, h1, h2, h3⟩ := h
    exact ⟨x, r, h1, NV.go e k x h2, NVs.go e ks r h3⟩
end
mutual
theorem nv_is {P : Program} {w : World} {H : Hp} {h : Heap} (ok : HOk P w H h) : ∀ (k : NestedKey) (v : V) (u : Value), NV H k v → RelV v u → NestedIs h k u
  | .none, v, u, n, r => by
    unfold NV at n
    subst n
    cases (show u = Value.none from r)
    exact .none
  | .num i, v, u, n, r => by
    unfold NV at n
    subst n
    obtain ⟨t, e⟩ := (show ∃ t, u = Value.int i t from r)
    subst e
    exact .int i t
  | .text x, v, u, n, r => by
    unfold NV at n
    subst n
    obtain ⟨t, e⟩ := (show ∃ t, u = Value.str x t from r)
    subst e
    exact .text x t
  | .tup ks, v, u, n, r => by
    unfold NV at n
    obtain ⟨p, xs, h1, h2, h3⟩ := n
    subst h1
    cases (show u = Value.ref p from r)
    obtain ⟨_, its, rr, o, e1, e2, m, e3⟩ := (show ObjOk P w H h p (.tup xs) from ok p _ h2)
    exact .tup e1 e2 e3 (by simpa using nvs_is ok ks xs its h3 rr)
theorem nvs_is {P : Program} {w : World} {H : Hp} {h : Heap} (ok : HOk P w H h) : ∀ (ks : List NestedKey) (xs : List V) (us : List Value), NVs H ks xs → Vals xs us → NestedAll h ks us
  | [], xs, us, n, r => by
    unfold NVs at n
    subst n
    cases r
    exact .nil
  | k :: ks, xs, us, n, r => by
    unfold NVs at n
    obtain ⟨x, t, h1, h2, h3⟩ := n
    subst h1
    cases r with
    | cons r1 r2 => exact .cons (nv_is ok k x _ h2 r1) (nvs_is ok ks t _ h3 r2)
end
abbrev NEnt := NestedKey × Addr × V
abbrev NT : List NEnt → List (NestedKey × Addr × Value) → Prop := Paired fun p q => p.1 = q.1 ∧ p.2.1 = q.2.1 ∧ RelV p.2.2 q.2.2
/-- a dict with such keys -/
def ND (P : Program) (w : World) (a : Addr) (kvs : List NEnt) : HO := .ext fun h => kvs.length ≤ sizeLine ∧ (a == sysModules) = false ∧ ∃ xs, NT kvs xs ∧
  ∃ o es ep, h.get? a = some o ∧ o.ExactDict ∧ o.data = .dict es ep ∧ es.toList = xs.map (entryOfKey (nestedKind P w)) ∧ (xs.map (·.1)).Nodup
/-- its keys stand -/
def KOk (H : Hp) (kvs : List NEnt) : Prop := ∀ x ∈ kvs, NV H x.1 (.ref x.2.1) ∧ x.1.depth ≤ 8
theorem KOk.go {H H' : Hp} {kvs : List NEnt} (e : ∀ b xs, H b = some (.tup xs) → H' b = some (.tup xs)) (h : KOk H kvs) : KOk H' kvs := fun x hx => ⟨NV.go e _ _ (h x hx).1, (h x hx).2⟩
def valN (kvs : List NEnt) (k : NestedKey) : Option V := (kvs.find? fun x => decide (x.1 = k)).map (·.2.2)
def putN (kvs : List NEnt) (k : NestedKey) (b : Addr) (v : V) : List NEnt := if (valN kvs k).isSome then kvs.map (fun x => if x.1 = k then (x.1, x.2.1, v) else x) else kvs ++ [(k, b, v)]
theorem NT.val {kvs : List NEnt} {xs : List (NestedKey × Addr × Value)} (r : NT kvs xs) (k : NestedKey) : RelO (valN kvs k) ((atKey xs k).map (·.2)) := by
  unfold NT at r
  induction r with
  | nil => exact True.intro
  | @cons p q ps qs h t ih =>
    obtain ⟨h1, _, h2⟩ := h
    by_cases e : p.1 = k
    · have e' : q.1 = k := h1.symm.trans e
      have a1 : atKey (q :: qs) k = some q.2 := by simp [atKey, List.find?_cons, e']
      have a2 : valN (p :: ps) k = some p.2.2 := by simp [valN, List.find?_cons, e]
      rw [a1, a2]
      exact h2
    · have e' : ¬ q.1 = k := fun z => e (h1.trans z)
      have a1 : atKey (q :: qs) k = atKey qs k := by simp [atKey, List.find?_cons, e']
      have a2 : valN (p :: ps) k = valN ps k := by simp [valN, List.find?_cons, e]
      rw [a1, a2]
      exact ih
theorem NT.repl {kvs : List NEnt} {xs : List (NestedKey × Addr × Value)} (r : NT kvs xs) (k : NestedKey) {y : V} {u : Value} (ry : RelV y u) :
    NT (kvs.map fun x => if x.1 = k then (x.1, x.2.1, y) else x) (xs.map (putAt k u)) := by
  unfold NT at r
  induction r with
  | nil => exact .nil
  | @cons p q ps qs h t ih =>
    rw [List.map_cons, List.map_cons]
    refine .cons ?_ ih
    obtain ⟨h1, h2, h3⟩ := h
    unfold putAt
    by_cases e : p.1 = k
    · rw [if_pos e, if_pos (h1.symm.trans e)]
      exact ⟨h1, h2, ry⟩
    · rw [if_neg e, if_neg (fun z => e (h1.trans z))]
      exact ⟨h1, h2, h3⟩
theorem NT.put {kvs : List NEnt} {xs : List (NestedKey × Addr × Value)} (r : NT kvs xs) (k : NestedKey) {b : Addr} {y : V} {u : Value} (ry : RelV y u) : NT (putN kvs k b y) (storedH xs k b u) := by
  have e : (valN kvs k).isSome = (atKey xs k).isSome := by rw [(r.val k).isSome_eq, Option.isSome_map]
  unfold putN storedH
  rw [e]
  by_cases q : (atKey xs k).isSome = true
  · rw [if_pos q, if_pos q]
    exact r.repl k ry
  · rw [if_neg q, if_neg q]
    exact Paired.snoc r ⟨rfl, rfl, ry⟩
theorem length_putN (kvs : List NEnt) (k : NestedKey) (b : Addr) (v : V) : (putN kvs k b v).length ≤ kvs.length + 1 := by
  unfold putN
  split
  · rw [List.length_map]
    omega
  · rw [List.length_append]
    exact Nat.le_refl _
theorem KOk.put {H : Hp} {kvs : List NEnt} {k : NestedKey} {b : Addr} {v : V} (h : KOk H kvs) (hk : NV H k (.ref b)) (hd : k.depth ≤ 8) : KOk H (putN kvs k b v) := by
  unfold putN
  split
  · intro x hx
    obtain ⟨y, hy, rfl⟩ := List.mem_map.mp hx
    by_cases e : y.1 = k
    · rw [if_pos e]
      exact h y hy
    · rw [if_neg e]
      exact h y hy
  · intro x hx
    rcases List.mem_append.mp hx with hx | hx
    · exact h x hx
    · rw [List.mem_singleton.mp hx]
      exact ⟨hk, hd⟩
section
variable {P : Program} {w : World} {H : Hp} {h : Heap} {a : Addr}
theorem nd_of {kvs : List NEnt} (ok : HOk P w H h) (e : H a = some (ND P w a kvs)) (kk : KOk H kvs) : kvs.length ≤ sizeLine ∧ (a == sysModules) = false ∧ ∃ xs, NT kvs xs ∧ h.DictOfH (nestedKind P w) a xs := by
  obtain ⟨⟨z, y, xs, r, o, es, ep, h1, h2, h3, h4, h5⟩, _, _⟩ := (show ObjOk P w H h a (ND P w a kvs) from ok a _ e)
  refine ⟨z, y, xs, r, o, es, ep, h1, h2, h3, h4, fun x hx => ?_, h5⟩
  have all : ∀ {l : List NEnt} {m : List (NestedKey × Addr × Value)}, NT l m → KOk H l → ∀ x ∈ m, (nestedKind P w).is h x.1 x.2.1 := by
    intro l m q
    unfold NT at q
    induction q with
    | nil =>
      intro _ x hx
      exact nomatch hx
    | @cons p q ps qs hq t ih =>
      intro kl x hx
      rcases List.mem_cons.mp hx with e | hx
      · subst e
        obtain ⟨k1, k2⟩ := kl p (List.mem_cons_self ..)
        rw [hq.1, hq.2.1] at k1
        rw [hq.1] at k2
        exact ⟨nv_is ok _ _ _ k1 rfl, k2⟩
      · exact ih (fun y hy => kl y (List.mem_cons_of_mem _ hy)) x hx
  exact all r kk x hx
theorem nd_new {H' : Hp} {h' : Heap} {kvs : List NEnt} {xs : List (NestedKey × Addr × Value)} (z : kvs.length ≤ sizeLine) (hd : (a == sysModules) = false) (rel : NT kvs xs) (dd : h'.DictOfH (nestedKind P w) a xs) : ObjOk P w H' h' a (ND P w a kvs) := by
  obtain ⟨o, es, ep, h1, h2, h3, h4, _, h5⟩ := dd
  refine ⟨⟨z, hd, xs, rel, o, es, ep, h1, h2, h3, h4, h5⟩, ⟨o, h1⟩, fun g1 g2 p hs => ?_⟩
  obtain ⟨z, y, xs, r, o, es, ep, h1, h2, h3, h4, h5⟩ := p
  exact ⟨z, y, xs, r, o, es, ep, hs _ h1, h2, h3, h4, h5⟩
end
/-- what the dict at a holds at the key y -/
def NGet (P : Program) (w : World) (H : Hp) (a : Addr) (y : V) (r : Option V) : Prop := ∃ kvs k b, H a = some (ND P w a kvs) ∧ KOk H kvs ∧ y = .ref b ∧ NV H k (.ref b) ∧ k.depth ≤ 8 ∧ r = valN kvs k
def NPut (P : Program) (w : World) (H : Hp) (a : Addr) (y v : V) (H' : Hp) : Prop := ∃ kvs k b, H a = some (ND P w a kvs) ∧ KOk H kvs ∧ y = .ref b ∧ NV H k (.ref b) ∧ k.depth ≤ 8 ∧ kvs.length < sizeLine ∧ H' = upd H a (ND P w a (putN kvs k b v))
section
variable {X : Cx} {pins : List (Addr × Obj)} {σ : L2.St} {H : Hp} {s : Shared} {a : Addr} {y v : V} {u r : Value} {o : Option V} {A : Around} {E : Value → Shared → Prop}
theorem nk_room (hu : A.units + 64 < cLine) : (nestedKind X.prog X.w).room A.in1 := by
  show A.units + 1 + 8 < cLine
  omega
theorem n_getItem {Q : Value → Shared → Prop} (hu : A.units + 64 < cLine) (Iv : Inv X pins σ H s) (g : NGet X.prog X.w H a y (some v)) (ry : RelV y u) (h : ∀ w' s', Inv X pins σ H s' → RelV v w' → Q w' s') :
    wpAny (model X.prog X.w) A (getItem (.ref a) u) Q E s := by
  obtain ⟨kvs, k, b, e, kk, ey, nk, dk, l⟩ := g
  subst ey
  cases (show u = Value.ref b from ry)
  obtain ⟨z, hd, xs, rel, dd⟩ := nd_of Iv.hok e kk
  obtain ⟨w', hw, rw'⟩ := RelO.some_of (v := v) (o := (atKey xs k).map (·.2)) (by rw [l]; exact rel.val k)
  obtain ⟨p, hp, hp2⟩ := Option.map_eq_some_iff.mp hw
  refine wpAny_getItem_heap (nk_room hu) ⟨nv_is Iv.hok _ _ _ nk rfl, dk⟩ dd hp ?_
  rw [hp2]
  exact h w' _ (Iv.tok _) rw'
theorem n_in {Q : Value → Shared → Prop} (hu : A.units + 64 < cLine) (Iv : Inv X pins σ H s) (g : NGet X.prog X.w H a y o) (ry : RelV y u) (h : ∀ s', Inv X pins σ H s' → Q (.bool o.isSome) s') :
    wpAny (model X.prog X.w) A (compareOp .In u (.ref a)) Q E s := by
  obtain ⟨kvs, k, b, e, kk, ey, nk, dk, l⟩ := g
  subst ey
  cases (show u = Value.ref b from ry)
  obtain ⟨z, hd, xs, rel, dd⟩ := nd_of Iv.hok e kk
  refine wpAny_in_heap (nk_room hu) ⟨nv_is Iv.hok _ _ _ nk rfl, dk⟩ hd dd ?_
  have q := (rel.val k).isSome_eq
  rw [Option.isSome_map] at q
  rw [← q, ← l]
  exact h _ (Iv.tok _)
theorem n_notIn {Q : Value → Shared → Prop} (hu : A.units + 64 < cLine) (Iv : Inv X pins σ H s) (g : NGet X.prog X.w H a y o) (ry : RelV y u) (h : ∀ s', Inv X pins σ H s' → Q (.bool (!o.isSome)) s') :
    wpAny (model X.prog X.w) A (compareOp .NotIn u (.ref a)) Q E s := by
  obtain ⟨kvs, k, b, e, kk, ey, nk, dk, l⟩ := g
  subst ey
  cases (show u = Value.ref b from ry)
  obtain ⟨z, hd, xs, rel, dd⟩ := nd_of Iv.hok e kk
  refine wpAny_notIn_heap (nk_room hu) ⟨nv_is Iv.hok _ _ _ nk rfl, dk⟩ hd dd ?_
  have q := (rel.val k).isSome_eq
  rw [Option.isSome_map] at q
  rw [← q, ← l]
  exact h _ (Iv.tok _)
theorem n_setItem {H' : Hp} {Q : Unit → Shared → Prop} (hu : A.units + 64 < cLine) (Iv : Inv X pins σ H s) (g : NPut X.prog X.w H a y v H') (ry : RelV y u) (rv : RelV v r) (h : ∀ s', Inv X pins σ H' s' → Q () s') :
    wpAny (model X.prog X.w) A (setItem (.ref a) u r) Q E s := by
  obtain ⟨kvs, k, b, e, kk, ey, nk, dk, l, eH⟩ := g
  subst ey eH
  cases (show u = Value.ref b from ry)
  obtain ⟨z, hd, xs, rel, dd⟩ := nd_of Iv.hok e kk
  have hz : xs.length ≤ sizeLine := by
    rw [← Paired.length rel]
    exact z
  have hl : (putN kvs k b v).length ≤ sizeLine := by
    have := length_putN kvs k b v
    omega
  refine wpAny_setItem_heap (hsz := hz) (nk_room hu) ⟨nv_is Iv.hok _ _ _ nk rfl, dk⟩ dd fun h' dd' hs => h _ ?_
  obtain ⟨q, es, ep, hq, _⟩ := id dd'
  exact d_write Iv (by rw [e]; exact True.intro) hs ⟨q, hq⟩ (nd_new hl hd (rel.put k rv) dd')
theorem nd_typeIs (Iv : Inv X pins σ H s) (g : NGet X.prog X.w H a y o) : s.TypeIs (.ref a) "dict" := by
  obtain ⟨kvs, k, b, e, kk, _⟩ := g
  obtain ⟨_, _, xs, _, dd⟩ := nd_of Iv.hok e kk
  exact dd.typeIs
end
def tNGet (P : Program) (w : World) (td ty : TE) : TE := fun σ H Q => td σ H fun x H1 => ty σ H1 fun y H2 => ∃ a v, x = .ref a ∧ NGet P w H2 a y (some v) ∧ Q v H2
def tNIn (P : Program) (w : World) (ty td : TE) : TE := fun σ H Q => ty σ H fun y H1 => td σ H1 fun x H2 => ∃ a o, x = .ref a ∧ NGet P w H2 a y o ∧ Q (.bl o.isSome) H2
def tNNotIn (P : Program) (w : World) (ty td : TE) : TE := fun σ H Q => ty σ H fun y H1 => td σ H1 fun x H2 => ∃ a o, x = .ref a ∧ NGet P w H2 a y o ∧ Q (.bl (!o.isSome)) H2
def sNPut (P : Program) (w : World) (td ty tv : TE) : TS := fun D σ H => tv σ H fun v H1 => td σ H1 fun x H2 => ty σ H2 fun y H3 => ∃ a H4, x = .ref a ∧ NPut P w H3 a y v H4 ∧ D.nx σ H4
def tNNew (P : Program) (w : World) : TE := fun _ H Q => ∀ p, H p = none → Q (.ref p) (upd H p (ND P w p []))
section
variable {X : Cx} {o i e value : Expr} {pos pos' tpos : Pos} {td ty tv : TE}
theorem pe_nget (hu : X.A.units + 64 < cLine) (ho : PE X o td) (hi : PE X i ty) (hs : NoSl i) : PE X (.Subscript o i pos) (tNGet X.prog X.w td ty) := by
  refine ⟨fun pins s σ H Q Iv h => ?_⟩
  refine subD_of PySem.F.slot_dict_getitem.lookup hs (thn (ho.run pins s σ H _ Iv h) fun u s1 ⟨x, H1, I1, rx, q1⟩ => thn (hi.run pins s1 σ H1 _ I1 q1) fun iv s2 ⟨y, H2, I2, ry, a, v, ex, g, q2⟩ => ?_)
  subst ex
  obtain rfl : u = Value.ref a := rx
  exact ⟨nd_typeIs I2 g, n_getItem hu I2 g ry fun w' s3 I3 rw' => ⟨v, H2, I3, rw', q2⟩⟩
theorem pc_nin (hu : X.A.units + 64 < cLine) (hi : PE X i ty) (ho : PE X o td) : PC X .In i o (tNIn X.prog X.w ty td) := by
  refine ⟨fun pins s σ H Q Iv h => ?_⟩
  refine thn (hi.run pins s σ H _ Iv h) fun iv s1 ⟨y, H1, I1, ry, q1⟩ => thn (ho.run pins s1 σ H1 _ I1 q1) fun u s2 ⟨x, H2, I2, rx, a, ov, ex, g, q2⟩ => ?_
  subst ex
  obtain rfl : u = Value.ref a := rx
  exact n_in hu I2 g ry fun s3 I3 => ⟨.bl ov.isSome, H2, I3, rfl, q2⟩
theorem pc_nnotin (hu : X.A.units + 64 < cLine) (hi : PE X i ty) (ho : PE X o td) : PC X .NotIn i o (tNNotIn X.prog X.w ty td) := by
  refine ⟨fun pins s σ H Q Iv h => ?_⟩
  refine thn (hi.run pins s σ H _ Iv h) fun iv s1 ⟨y, H1, I1, ry, q1⟩ => thn (ho.run pins s1 σ H1 _ I1 q1) fun u s2 ⟨x, H2, I2, rx, a, ov, ex, g, q2⟩ => ?_
  subst ex
  obtain rfl : u = Value.ref a := rx
  exact n_notIn hu I2 g ry fun s3 I3 => ⟨.bl (!ov.isSome), H2, I3, rfl, q2⟩
theorem ps_nput (hu : X.A.units + 64 < cLine) (ho : PE X o td) (hi : PE X i ty) (hv : PE X value tv) (hs : swapsWith value (some (.Subscript o i pos')) pos.line X.env = pure false) :
    PS X (.Assign [.Subscript o i pos'] value pos) (sNPut X.prog X.w td ty tv) := by
  refine ⟨fun pins s σ H D Iv h => ?_⟩
  refine wpAny_Assign_Subscript (thn (hv.run pins s σ H _ Iv h) fun r s1 ⟨v, H1, I1, rv, q1⟩ => thn (ho.run pins s1 σ H1 _ I1 q1) fun u s2 ⟨x, H2, I2, rx, q2⟩ => thn (hi.run pins s2 σ H2 _ I2 q2) fun iv s3 ⟨y, H3, I3, ry, a, H4, ex, g, q3⟩ => ?_) hs
  subst ex
  obtain rfl : u = Value.ref a := rx
  exact n_setItem hu I3 g ry rv fun s4 I4 => ⟨σ, H4, I4, q3⟩
theorem pe_nnew : PE X (.Dict [] [] pos) (tNNew X.prog X.w) := ⟨fun pins s σ H Q Iv h =>
  wpAny_Dict_empty ⟨.ref s.heap.objs.size, _, Iv.laid (a := s.heap.objs.size) (o := ND X.prog X.w s.heap.objs.size []) (t' := s.toks) (fun _ _ q => Heap.get?_push_of_some _ q) (Nat.le_refl _)
    (nd_new (Nat.zero_le _) (beq_eq_false_iff_ne.mpr (Ne.symm (Nat.ne_of_lt Iv.big))) .nil (Heap.DictOfH.new s.heap)), rfl, h _ (Iv.hok.fresh (Nat.le_refl _))⟩⟩
end
end G58

set_option Elab.async false
set_option linter.all false
set_option maxRecDepth 100000
set_option maxHeartbeats 4000000
/-! Rings of a graph by two walks, in plain Lean. -/
namespace G58
namespace Scc
inductive Rch (adj : Nat → List Nat) : Nat → Nat → Prop
  | refl (u : Nat) : Rch adj u u
  | step {u v w : Nat} (e : v ∈ adj u) (r : Rch adj v w) : Rch adj u w
theorem Rch.trans {adj : Nat → List Nat} {u v w : Nat} (a : Rch adj u v) (b : Rch adj v w) : Rch adj u w := by
  induction a with
  | refl => exact b
  | step e _ ih => exact .step e (ih b)
theorem Rch.one {adj : Nat → List Nat} {u v : Nat} (e : v ∈ adj u) : Rch adj u v := .step e (.refl v)
/-- u lies on a ring -/
def OnC (adj : Nat → List Nat) (u : Nat) : Prop := ∃ v ∈ adj u, Rch adj v u
abbrev Stk := List (Nat × Bool)
/-- all grey nodes below an item reach it -/
def St (adj : Nat → List Nat) : Stk → Prop
  | [] => True
  | c :: s => (∀ u, (u, true) ∈ s → Rch adj u c.1) ∧ St adj s
/-- the children of a grey node are seen, or wait above it -/
def Dd (adj : Nat → List Nat) (seen : List Nat) : Stk → Stk → Prop
  | _, [] => True
  | ab, c :: s => (c.2 = true → ∀ z ∈ adj c.1, z ∈ seen ∨ (z, false) ∈ ab) ∧ Dd adj seen (ab ++ [c]) s
theorem Dd.mono {adj : Nat → List Nat} {seen seen' : List Nat} (hs : ∀ z ∈ seen, z ∈ seen') : ∀ {s ab ab' : Stk}, (∀ z, (z, false) ∈ ab → z ∈ seen' ∨ (z, false) ∈ ab') → Dd adj seen ab s → Dd adj seen' ab' s
  | [], _, _, _, _ => True.intro
  | c :: s, ab, ab', h, d => by
    refine ⟨fun hc z hz => ?_, Dd.mono (s := s) hs (fun z hz => ?_) d.2⟩
    · rcases d.1 hc z hz with q | q
      · exact .inl (hs z q)
      · exact h z q
    · rcases List.mem_append.mp hz with q | q
      · rcases h z q with q | q
        · exact .inl q
        · exact .inr (List.mem_append.mpr (.inl q))
      · exact .inr (List.mem_append.mpr (.inr q))
theorem Dd.kids {adj : Nat → List Nat} {seen : List Nat} : ∀ {ks ab s : Stk}, (∀ k ∈ ks, k.2 = false) → Dd adj seen (ab ++ ks) s → Dd adj seen ab (ks ++ s)
  | [], ab, s, _, d => by
    rw [List.append_nil] at d
    exact d
  | k :: ks, ab, s, h, d => by
    refine ⟨fun hc => ?_, Dd.kids (fun q hq => h q (List.mem_cons_of_mem _ hq)) ?_⟩
    · rw [h k (List.mem_cons_self ..)] at hc
      cases hc
    · rw [List.append_assoc]
      exact d
theorem St.kids {adj : Nat → List Nat} : ∀ {ks s : Stk}, (∀ k ∈ ks, k.2 = false) → (∀ k ∈ ks, ∀ u, (u, true) ∈ s → Rch adj u k.1) → St adj s → St adj (ks ++ s)
  | [], s, _, _, d => d
  | k :: ks, s, h, g, d => by
    refine ⟨fun u hu => ?_, St.kids (fun q hq => h q (List.mem_cons_of_mem _ hq)) (fun q hq => g q (List.mem_cons_of_mem _ hq)) d⟩
    rcases List.mem_append.mp hu with q | q
    · have z := h _ (List.mem_cons_of_mem _ q)
      cases z
    · exact g k (List.mem_cons_self ..) u q
/-- the order so far: a child that is not yet in it reaches its last one -/
def Ord (adj : Nat → List Nat) (found : List Nat) : Prop := ∀ pre x post, found = pre ++ x :: post → ∀ y ∈ pre ++ [x], ∀ z ∈ adj y, z ∉ pre ++ [x] → Rch adj z x
structure Inv1 (adj : Nat → List Nat) (stk : Stk) (seen found : List Nat) : Prop where
  st : St adj stk
  dd : Dd adj seen [] stk
  fs : ∀ u ∈ found, u ∈ seen
  gs : ∀ u, (u, true) ∈ stk → u ∈ seen
  sn : ∀ u ∈ seen, u ∈ found ∨ (u, true) ∈ stk
  nd : found.Nodup
  gf : ∀ u, (u, true) ∈ stk → u ∉ found
  g1 : ∀ top u bot, stk = top ++ (u, true) :: bot → (u, true) ∉ bot
  ch : ∀ u ∈ found, ∀ z ∈ adj u, z ∈ seen
  od : Ord adj found
theorem Inv1.start {adj : Nat → List Nat} {seen found : List Nat} (h : Inv1 adj [] seen found) (f : Nat) : Inv1 adj [(f, false)] seen found where
  st := ⟨fun u hu => (nomatch hu), True.intro⟩
  dd := ⟨fun q => (by cases q), True.intro⟩
  fs := h.fs
  gs := fun u hu => by
    rcases List.mem_singleton.mp hu with q
    cases q
  sn := fun u hu => by
    rcases h.sn u hu with q | q
    · exact .inl q
    · exact nomatch q
  nd := h.nd
  gf := fun u hu => by
    rcases List.mem_singleton.mp hu with q
    cases q
  g1 := fun top u bot e => by
    cases top with
    | nil => cases e
    | cons t top =>
      have z := (List.cons.inj e).2
      cases top <;> cases z
  ch := h.ch
  od := h.od
theorem Inv1.done {adj : Nat → List Nat} {s : Stk} {u : Nat} {seen found : List Nat} (h : Inv1 adj ((u, true) :: s) seen found) : Inv1 adj s seen (found ++ [u]) := by
  have us : u ∈ seen := h.gs u (List.mem_cons_self ..)
  have uf : u ∉ found := h.gf u (List.mem_cons_self ..)
  have ub : (u, true) ∉ s := h.g1 [] u s rfl
  have kids : ∀ z ∈ adj u, z ∈ seen := fun z hz => by
    rcases h.dd.1 rfl z hz with q | q
    · exact q
    · exact nomatch q
  refine ⟨h.st.2, Dd.mono (fun z q => q) (fun z hz => ?_) h.dd.2, ?_, fun v hv => h.gs v (List.mem_cons_of_mem _ hv), fun v hv => ?_, ?_, fun v hv => ?_, fun top v bot e => ?_, ?_, ?_⟩
  · rcases List.mem_append.mp hz with q | q
    · exact nomatch q
    · have z := List.mem_singleton.mp q
      cases z
  · intro v hv
    rcases List.mem_append.mp hv with q | q
    · exact h.fs v q
    · rw [List.mem_singleton.mp q]
      exact us
  · rcases h.sn v hv with q | q
    · exact .inl (List.mem_append.mpr (.inl q))
    · rcases List.mem_cons.mp q with q | q
      · cases q
        exact .inl (List.mem_append.mpr (.inr (List.mem_singleton.mpr rfl)))
      · exact .inr q
  · rw [List.nodup_append]
    refine ⟨h.nd, List.nodup_cons.mpr ⟨(fun q => nomatch q), List.nodup_nil⟩, fun a ha b hb e => ?_⟩
    rw [List.mem_singleton.mp hb] at e
    rw [e] at ha
    exact uf ha
  · intro q
    rcases List.mem_append.mp q with q | q
    · exact h.gf v (List.mem_cons_of_mem _ hv) q
    · rw [List.mem_singleton.mp q] at hv
      exact ub hv
  · exact h.g1 ((u, true) :: top) v bot (by rw [e]; rfl)
  · intro v hv z hz
    rcases List.mem_append.mp hv with q | q
    · exact h.ch v q z hz
    · rw [List.mem_singleton.mp q] at hz
      exact kids z hz
  · intro pre x post e y hy z hz hn
    rcases List.eq_nil_or_concat post with rfl | ⟨post', w, rfl⟩
    · obtain ⟨e1, e2⟩ := List.append_inj' e rfl
      have e3 : u = x := (List.cons.inj e2).1
      subst e1 e3
      have zs : z ∈ seen := by
        rcases List.mem_append.mp hy with q | q
        · exact h.ch y q z hz
        · rw [List.mem_singleton.mp q] at hz
          exact kids z hz
      rcases h.sn z zs with q | q
      · exact absurd (List.mem_append.mpr (.inl q)) hn
      · rcases List.mem_cons.mp q with q | q
        · cases q
          exact absurd (List.mem_append.mpr (.inr (List.mem_singleton.mpr rfl))) hn
        · exact h.st.1 z q
    · have e' : found ++ [u] = (pre ++ x :: post') ++ [w] := by
        rw [e]
        simp
      obtain ⟨e1, _⟩ := List.append_inj' e' rfl
      exact h.od pre x post' e1 y hy z hz hn
theorem Inv1.skip {adj : Nat → List Nat} {s : Stk} {u : Nat} {seen found : List Nat} (h : Inv1 adj ((u, false) :: s) seen found) (hu : u ∈ seen) : Inv1 adj s seen found := by
  refine ⟨h.st.2, Dd.mono (fun z q => q) (fun z hz => ?_) h.dd.2, h.fs, fun v hv => h.gs v (List.mem_cons_of_mem _ hv), fun v hv => ?_, h.nd, fun v hv => h.gf v (List.mem_cons_of_mem _ hv), fun top v bot e => h.g1 ((u, false) :: top) v bot (by rw [e]; rfl), h.ch, h.od⟩
  · rcases List.mem_append.mp hz with q | q
    · exact nomatch q
    · have z := List.mem_singleton.mp q
      cases z
      exact .inl hu
  · rcases h.sn v hv with q | q
    · exact .inl q
    · rcases List.mem_cons.mp q with q | q
      · cases q
      · exact .inr q
def kidsOf (adj : Nat → List Nat) (u : Nat) : Stk := ((adj u).map fun c => (c, false)).reverse
theorem mem_kids {adj : Nat → List Nat} {u : Nat} {k : Nat × Bool} : k ∈ kidsOf adj u ↔ k.2 = false ∧ k.1 ∈ adj u := by
  unfold kidsOf
  rw [List.mem_reverse, List.mem_map]
  constructor
  · rintro ⟨c, hc, rfl⟩
    exact ⟨rfl, hc⟩
  · rintro ⟨h1, h2⟩
    exact ⟨k.1, h2, by cases k; cases h1; rfl⟩
theorem Inv1.open {adj : Nat → List Nat} {s : Stk} {u : Nat} {seen found : List Nat} (h : Inv1 adj ((u, false) :: s) seen found) (hu : u ∉ seen) : Inv1 adj (kidsOf adj u ++ (u, true) :: s) (seen ++ [u]) found := by
  have un : (u, true) ∉ s := fun q => hu (h.gs u (List.mem_cons_of_mem _ q))
  have kf : ∀ k ∈ kidsOf adj u, k.2 = false := fun k hk => (mem_kids.mp hk).1
  have gr : ∀ v, (v, true) ∈ kidsOf adj u ++ (u, true) :: s → v = u ∨ (v, true) ∈ s := fun v hv => by
    rcases List.mem_append.mp hv with q | q
    · have z := kf _ q
      cases z
    · rcases List.mem_cons.mp q with q | q
      · cases q
        exact .inl rfl
      · exact .inr q
  refine ⟨St.kids kf (fun k hk v hv => ?_) ⟨fun v hv => h.st.1 v hv, h.st.2⟩, Dd.kids kf ⟨fun _ z hz => .inr ?_, Dd.mono (fun z q => List.mem_append.mpr (.inl q)) (fun z hz => ?_) h.dd.2⟩, fun v hv => List.mem_append.mpr (.inl (h.fs v hv)), fun v hv => ?_, fun v hv => ?_, h.nd, fun v hv => ?_, fun top v bot e => ?_, fun v hv z hz => List.mem_append.mpr (.inl (h.ch v hv z hz)), h.od⟩
  · have e := (mem_kids.mp hk).2
    rcases List.mem_cons.mp hv with q | q
    · cases q
      exact Rch.one e
    · exact (h.st.1 v q).trans (Rch.one e)
  · rw [List.nil_append]
    exact mem_kids.mpr ⟨rfl, hz⟩
  · rcases List.mem_append.mp hz with q | q
    · exact nomatch q
    · have e := List.mem_singleton.mp q
      cases e
      exact .inl (List.mem_append.mpr (.inr (List.mem_singleton.mpr rfl)))
  · rcases gr v hv with rfl | q
    · exact List.mem_append.mpr (.inr (List.mem_singleton.mpr rfl))
    · exact List.mem_append.mpr (.inl (h.gs v (List.mem_cons_of_mem _ q)))
  · rcases List.mem_append.mp hv with q | q
    · rcases h.sn v q with q | q
      · exact .inl q
      · rcases List.mem_cons.mp q with q | q
        · cases q
        · exact .inr (List.mem_append.mpr (.inr (List.mem_cons_of_mem _ q)))
    · rw [List.mem_singleton.mp q]
      exact .inr (List.mem_append.mpr (.inr (List.mem_cons_self ..)))
  · rcases gr v hv with rfl | q
    · exact fun z => hu (h.fs v z)
    · exact h.gf v (List.mem_cons_of_mem _ q)
  · rcases List.append_eq_append_iff.mp e with ⟨as, e1, e2⟩ | ⟨as, e1, e2⟩
    · cases as with
      | nil =>
        rw [List.nil_append] at e2
        obtain ⟨e3, e4⟩ := List.cons.inj e2
        cases e3
        rw [← e4]
        exact un
      | cons t ts =>
        obtain ⟨e3, e4⟩ := List.cons.inj e2
        exact h.g1 ((u, false) :: ts) v bot (by rw [e4]; rfl)
    · cases as with
      | nil =>
        rw [List.nil_append] at e2
        obtain ⟨e3, e4⟩ := List.cons.inj e2
        cases e3
        rw [e4]
        exact un
      | cons t ts =>
        obtain ⟨e3, e4⟩ := List.cons.inj e2
        have m : (v, true) ∈ kidsOf adj u := by
          rw [e1, e3]
          exact List.mem_append.mpr (.inr (List.mem_cons_self ..))
        have z := kf _ m
        cases z
/-! ### paths -/
inductive PIn (adj : Nat → List Nat) (S : Nat → Prop) : Nat → Nat → Nat → Prop
  | refl {f : Nat} (h : S f) : PIn adj S 0 f f
  | step {k x y f : Nat} (h : S x) (e : y ∈ adj x) (r : PIn adj S k y f) : PIn adj S (k + 1) x f
theorem PIn.rch {adj : Nat → List Nat} {S : Nat → Prop} {k x f : Nat} (h : PIn adj S k x f) : Rch adj x f := by
  induction h with
  | refl => exact .refl _
  | step _ e _ ih => exact .step e ih
theorem PIn.head {adj : Nat → List Nat} {S : Nat → Prop} {k x f : Nat} (h : PIn adj S k x f) : S x := by
  cases h with
  | refl h => exact h
  | step h _ _ => exact h
theorem PIn.mono {adj : Nat → List Nat} {S S' : Nat → Prop} (hs : ∀ u, S u → S' u) {k x f : Nat} (h : PIn adj S k x f) : PIn adj S' k x f := by
  induction h with
  | refl h => exact .refl (hs _ h)
  | step h e _ ih => exact .step (hs _ h) e ih
/-- the first step out of a set -/
theorem PIn.exit {adj : Nat → List Nat} {S : Nat → Prop} {pre : List Nat} {k x f : Nat} (h : PIn adj S k x f) (hx : x ∈ pre) (hf : f ∉ pre) : ∃ y z j, y ∈ pre ∧ z ∈ adj y ∧ z ∉ pre ∧ j < k ∧ PIn adj S j z f := by
  induction h with
  | refl => exact absurd hx hf
  | @step k x y f h e r ih =>
    by_cases hy : y ∈ pre
    · obtain ⟨a, b, j, h1, h2, h3, h4, h5⟩ := ih hy hf
      exact ⟨a, b, j, h1, h2, h3, by omega, h5⟩
    · exact ⟨x, y, k, hx, e, hy, by omega, r⟩
/-- a path whose nodes all stand not behind f: f reaches its begin -/
theorem back {adj : Nat → List Nat} {A B : List Nat} {f : Nat} (hn : (A ++ f :: B).Nodup) (ho : Ord adj (A ++ f :: B)) : ∀ (n k x : Nat), k ≤ n → PIn adj (fun u => u ∈ A ++ [f]) k x f → Rch adj f x := by
  intro n
  induction n with
  | zero =>
    intro k x hk p
    obtain rfl : k = 0 := by omega
    cases p
    exact .refl _
  | succ n ih =>
    intro k x hk p
    by_cases hxf : x = f
    · rw [hxf]
      exact .refl _
    have hx : x ∈ A := by
      rcases List.mem_append.mp p.head with q | q
      · exact q
      · exact absurd (List.mem_singleton.mp q) hxf
    obtain ⟨A1, A2, rfl⟩ := List.append_of_mem hx
    have hf : f ∉ A1 ++ [x] := fun q => by
      have h2 : f ∈ A1 ++ x :: A2 := by
        rcases List.mem_append.mp q with q | q
        · exact List.mem_append.mpr (.inl q)
        · rw [List.mem_singleton.mp q]
          exact List.mem_append.mpr (.inr (List.mem_cons_self ..))
      exact (List.nodup_append.mp hn).2.2 f h2 f (List.mem_cons_self ..) rfl
    obtain ⟨y, z, j, h1, h2, h3, h4, h5⟩ := p.exit (pre := A1 ++ [x]) (List.mem_append.mpr (.inr (List.mem_singleton.mpr rfl))) hf
    have r1 := ho A1 x (A2 ++ f :: B) (by simp) y h1 z h2 h3
    exact (ih j z (by omega) h5).trans r1
end Scc
end G58

set_option Elab.async false
set_option linter.all false
set_option maxRecDepth 100000
set_option maxHeartbeats 4000000
/-! The second walk: groups, and the least node on a ring. -/
namespace G58
namespace Scc
theorem PIn.last {adj : Nat → List Nat} {S : Nat → Prop} {k x f : Nat} (h : PIn adj S k x f) : S f := by
  induction h with
  | refl h => exact h
  | step _ _ _ ih => exact ih
structure Inv2 (adj : Nat → List Nat) (order old : List Nat) (f : Nat) (wt seen G : List Nat) : Prop where
  sn : ∀ u, u ∈ seen ↔ u ∈ old ∨ u ∈ G
  no : ∀ u ∈ G, u ∉ old
  pa : ∀ u ∈ G, ∃ k, PIn adj (fun x => x ∈ G) k u f
  wg : ∀ u ∈ wt, u = f ∨ ∃ x ∈ G, x ∈ adj u
  cl : ∀ x ∈ G, ∀ y ∈ order, x ∈ adj y → y ∈ seen ∨ y ∈ wt
  ld : f ∈ seen ∨ f ∈ wt
  nd : G.Nodup
  bw : ∀ u ∈ wt, u ∈ order
  bg : ∀ u ∈ G, u ∈ order
theorem Inv2.start {adj : Nat → List Nat} {order old : List Nat} {f : Nat} (hf : f ∈ order) : Inv2 adj order old f [f] old [] where
  sn := fun u => ⟨.inl, fun h => h.elim id (fun q => nomatch q)⟩
  no := fun u h => nomatch h
  pa := fun u h => nomatch h
  wg := fun u h => .inl (List.mem_singleton.mp h)
  cl := fun x h => nomatch h
  ld := .inr (List.mem_singleton.mpr rfl)
  nd := List.nodup_nil
  bw := fun u h => by
    rw [List.mem_singleton.mp h]
    exact hf
  bg := fun u h => nomatch h
theorem Inv2.skip {adj : Nat → List Nat} {order old : List Nat} {f u : Nat} {w0 seen G : List Nat} (h : Inv2 adj order old f (w0 ++ [u]) seen G) (hu : u ∈ seen) : Inv2 adj order old f w0 seen G where
  sn := h.sn
  no := h.no
  pa := h.pa
  wg := fun v hv => h.wg v (List.mem_append.mpr (.inl hv))
  cl := fun x hx y hy e => by
    rcases h.cl x hx y hy e with q | q
    · exact .inl q
    · rcases List.mem_append.mp q with q | q
      · exact .inr q
      · rw [List.mem_singleton.mp q]
        exact .inl hu
  ld := by
    rcases h.ld with q | q
    · exact .inl q
    · rcases List.mem_append.mp q with q | q
      · exact .inr q
      · rw [List.mem_singleton.mp q]
        exact .inl hu
  nd := h.nd
  bw := fun v hv => h.bw v (List.mem_append.mpr (.inl hv))
  bg := h.bg
theorem Inv2.open {adj : Nat → List Nat} {order old : List Nat} {f u : Nat} {w0 seen G us : List Nat} (h : Inv2 adj order old f (w0 ++ [u]) seen G) (hu : u ∉ seen) (hus : ∀ y, y ∈ us ↔ y ∈ order ∧ u ∈ adj y) :
    Inv2 adj order old f (w0 ++ us) (seen ++ [u]) (G ++ [u]) := by
  have uG : u ∉ G := fun q => hu ((h.sn u).mpr (.inr q))
  have uo : u ∉ old := fun q => hu ((h.sn u).mpr (.inl q))
  have up : ∀ x, x ∈ G → x ∈ G ++ [u] := fun x q => List.mem_append.mpr (.inl q)
  have um : u ∈ G ++ [u] := List.mem_append.mpr (.inr (List.mem_singleton.mpr rfl))
  refine ⟨fun v => ?_, fun v hv => ?_, fun v hv => ?_, fun v hv => ?_, fun x hx y hy e => ?_, ?_, ?_, fun v hv => ?_, fun v hv => ?_⟩
  · rw [List.mem_append, List.mem_append, h.sn v, or_assoc]
  · rcases List.mem_append.mp hv with q | q
    · exact h.no v q
    · rw [List.mem_singleton.mp q]
      exact uo
  · rcases List.mem_append.mp hv with q | q
    · obtain ⟨k, p⟩ := h.pa v q
      exact ⟨k, p.mono up⟩
    · rw [List.mem_singleton.mp q]
      rcases h.wg u (List.mem_append.mpr (.inr (List.mem_singleton.mpr rfl))) with rfl | ⟨x, hx, e⟩
      · exact ⟨0, .refl um⟩
      · obtain ⟨k, p⟩ := h.pa x hx
        exact ⟨k + 1, .step um e (p.mono up)⟩
  · rcases List.mem_append.mp hv with q | q
    · rcases h.wg v (List.mem_append.mpr (.inl q)) with e | ⟨x, hx, e⟩
      · exact .inl e
      · exact .inr ⟨x, up x hx, e⟩
    · exact .inr ⟨u, um, ((hus v).mp q).2⟩
  · rcases List.mem_append.mp hx with q | q
    · rcases h.cl x q y hy e with z | z
      · exact .inl (List.mem_append.mpr (.inl z))
      · rcases List.mem_append.mp z with z | z
        · exact .inr (List.mem_append.mpr (.inl z))
        · exact .inl (List.mem_append.mpr (.inr z))
    · rw [List.mem_singleton.mp q] at e
      exact .inr (List.mem_append.mpr (.inr ((hus y).mpr ⟨hy, e⟩)))
  · rcases h.ld with q | q
    · exact .inl (List.mem_append.mpr (.inl q))
    · rcases List.mem_append.mp q with q | q
      · exact .inr (List.mem_append.mpr (.inl q))
      · exact .inl (List.mem_append.mpr (.inr q))
  · rw [List.nodup_append]
    refine ⟨h.nd, List.nodup_cons.mpr ⟨(fun q => nomatch q), List.nodup_nil⟩, fun a ha b hb e => ?_⟩
    rw [List.mem_singleton.mp hb] at e
    rw [e] at ha
    exact uG ha
  · rcases List.mem_append.mp hv with q | q
    · exact h.bw v (List.mem_append.mpr (.inl q))
    · exact ((hus v).mp q).1
  · rcases List.mem_append.mp hv with q | q
    · exact h.bg v q
    · rw [List.mem_singleton.mp q]
      exact h.bw u (List.mem_append.mpr (.inr (List.mem_singleton.mpr rfl)))
/-- behind some leaders -/
structure Out (adj : Nat → List Nat) (order B old rings : List Nat) : Prop where
  o1 : ∀ u ∈ B, u ∈ old
  o2 : ∀ x ∈ old, ∀ y ∈ order, x ∈ adj y → y ∈ old
  r1 : ∀ r ∈ rings, r ∈ order ∧ OnC adj r
  r2 : ∀ u ∈ old, OnC adj u → ∃ r ∈ rings, r ≤ u
theorem Out.start {adj : Nat → List Nat} {order : List Nat} : Out adj order [] [] [] := ⟨(fun u h => nomatch h), (fun x h => nomatch h), (fun r h => nomatch h), (fun u h => nomatch h)⟩
def isRing (adj : Nat → List Nat) (f : Nat) (G : List Nat) : Prop := 1 < G.length ∨ (G = [f] ∧ f ∈ adj f)
theorem pre_closed {adj : Nat → List Nat} {order S : List Nat} (all : ∀ u ∈ order, ∀ v ∈ adj u, v ∈ order) (cl : ∀ x ∈ S, ∀ y ∈ order, x ∈ adj y → y ∈ S) {v f : Nat} (r : Rch adj v f) (hv : v ∈ order) (hf : f ∈ S) : v ∈ S := by
  induction r with
  | refl => exact hf
  | @step u w f e r ih => exact cl w (ih (all u hv w e) hf) u hv e
theorem Out.next {adj : Nat → List Nat} {A B old rings seen G : List Nat} {f : Nat} (all : ∀ u ∈ A ++ f :: B, ∀ v ∈ adj u, v ∈ A ++ f :: B) (hn : (A ++ f :: B).Nodup) (ho : Ord adj (A ++ f :: B)) (h : Out adj (A ++ f :: B) B old rings) (i : Inv2 adj (A ++ f :: B) old f [] seen G) :
    (isRing adj f G → ∀ m, m ∈ G → (∀ x ∈ G, m ≤ x) → Out adj (A ++ f :: B) (f :: B) seen (rings ++ [m])) ∧ (¬ isRing adj f G → Out adj (A ++ f :: B) (f :: B) seen rings) := by
  have fs : f ∈ seen := by
    rcases i.ld with q | q
    · exact q
    · exact nomatch q
  have o1 : ∀ u ∈ f :: B, u ∈ seen := fun u hu => by
    rcases List.mem_cons.mp hu with rfl | q
    · exact fs
    · exact (i.sn u).mpr (.inl (h.o1 u q))
  have o2 : ∀ x ∈ seen, ∀ y ∈ A ++ f :: B, x ∈ adj y → y ∈ seen := fun x hx y hy e => by
    rcases (i.sn x).mp hx with q | q
    · exact (i.sn y).mpr (.inl (h.o2 x q y hy e))
    · rcases i.cl x q y hy e with z | z
      · exact z
      · exact nomatch z
  have hof : f ∈ A ++ f :: B := List.mem_append.mpr (.inr (List.mem_cons_self ..))
  -- a group's nodes are reached by its leader
  have inA : ∀ u ∈ G, u ∈ A ++ [f] := fun u hu => by
    rcases List.mem_append.mp (i.bg u hu) with q | q
    · exact List.mem_append.mpr (.inl q)
    · rcases List.mem_cons.mp q with q | q
      · exact List.mem_append.mpr (.inr (List.mem_singleton.mpr q))
      · exact absurd (h.o1 u q) (i.no u hu)
  have to : ∀ x ∈ G, Rch adj x f := fun x hx => by
    obtain ⟨k, p⟩ := i.pa x hx
    exact p.rch
  have fro : ∀ x ∈ G, Rch adj f x := fun x hx => by
    obtain ⟨k, p⟩ := i.pa x hx
    exact back hn ho k k x (Nat.le_refl _) (p.mono inA)
  have fG : ∀ x ∈ G, f ∈ G := fun x hx => by
    obtain ⟨k, p⟩ := i.pa x hx
    exact p.last
  have yes : isRing adj f G → ∀ x ∈ G, OnC adj x := fun hr x hx => by
    have other : ∀ y ∈ G, y ≠ x → OnC adj x := fun y hy ne => by
      have r := (to x hx).trans (fro y hy)
      cases r with
      | refl => exact absurd rfl ne
      | @step _ v _ e r => exact ⟨v, e, r.trans ((to y hy).trans (fro x hx))⟩
    rcases hr with hr | ⟨rfl, e⟩
    · match G, hr, hx, other, i.nd with
      | a :: b :: t, _, hx, other, nd =>
        by_cases ea : a = x
        · refine other b (List.mem_cons_of_mem _ (List.mem_cons_self ..)) fun eb => ?_
          rw [ea, ← eb] at nd
          exact (List.nodup_cons.mp nd).1 (List.mem_cons_self ..)
        · exact other a (List.mem_cons_self ..) ea
    · rw [List.mem_singleton.mp hx]
      exact ⟨f, e, .refl f⟩
  have no : ¬ isRing adj f G → ∀ x ∈ G, ¬ OnC adj x := fun hr x hx oc => by
    have f1 := fG x hx
    have hl : G = [f] := by
      have hle : ¬ 1 < G.length := fun q => hr (.inl q)
      match G, hle, f1 with
      | [a], _, f1 => rw [List.mem_singleton.mp f1]
      | a :: b :: t, hle, _ => exact absurd (by rw [List.length_cons, List.length_cons]; omega) hle
    have nf : f ∉ adj f := fun q => hr (.inr ⟨hl, q⟩)
    rw [hl] at hx
    rw [List.mem_singleton.mp hx] at oc
    obtain ⟨v, e, r⟩ := oc
    have vo : v ∈ A ++ f :: B := all f hof v e
    have vs : v ∈ seen := pre_closed all o2 r vo fs
    rcases (i.sn v).mp vs with q | q
    · exact i.no f f1 (h.o2 v q f hof e)
    · rw [hl] at q
      rw [List.mem_singleton.mp q] at e
      exact nf e
  refine ⟨fun hr m hm hle => ⟨o1, o2, fun r q => ?_, fun u hu oc => ?_⟩, fun hr => ⟨o1, o2, h.r1, fun u hu oc => ?_⟩⟩
  · rcases List.mem_append.mp q with q | q
    · exact h.r1 r q
    · rw [List.mem_singleton.mp q]
      exact ⟨i.bg m hm, yes hr m hm⟩
  · rcases (i.sn u).mp hu with q | q
    · obtain ⟨r, h1, h2⟩ := h.r2 u q oc
      exact ⟨r, List.mem_append.mpr (.inl h1), h2⟩
    · exact ⟨m, List.mem_append.mpr (.inr (List.mem_singleton.mpr rfl)), hle u q⟩
  · rcases (i.sn u).mp hu with q | q
    · exact h.r2 u q oc
    · exact absurd oc (no hr u q)
end Scc
end G58

set_option Elab.async false
set_option linter.all false
set_option maxRecDepth 100000
set_option maxHeartbeats 4000000
/-! Small things: heaps that grow, rows of ints, lists or tuples. -/
namespace G58
open PySem PySem.Spec PyProof.Rows L2
theorem same_new {H H1 : Hp} (s : Same H H1) {d : Addr} {o : HO} (hd : H1 d = none) : Same H (upd H1 d o) := fun b u e => by
  rw [upd_ne (ne_of_none (s b u e) hd)]
  exact s b u e
theorem Same.tup {K : PySem.W.Frag} {H H' : Hp} {p : Addr} {xs : List V} (e : Same H H') (h : SqT K H p xs) : SqT K H' p xs := by
  rcases h with (h | ⟨o, h⟩) | h
  · exact .inl (.inl (e _ _ h))
  · exact .inl (.inr ⟨o, e _ _ h⟩)
  · exact .inr h
theorem ifNeT {c A B : Prop} [Decidable c] (hc : ¬ c) (h : A) : if (!decide c) = true then A else B := by
  rw [decide_eq_false hc]
  exact iteT h
theorem ifNeF {c A B : Prop} [Decidable c] (hc : c) (h : B) : if (!decide c) = true then A else B := by
  rw [decide_eq_true hc]
  exact iteF h
abbrev vInts (ns : List Nat) : List V := ns.map fun n => V.int (n : Nat)
theorem vInts_app (l r : List Nat) : vInts (l ++ r) = vInts l ++ vInts r := List.map_append ..
theorem vInts_rev (l : List Nat) : vInts l.reverse = (vInts l).reverse := List.map_reverse ..
theorem vInts_len (l : List Nat) : (vInts l).length = l.length := List.length_map ..
theorem vInts_at {l : List Nat} {i n : Nat} (h : l[i]? = some n) : (vInts l)[i]? = some (.int (n : Nat)) := by
  rw [List.getElem?_map, h]
  rfl
theorem vInts_get {l : List Nat} {i : Nat} {x : V} (h : (vInts l)[i]? = some x) : ∃ n, l[i]? = some n ∧ x = .int (n : Nat) := by
  rw [List.getElem?_map] at h
  obtain ⟨n, h1, h2⟩ := Option.map_eq_some_iff.mp h
  exact ⟨n, h1, h2.symm⟩
def Bytes (ns : List Nat) : Prop := ∀ n ∈ ns, n < 256
theorem Bytes.app {l r : List Nat} (a : Bytes l) (b : Bytes r) : Bytes (l ++ r) := fun n h => (List.mem_append.mp h).elim (a n) (b n)
theorem Bytes.nil : Bytes [] := fun n h => nomatch h
theorem Bytes.one {n : Nat} (h : n < 256) : Bytes [n] := fun m hm => by
  rw [List.mem_singleton.mp hm]
  exact h
/-- a list or a tuple -/
def SqB (K : PySem.W.Frag) (H : Hp) (p : Addr) (xs : List V) : Prop := SqL K H p xs ∨ SqT K H p xs
theorem SqB.same {K : PySem.W.Frag} {H H' : Hp} {p : Addr} {xs : List V} (h : SqB K H p xs) (s : Same H H') : SqB K H' p xs := h.imp (fun z => s.seq z) (fun z => Same.tup s z)
theorem SqB.lst {K : PySem.W.Frag} {H : Hp} {p : Addr} {xs : List V} (h : H p = some (.lst xs)) : SqB K H p xs := .inl (.inl (.inl h))
theorem SqB.tup {K : PySem.W.Frag} {H : Hp} {p : Addr} {xs : List V} (h : H p = some (.tup xs)) : SqB K H p xs := .inr (.inl (.inl h))
def rIxB (K : PySem.W.Frag) : R2 := fun x y H Q => ∃ p xs i v, x = .ref p ∧ y = .int i ∧ SqB K H p xs ∧ atI xs i = some v ∧ Q v H
def rSlB2 (K : PySem.W.Frag) : V → Option Int → Option Int → Hp → VK → Prop := fun x lo hi H Q => ∃ p xs, x = .ref p ∧ SqB K H p xs ∧ ∀ q H', Same H H' → SqB K H' q (cutV xs lo hi) → Q (.ref q) H'
section
variable {X : Cx}
theorem ix_b : IxR X (rIxB X.K) := by
  intro value slice pins s σ H x y v u Q Iv rx ry h hs
  obtain ⟨p, xs, i, z, e1, e2, hb, ha, q⟩ := h
  exact (ix_list.or ix_tup) value slice pins s σ H x y v u Q Iv rx ry (hb.imp (fun c => ⟨p, xs, i, z, e1, e2, c, ha, q⟩) (fun c => ⟨p, xs, i, z, e1, e2, c, ha, q⟩)) hs
theorem cut_whole {xs : List V} {lo hi : Option Int} (h : HT.sIx xs.length 0 lo = 0 ∧ HT.sIx xs.length xs.length hi = xs.length) : cutV xs lo hi = xs := by
  unfold cutV
  rw [h.1, h.2, List.drop_zero, Nat.sub_zero, List.take_length]
theorem sl_b : SlR X (rSlB2 X.K) := by
  intro pins s σ H x v vl vu lo hi sl Q Iv rx hs pl pu h
  obtain ⟨p, xs, e, hb, q⟩ := h
  refine (sl_list.or sl_tupA) pins s σ H x v vl vu lo hi sl Q Iv rx hs pl pu (hb.imp (fun c => ⟨p, xs, e, c, fun b hb => ?_⟩) (fun c => ⟨p, xs, e, c, fun hw => ?_, fun _ b hb => ?_⟩))
  · exact q b _ (same_new (Same.refl H) hb) (.lst upd_same)
  · exact q p H (Same.refl H) (by rw [cut_whole hw]; exact .inr c)
  · exact q b _ (same_new (Same.refl H) hb) (.tup upd_same)
end
theorem sIx_nat (n d a : Nat) : HT.sIx n d (some (a : Int)) = min a n := by
  unfold HT.sIx
  simp
  omega
/-- ns[a:b] -/
def cut (ns : List Nat) (a b : Nat) : List Nat := (ns.drop a).take (b - a)
theorem cut_len {ns : List Nat} {a b : Nat} (h : b ≤ ns.length) : (cut ns a b).length = b - a := by
  unfold cut
  rw [List.length_take, List.length_drop]
  omega
theorem mem_cut {ns : List Nat} {a b n : Nat} (h : n ∈ cut ns a b) : n ∈ ns := List.mem_of_mem_drop (List.mem_of_mem_take h)
theorem Bytes.cut {ns : List Nat} {a b : Nat} (h : Bytes ns) : Bytes (cut ns a b) := fun n hn => h n (mem_cut hn)
theorem cutV_ints (ns : List Nat) (a b : Nat) : cutV (vInts ns) (some (a : Int)) (some (b : Int)) = vInts (cut ns a b) := by
  unfold cutV cut
  rw [sIx_nat, sIx_nat, vInts_len]
  show _ = List.map _ (List.take _ (List.drop _ ns))
  rw [List.map_take, List.map_drop]
  by_cases ha : a ≤ ns.length
  · rw [Nat.min_eq_left ha]
    by_cases hb : b ≤ ns.length
    · rw [Nat.min_eq_left hb]
    · rw [Nat.min_eq_right (by omega)]
      rw [List.take_of_length_le (by rw [List.length_drop, List.length_map]; omega), List.take_of_length_le (by rw [List.length_drop, List.length_map]; omega)]
  · have e1 : ∀ k, (List.map (fun n : Nat => V.int (n : Nat)) ns).drop k = [] ∨ k < ns.length := fun k => by
      rcases Nat.lt_or_ge k ns.length with q | q
      · exact .inr q
      · exact .inl (List.drop_eq_nil_of_le (by rw [List.length_map]; exact q))
    have h1 := (e1 a).resolve_right (by omega)
    have h2 := (e1 (min a ns.length)).resolve_right (by omega)
    rw [h1, h2, List.take_nil, List.take_nil]
theorem cutV_tail (ns : List Nat) (a : Nat) : cutV (vInts ns) (some (a : Int)) none = vInts (cut ns a ns.length) := by
  have e := cutV_ints ns a ns.length
  rw [← e]
  unfold cutV
  rw [sIx_nat, sIx_nat, vInts_len, Nat.min_self]
  rfl
/-- the number of big-endian octets -/
def num (l : List Nat) : Nat := l.foldl (fun a b => a * 256 + b) 0
def snum (l : List Nat) : Int := if 128 ≤ l.headD 0 then (num l : Int) - 1 - (num (List.replicate l.length 255) : Nat) else (num l : Nat)
theorem num_snoc (l : List Nat) (b : Nat) : num (l ++ [b]) = num l * 256 + b := by
  unfold num
  rw [List.foldl_append]
  rfl
theorem flat_ints (k : Nat) (ns : List Nat) : (List.replicate k (vInts ns)).flatten = vInts (List.replicate k ns).flatten := by
  induction k with
  | zero => rfl
  | succ k ih => rw [List.replicate_succ, List.replicate_succ, List.flatten_cons, List.flatten_cons, vInts_app, ih]
theorem flat_one (k n : Nat) : (List.replicate k [n]).flatten = List.replicate k n := by
  induction k with
  | zero => rfl
  | succ k ih => rw [List.replicate_succ, List.replicate_succ, List.flatten_cons, ih]; rfl
end G58

set_option Elab.async false
set_option linter.all false
set_option pp.maxSteps 2500
set_option maxRecDepth 100000
set_option maxHeartbeats 4000000
/-! Defs that are entered where no container's text is being made; texts of containers. -/
namespace G58
open PySem PySem.Spec PyProof.Rows L2
/-- FnOk, entered with no guard on the stack -/
structure FnG (P : Program) (w : World) (K : PySem.W.Frag) (mg : Str → Option Value) (base : Heap) (CX : CXT) (k : Nat) (f : Addr) (fd : FuncData) (ps : List Str) (sp : Sp) : Prop where
  len : ∀ vs H Q E, sp vs H Q E → vs.length = ps.length
  run : ∀ (A : Around) (outer : List Env) (s : Shared) (H : Hp) (args : Args) (us : List Value) (vs : List V) (Q : VK) (E : XK), A.guards = some [] → Room k A → Env0 P w K mg base A outer s H → BindsTo s fd args (ps.zip us) → Vals vs us → sp vs H Q E →
    codeAny (model P w) A (.call (.ref f) args) (CR CX outer P w H s Q E) s
section
variable {P : Program} {w : World} {K : PySem.W.Frag} {mg : Str → Option Value} {base : Heap}
/-- a def by its body, where no guard stands on the stack -/
theorem okG {x qual : Str} {st : Stmt} {f : Addr} {fd : FuncData} {N ps : List Str} {k : Nat} {sp : Sp} (F : Fun K x qual st f fd) (S : FnScope N ps (defScope st)) (len : ∀ vs H Q E, sp vs H Q E → vs.length = ps.length)
    (hbody : ∀ (cdv : Value) (A : Around) (outer : List Env) (s : Shared) (H : Hp) (vs : List V) (Q : VK) (E : XK), (A.deeper (envOfC qual (defScope st) s.heap.objs.size f cdv)).guards = some [] → Room k (A.deeper (envOfC qual (defScope st) s.heap.objs.size f cdv)) → sp vs H Q E →
      ∃ t, PSs (cxOf CX0 P w K mg base N qual (defScope st) f cdv A outer s H E).nox (defBody st) t ∧ t { nx := fun _ H' => Q .non H', rt := Q } (start N vs) H) : FnG P w K mg base CX0 (k + 1) f fd ps sp := by
  obtain ⟨oc, od, kV, doc, pm, an, cdv, ct, osl, rfl, lk, hcd⟩ := F.ex
  refine ⟨len, fun A outer s H args us vs Q E hgu hr e0 hb r hsp => ?_⟩
  have hlen := len _ _ _ _ hsp
  have inK : K.In s.heap := e0.mod.kin.keeps fun b o e => (e0.bs b o e).1
  have noLim : s.heap.NoLimit := e0.mod.nolimit.keeps fun b o e => (e0.bs b o e).1
  have kinds : ∀ y ∈ ps.zip us, (defScope st).names.lookup y.1 = some .local ∨ ((defScope st).names.lookup y.1 = some .cell ∧ ((cellsFrom (s.heap.objs.size + 1) (defScope st).names []).lookup y.1).isSome = true) := by
    rintro ⟨n, v⟩ hy
    exact (S.par n (List.of_mem_zip hy).1).imp id fun q => ⟨q, PySem.W.cellsFrom_some _ _ _ (.inl q)⟩
  refine codeAny_call_function hr.depth (inK _ _ lk) rfl S.co S.gen rfl (PySem.W.codeRec_of inK hcd) (hb _ _ _ _ ?_)
  refine wpAny_newFunctionEnv_cells S.kind kinds fun env he s1 entered => ?_
  subst he
  refine ⟨noLim.keeps entered.toInCall.keep, codeAny_func ?_⟩
  obtain ⟨t, ht0, hq⟩ := hbody cdv A outer s H vs Q E hgu (hr.deeper _) hsp
  have ht := ht0.nox
  have I0 : Inv (cxOf CX0 P w K mg base N qual (defScope st) f cdv A outer s H E) [] (start N vs) H s1 := inv_start S hr.hd e0 hlen r entered
  refine wpAny_mono (ht.run [] s1 (start N vs) H _ I0 hq) (fun fl s' hs => ?_) fun _ _ hs => hs
  cases fl with
  | ret u =>
    obtain ⟨v, σ', H', J, rv, q⟩ := hs
    exact ⟨v, H', J.os, J.bare, J.base, J.hok, rv, q⟩
  | next =>
    obtain ⟨σ', H', J, q⟩ := hs
    exact ⟨.non, H', J.os, J.bare, J.base, J.hok, rfl, q⟩
  | brk =>
    obtain ⟨_, _, _, q⟩ := hs
    exact q.elim
  | cont =>
    obtain ⟨_, _, _, q⟩ := hs
    exact q.elim
end
section
variable {X : Cx} {CX : CXT} {k : Nat} {f : Addr} {fd : FuncData} {ps : List Str} {sp : Sp} {ds : List Value} {dvs : List V} {E : XK} {x : Str} {p pos : Pos} {e : Expr} {es : List Expr} {t : TA}
theorem run_G {pins : List (Addr × Obj)} {σ : L2.St} {H : Hp} {s : Shared} {Q : VK} {us : List Value} {vs : List V} (hgu : X.A.guards = some []) (F : FnG X.prog X.w X.K X.mg X.base CX k f fd ps sp) (hr : Room k X.A) (hb : Binds X.K fd ps ds) (hd : Vals dvs ds) (hx : Passes CX X E)
    (I : Inv X pins σ H s) (r : Vals vs us) (h : sp (vs ++ dvs) H Q E) : wpAny (model X.prog X.w) X.A (call (.ref f) us) (EP X pins σ Q) X.xe s := by
  have rAll : Vals (vs ++ dvs) (us ++ ds) := r.append hd
  have hlen : (us ++ ds).length = ps.length := rAll.length.symm.trans (F.len _ _ _ _ h)
  refine wpAny_call (codeAny_mono (F.run X.A X.stack s H ⟨us, []⟩ (us ++ ds) (vs ++ dvs) Q E hgu hr I.env0 (hb s us I.kIn hlen) rAll h) fun r s' hq => ?_)
  cases r with
  | error e => exact hx pins σ H s e s' I hq
  | ok fl =>
    cases fl with
    | ret u => exact I.after hq
    | next => exact hq.elim
    | brk => exact hq.elim
    | cont => exact hq.elim
theorem pe_callG (hgu : X.A.guards = some []) (F : FnG X.prog X.w X.K X.mg X.base CX k f fd ps sp) (hr : Room k X.A) (hg : Gl X x) (hm : X.mg x = some (.ref f)) (hk : PySem.W.keepIn X.K (.ref f) = true) (hb : Binds X.K fd ps ds) (hd : Vals dvs ds) (hx : Passes CX X E)
    (ha : PA X (e :: es) t) (hdb : (x == ("__debug__" : Str)) = false := by decide) (he : starEach (e :: es) X.env = (false, eval e X.env) :: starEach es X.env := by rfl) (hpl : (backTo pos (starEach es X.env)).any (·.1) = false := by rfl) :
    PE X (.Call (.Name x p) (e :: es) [] pos) (tCall sp dvs E t) :=
  ⟨fun pins s σ H Q I h => wpAny_Call_Name_kw (ld_glob I hg hm (PySem.W.callWith_K (h₀ := X.base) I.ok.mod.kin hk (thn (ha.run pos pins s σ H _ I h) fun _ _ ⟨_, _, I1, r, q⟩ => ⟨I1.kIn, run_G hgu F hr hb hd hx I1 r q⟩) he hpl) hdb)⟩
/-- repr(x) of lists and tuples -/
theorem call_reprD {X : Cx} (hgu : X.A.guards = some []) (hu : X.A.units + 64 < cLine) : CallR X (.builtin "repr") (fun xs H Q => ∃ (a : Addr) (d : PyData), xs = [.ref a] ∧ Dp X.K H (.ref a) d ∧ d.showable = true ∧ d.hasDict = false ∧ d.depth ≤ 60 ∧ d.shown.length ≤ sizeLine ∧ Q (.str d.shown) H) := by
  intro pins s σ H xs us Q I r h
  obtain ⟨a, d, rfl, hd, hs, hdd, hdp, hz, q⟩ := h
  obtain ⟨u, rfl, ru⟩ := r.one
  cases ru
  obtain ⟨as, rd⟩ := Dp.reads I d _ _ hd rfl
  exact PySem.repr_of_reads' rd hs (fun z => by rw [hdd] at z; cases z) hgu (by omega) (fun _ _ e => e) (fun h' u tk hk => ⟨.str d.shown, H, I.kept hk, ⟨u, rfl⟩, q⟩) hz
/-- the law, called with no guard on the stack -/
theorem law_callG {P : Program} {w : World} {K : PySem.W.Frag} {mg mb : Str → Option Value} {k : Nat} {fa a : Addr} {fd : FuncData} {x : Str} {sp : Sp} {s₁ : Shared} {vs : List Value} {ns : List Int}
    (KX : K.In s₁.heap) (hns : s₁.heap.Ns mainGlobals mg) (hb : s₁.heap.Ns builtinsNs mb) (hbb : ∀ x : Str, x ≠ "__name__" → mb x = bootBuiltins x) (hlim : s₁.heap.NoLimit) (hg : s₁.gens = #[])
    (ha : s₁.heap.get? a = some { cls := .type "list", data := .seq vs.toArray }) (hi : IntsAre vs ns) (hl : ns.length ≤ sizeLine) (hr : Room k callerA)
    (F : ∀ base : Heap, K.In base → base.Ns mainGlobals mg → FnG P w K mg base CX0 k fa fd [x] sp) (hbind : ∀ (s : Shared) (u : Value), BindsTo s fd ⟨[u], []⟩ [(x, u)])
    (hsp : ∀ H : Hp, SqL K H a (ns.map V.int) → sp [.ref a] H (fun v _ => v = .bl true) fun _ _ _ => False) :
    codeAny (model P w) callerA (.call (.ref fa) ⟨[.ref a], []⟩) (fun r s' => r = .ok (.ret (.bool true)) ∧ OldK s₁.heap s'.heap ∧ s'.os = s₁.os ∧ AllBare s'.gens) s₁ := by
  have rv := vals_ints hi
  have lv := hi.length
  -- from a heap in which at most the script is tracked
  have core : ∀ H : Hp, SqL K H a (ns.map V.int) → HOk P w H s₁.heap → (∀ b o, H b = some o → b = a ∧ K.lookup a = none ∧ ∃ ob, o = .frz ob (.lst (ns.map V.int))) →
      codeAny (model P w) callerA (.call (.ref fa) ⟨[.ref a], []⟩) (fun r s' => r = .ok (.ret (.bool true)) ∧ OldK s₁.heap s'.heap ∧ s'.os = s₁.os ∧ AllBare s'.gens) s₁ := by
    intro H hS hok hA
    have off : ∀ {b : Addr}, b ≠ a → H b = none := fun {b} n => by
      cases q : H b with
      | none => rfl
      | some o => exact absurd (hA b o q).1 n
    have low : ∀ {b : Addr} {o : Obj}, s₁.heap.get? b = some o → (∀ us n, o.data ≠ .seq us n) → (hidT s₁.heap H).get? b = some o := fun {b o} e n => hidT_get e (off fun z => by
      rw [z, ha] at e
      cases e
      exact n _ _ rfl)
    have ns' : ∀ {b : Addr} {m : Str → Option Value}, s₁.heap.Ns b m → (hidT s₁.heap H).Ns b m := fun {b m} ⟨o, es, ep, e, d, r⟩ => ⟨o, es, ep, low e (fun us n z => by rw [d] at z; cases z), d, r⟩
    have kIn : K.In (hidT s₁.heap H) := fun b o e => hidT_get (KX b o e) (by
      cases q : H b with
      | none => rfl
      | some u =>
        obtain ⟨rfl, hk, _⟩ := hA b u q
        rw [hk] at e
        cases e)
    obtain ⟨mc, l1, l2⟩ := hlim
    have md : L2.Mod K mg (hidT s₁.heap H) := ⟨kIn, ns' hns, ⟨mb, ns' hb, hbb⟩, ⟨mc, ns' l1, l2⟩⟩
    have e0 : Env0 P w K mg (hidT s₁.heap H) callerA [] s₁ H := ⟨rfl, md, fun b o e => of_hidT e, Nat.le_of_eq (hidT_size _ _), trivial, (fun b z => nomatch z), hok, .of_eq hg⟩
    refine codeAny_mono ((F _ kIn (ns' hns)).run callerA [] s₁ H ⟨[.ref a], []⟩ [.ref a] [.ref a] _ _ rfl hr e0 (hbind s₁ (.ref a)) (.cons rfl .nil) (hsp H hS)) fun r s' h => ?_
    cases r with
    | error e =>
      exact h.elim
    | ok fl =>
      cases fl with
      | next => exact h.elim
      | brk => exact h.elim
      | cont => exact h.elim
      | ret u =>
        obtain ⟨v, H', os, bare, un, hok', r', q⟩ := h
        have q' : v = .bl true := q
        subst q'
        obtain rfl : u = Value.bool true := r'
        have same : ∀ b o, s₁.heap.get? b = some o → s'.heap.get? b = some o := fun b o e => by
          cases q : H b with
          | none => exact un.keep b o e q (fun z => nomatch z) (fun z => nomatch z)
          | some u =>
            obtain ⟨_, _, ob, rfl⟩ := hA b u q
            obtain ⟨e1, _⟩ := hok b _ q
            obtain ⟨e2, _⟩ := hok' b _ (un.frzs b ob _ q)
            rw [e] at e1
            cases e1
            exact e2
        exact ⟨rfl, ⟨fun b o e => .inl (same b o e), fun b o e => ⟨o, same b o e⟩⟩, os, bare⟩
  cases hk : K.lookup a with
  | some o =>
    have e := KX a o hk
    rw [ha] at e
    cases e
    exact core (fun _ => none) (.inr ⟨_, vs.toArray, _, hk, rfl, rfl, rfl, by rw [List.size_toArray, lv]; exact hl, by simpa using rv⟩) (fun b u z => nomatch z) (fun b o z => nomatch z)
  | none =>
    refine core (fun b => if b = a then some (.frz { cls := .type "list", data := .seq vs.toArray } (.lst (ns.map V.int))) else none) (.inl (.inr ⟨{ cls := .type "list", data := .seq vs.toArray }, if_pos rfl⟩)) (fun b u z => ?_) (fun b o z => ?_)
    · by_cases hb : b = a
      · have z' := (if_pos hb).symm.trans z
        cases z'
        rw [hb]
        exact ⟨ha, by rw [List.length_map]; exact hl, vs, _, rv, ha⟩
      · have z' := (if_neg hb).symm.trans z
        cases z'
    · by_cases hb : b = a
      · have z' := (if_pos hb).symm.trans z
        cases z'
        exact ⟨hb, hk, _, rfl⟩
      · have z' := (if_neg hb).symm.trans z
        cases z'
/-- what the top must have written for such a law -/
def LawG (l : PySem.W.OpenLaw) (w : World) (K : PySem.W.Frag) (k n : Nat) (x : Str) (mg : Str → Option Value) (fa : Addr) : Prop :=
  ∃ (fd : FuncData) (sp : Sp), (∀ (s : Shared) (u : Value), BindsTo s fd ⟨[u], []⟩ [(x, u)]) ∧
    (∀ (H : Hp) (a : Addr) (ns : List Int), ns.length ≤ n → SqL K H a (ns.map V.int) → sp [.ref a] H (fun v _ => v = .bl true) fun _ _ _ => False) ∧
    ∀ base : Heap, K.In base → base.Ns mainGlobals mg → FnG l.prog w K mg base CX0 k fa fd [x] sp
theorem walk_G {l : PySem.W.OpenLaw} {n k : Nat} {q : Program} {loose : List Str} {XP : (Str → Option Value) → Heap → Prop} {YP : World → Heap → Prop} {d : DefRec} {K : Params → PySem.W.Frag} {x : Str}
    (hn : l.most = some n) (hn2 : n ≤ sizeLine) (hdf : d.params.defaults = []) (hr : Room k callerA) (hY : ∀ (w : World) (h : Heap), YP w h → (K w.params).In h)
    (F : ∀ (w : World) (mg : Str → Option Value) (fa : Addr) (h : Heap), YP w h → (K w.params).In h → h.Ns mainGlobals mg → mg d.name = some (.ref fa) → LawG l w (K w.params) k n x mg fa) :
    PySem.W.WalkO q loose XP YP l.row.toRowW d [] (fun f vs => PySem.call f vs) :=
  Att.attach_callB hn hdf fun w s₀ s₁ mg mb fa o pm cd doc a vs ns G Y _ _ _ hmg hobj hints hlen _ hg => by
    obtain ⟨fd, sp, hb, hsp, hF⟩ := F w mg fa _ Y (hY w _ Y) G.T.g hmg
    exact law_callG (hY w _ Y) G.T.g G.T.b G.T.builtins G.T.nolimit hg hobj hints (Nat.le_trans hlen hn2) hr hF hb fun H hS => hsp H a ns hlen hS
end
end G58

set_option Elab.async false
set_option linter.all false
set_option maxRecDepth 100000
set_option maxHeartbeats 4000000
/-! k75: the base. -/
namespace G58
open PySem PySem.Spec PyProof.Rows L2
end G58

set_option Elab.async false
set_option linter.all false
set_option maxRecDepth 100000
set_option maxHeartbeats 4000000
/-! The text by places; what the top holds. -/
namespace G58
open PySem PySem.Spec PyProof.Rows L2
def topS (i : Nat) : Stmt := PySem.Challenge.pw_nestfile_k01_things_of_the_package.main.body.getD i (.Pass ⟨0, 0, 0, 0⟩)
abbrev siV : Stmt := inClass (topS 3) 0
abbrev sEq : Stmt := inClass (topS 6) 2
abbrev sIsi : Stmt := topS 7
abbrev sIsb : Stmt := topS 8
abbrev sArb : Stmt := topS 9
abbrev sArp : Stmt := topS 10
abbrev sRef : Stmt := topS 11
abbrev siW : Stmt := inClass (topS 12) 0
abbrev sCnW : Stmt := inClass (topS 12) 1
abbrev sFaW : Stmt := inClass (topS 12) 2
abbrev siD : Stmt := inClass (topS 13) 0
abbrev sCnD : Stmt := inClass (topS 13) 1
abbrev sFaD : Stmt := inClass (topS 13) 2
abbrev siU : Stmt := inClass (topS 14) 0
abbrev sCnU : Stmt := inClass (topS 14) 1
abbrev sFaU : Stmt := inClass (topS 14) 2
abbrev siR : Stmt := inClass (topS 15) 0
abbrev sCnR : Stmt := inClass (topS 15) 1
abbrev sFaR : Stmt := inClass (topS 15) 2
abbrev siT : Stmt := inClass (topS 16) 0
abbrev sCnT : Stmt := inClass (topS 16) 1
abbrev sFaT : Stmt := inClass (topS 16) 2
abbrev sSrc : Stmt := topS 18
abbrev sDrw : Stmt := topS 19
abbrev sPik : Stmt := topS 20
abbrev sOct : Stmt := topS 21
abbrev sUni : Stmt := topS 22
abbrev sMad : Stmt := topS 23
abbrev sFld : Stmt := topS 24
abbrev sDrn : Stmt := topS 25
abbrev sRfd : Stmt := topS 26
abbrev sOdd : Stmt := topS 27
abbrev sOne : Stmt := topS 28
abbrev sRgt : Stmt := topS 29
abbrev sLaw : Stmt := topS 30
structure Ad where
  (cNoValue cWide cData cUid cReal cDate cThing cNestError fiV fEq fIsi fIsb fArb fArp fRef fiW fCnW fFaW fiD fCnD fFaD fiU fCnU fFaU fiR fCnR fFaR fiT fCnT fFaT fSrc fDrw fPik fOct fUni fMad fFld fDrn fRfd fOdd fOne fRgt : Addr)
/-- an own exception class -/
structure ExC (K : PySem.W.Frag) (C f : Addr) : Prop where
  ox : OexC K C
  xf : XfC K C
  ini : PySem.W.findIn K (.ref C) "__init__" = some (some (.ref f))
  ti : PySem.W.typeIn K (.ref f) = some (.type "function")
structure Txt (K : PySem.W.Frag) (mg : Str → Option Value) (a : Ad) : Prop where
  xNoValue : ExC K a.cNoValue a.fiV
  noNoValue_path : PySem.W.findIn K (.ref a.cNoValue) "path" = some none
  mkWide : Mk K a.cWide a.fiW
  clWide : Cls K a.cWide
  nWide_units : NoAttr K a.cWide "units"
  mtCnW : Meth K a.cWide "class_name" a.fCnW
  mtFaW : Meth K a.cWide "facts" a.fFaW
  mkData : Mk K a.cData a.fiD
  clData : Cls K a.cData
  nData_octets : NoAttr K a.cData "octets"
  mtCnD : Meth K a.cData "class_name" a.fCnD
  mtFaD : Meth K a.cData "facts" a.fFaD
  mkUid : Mk K a.cUid a.fiU
  clUid : Cls K a.cUid
  nUid_number : NoAttr K a.cUid "number"
  mtCnU : Meth K a.cUid "class_name" a.fCnU
  mtFaU : Meth K a.cUid "facts" a.fFaU
  mkReal : Mk K a.cReal a.fiR
  clReal : Cls K a.cReal
  nReal_octets : NoAttr K a.cReal "octets"
  mtCnR : Meth K a.cReal "class_name" a.fCnR
  mtFaR : Meth K a.cReal "facts" a.fFaR
  mkDate : Mk K a.cDate a.fiT
  clDate : Cls K a.cDate
  nDate_octets : NoAttr K a.cDate "octets"
  mtCnT : Meth K a.cDate "class_name" a.fCnT
  mtFaT : Meth K a.cDate "facts" a.fFaT
  gcNoValue : mg "NoValue" = some (.ref a.cNoValue)
  gcWide : mg "Wide" = some (.ref a.cWide)
  gcData : mg "Data" = some (.ref a.cData)
  gcUid : mg "Uid" = some (.ref a.cUid)
  gcReal : mg "Real" = some (.ref a.cReal)
  gcDate : mg "Date" = some (.ref a.cDate)
  gcThing : mg "Thing" = some (.ref a.cThing)
  gcNestError : mg "NestError" = some (.ref a.cNestError)
  gIsi : mg "is_integer" = some (.ref a.fIsi)
  gIsb : mg "is_between" = some (.ref a.fIsb)
  gArb : mg "are_between" = some (.ref a.fArb)
  gArp : mg "are_plain" = some (.ref a.fArp)
  gRef : mg "refuse" = some (.ref a.fRef)
  gSrc : mg "_law_source" = some (.ref a.fSrc)
  gDrw : mg "_law_draw" = some (.ref a.fDrw)
  gPik : mg "_law_pick" = some (.ref a.fPik)
  gOct : mg "_law_octets" = some (.ref a.fOct)
  gUni : mg "_law_units" = some (.ref a.fUni)
  gMad : mg "_law_made" = some (.ref a.fMad)
  gFld : mg "_law_field" = some (.ref a.fFld)
  gDrn : mg "_law_drawn" = some (.ref a.fDrn)
  gRfd : mg "_law_refused" = some (.ref a.fRfd)
  gOdd : mg "_law_odd_right" = some (.ref a.fOdd)
  gOne : mg "_law_one_right" = some (.ref a.fOne)
  gRgt : mg "_law_right" = some (.ref a.fRgt)
  kGREATEST : ∃ t, mg "GREATEST" = some (.int 18446744073709551615 t)
  blen : mg "len" = none
  bisinstance : mg "isinstance" = none
  bstr : mg "str" = none
  bint : mg "int" = none
  bbool : mg "bool" = none
  babs : mg "abs" = none
  brange : mg "range" = none
  blist : mg "list" = none
  btuple : mg "tuple" = none
  ball : mg "all" = none
  brepr : mg "repr" = none
  benumerate : mg "enumerate" = none
  emNoValue_NoValue : PySem.W.exmOne K (.ref a.cNoValue) (.ref a.cNoValue) = some true
  hn : PySem.W.specialIn K (.builtin "object.__class__") "__get__" = some (some (.builtin "getset_descriptor.__get__"))
  htk : PySem.W.takesIn K (.builtin "object.__class__") = some true
  fnEq : PySem.W.isFn K (.ref a.fEq) = true
  th_NoneType : PySem.W.kitOne K (.type "NoneType") (.ref a.cThing) = some false
  th_int : PySem.W.kitOne K (.type "int") (.ref a.cThing) = some false
  th_str : PySem.W.kitOne K (.type "str") (.ref a.cThing) = some false
  th_list : PySem.W.kitOne K (.type "list") (.ref a.cThing) = some false
  th_tuple : PySem.W.kitOne K (.type "tuple") (.ref a.cThing) = some false
  eqWide : PySem.W.findIn K (.ref a.cWide) "__eq__" = some (some (.ref a.fEq))
  neWide : PySem.W.findIn K (.ref a.cWide) "__ne__" = some (some (.builtin "object.__ne__"))
  haWide : PySem.W.findIn K (.ref a.cWide) "__class__" = some (some (.builtin "object.__class__"))
  hmWide : PySem.W.mroIn K a.cWide (.type "object") = some true
  thWide : PySem.W.kitOne K (.ref a.cWide) (.ref a.cThing) = some true
  nfWide_NoneType : PySem.W.notFirst K a.cWide (.type "NoneType") = true
  nfWide_int : PySem.W.notFirst K a.cWide (.type "int") = true
  nfWide_str : PySem.W.notFirst K a.cWide (.type "str") = true
  nfWide_list : PySem.W.notFirst K a.cWide (.type "list") = true
  nfWide_tuple : PySem.W.notFirst K a.cWide (.type "tuple") = true
  nfWide_Wide : PySem.W.notFirst K a.cWide (.ref a.cWide) = true
  nfWide_Data : PySem.W.notFirst K a.cWide (.ref a.cData) = true
  nfWide_Uid : PySem.W.notFirst K a.cWide (.ref a.cUid) = true
  nfWide_Real : PySem.W.notFirst K a.cWide (.ref a.cReal) = true
  nfWide_Date : PySem.W.notFirst K a.cWide (.ref a.cDate) = true
  eqData : PySem.W.findIn K (.ref a.cData) "__eq__" = some (some (.ref a.fEq))
  neData : PySem.W.findIn K (.ref a.cData) "__ne__" = some (some (.builtin "object.__ne__"))
  haData : PySem.W.findIn K (.ref a.cData) "__class__" = some (some (.builtin "object.__class__"))
  hmData : PySem.W.mroIn K a.cData (.type "object") = some true
  thData : PySem.W.kitOne K (.ref a.cData) (.ref a.cThing) = some true
  nfData_NoneType : PySem.W.notFirst K a.cData (.type "NoneType") = true
  nfData_int : PySem.W.notFirst K a.cData (.type "int") = true
  nfData_str : PySem.W.notFirst K a.cData (.type "str") = true
  nfData_list : PySem.W.notFirst K a.cData (.type "list") = true
  nfData_tuple : PySem.W.notFirst K a.cData (.type "tuple") = true
  nfData_Wide : PySem.W.notFirst K a.cData (.ref a.cWide) = true
  nfData_Data : PySem.W.notFirst K a.cData (.ref a.cData) = true
  nfData_Uid : PySem.W.notFirst K a.cData (.ref a.cUid) = true
  nfData_Real : PySem.W.notFirst K a.cData (.ref a.cReal) = true
  nfData_Date : PySem.W.notFirst K a.cData (.ref a.cDate) = true
  eqUid : PySem.W.findIn K (.ref a.cUid) "__eq__" = some (some (.ref a.fEq))
  neUid : PySem.W.findIn K (.ref a.cUid) "__ne__" = some (some (.builtin "object.__ne__"))
  haUid : PySem.W.findIn K (.ref a.cUid) "__class__" = some (some (.builtin "object.__class__"))
  hmUid : PySem.W.mroIn K a.cUid (.type "object") = some true
  thUid : PySem.W.kitOne K (.ref a.cUid) (.ref a.cThing) = some true
  nfUid_NoneType : PySem.W.notFirst K a.cUid (.type "NoneType") = true
  nfUid_int : PySem.W.notFirst K a.cUid (.type "int") = true
  nfUid_str : PySem.W.notFirst K a.cUid (.type "str") = true
  nfUid_list : PySem.W.notFirst K a.cUid (.type "list") = true
  nfUid_tuple : PySem.W.notFirst K a.cUid (.type "tuple") = true
  nfUid_Wide : PySem.W.notFirst K a.cUid (.ref a.cWide) = true
  nfUid_Data : PySem.W.notFirst K a.cUid (.ref a.cData) = true
  nfUid_Uid : PySem.W.notFirst K a.cUid (.ref a.cUid) = true
  nfUid_Real : PySem.W.notFirst K a.cUid (.ref a.cReal) = true
  nfUid_Date : PySem.W.notFirst K a.cUid (.ref a.cDate) = true
  eqReal : PySem.W.findIn K (.ref a.cReal) "__eq__" = some (some (.ref a.fEq))
  neReal : PySem.W.findIn K (.ref a.cReal) "__ne__" = some (some (.builtin "object.__ne__"))
  haReal : PySem.W.findIn K (.ref a.cReal) "__class__" = some (some (.builtin "object.__class__"))
  hmReal : PySem.W.mroIn K a.cReal (.type "object") = some true
  thReal : PySem.W.kitOne K (.ref a.cReal) (.ref a.cThing) = some true
  nfReal_NoneType : PySem.W.notFirst K a.cReal (.type "NoneType") = true
  nfReal_int : PySem.W.notFirst K a.cReal (.type "int") = true
  nfReal_str : PySem.W.notFirst K a.cReal (.type "str") = true
  nfReal_list : PySem.W.notFirst K a.cReal (.type "list") = true
  nfReal_tuple : PySem.W.notFirst K a.cReal (.type "tuple") = true
  nfReal_Wide : PySem.W.notFirst K a.cReal (.ref a.cWide) = true
  nfReal_Data : PySem.W.notFirst K a.cReal (.ref a.cData) = true
  nfReal_Uid : PySem.W.notFirst K a.cReal (.ref a.cUid) = true
  nfReal_Real : PySem.W.notFirst K a.cReal (.ref a.cReal) = true
  nfReal_Date : PySem.W.notFirst K a.cReal (.ref a.cDate) = true
  eqDate : PySem.W.findIn K (.ref a.cDate) "__eq__" = some (some (.ref a.fEq))
  neDate : PySem.W.findIn K (.ref a.cDate) "__ne__" = some (some (.builtin "object.__ne__"))
  haDate : PySem.W.findIn K (.ref a.cDate) "__class__" = some (some (.builtin "object.__class__"))
  hmDate : PySem.W.mroIn K a.cDate (.type "object") = some true
  thDate : PySem.W.kitOne K (.ref a.cDate) (.ref a.cThing) = some true
  nfDate_NoneType : PySem.W.notFirst K a.cDate (.type "NoneType") = true
  nfDate_int : PySem.W.notFirst K a.cDate (.type "int") = true
  nfDate_str : PySem.W.notFirst K a.cDate (.type "str") = true
  nfDate_list : PySem.W.notFirst K a.cDate (.type "list") = true
  nfDate_tuple : PySem.W.notFirst K a.cDate (.type "tuple") = true
  nfDate_Wide : PySem.W.notFirst K a.cDate (.ref a.cWide) = true
  nfDate_Data : PySem.W.notFirst K a.cDate (.ref a.cData) = true
  nfDate_Uid : PySem.W.notFirst K a.cDate (.ref a.cUid) = true
  nfDate_Real : PySem.W.notFirst K a.cDate (.ref a.cReal) = true
  nfDate_Date : PySem.W.notFirst K a.cDate (.ref a.cDate) = true
structure Df (K : PySem.W.Frag) (a : Ad) where
  (diV dEq dIsi dIsb dArb dArp dRef diW dCnW dFaW diD dCnD dFaD diU dCnU dFaU diR dCnR dFaR diT dCnT dFaT dSrc dDrw dPik dOct dUni dMad dFld dDrn dRfd dOdd dOne dRgt : FuncData)
  FiV : Fun K "__init__" "NoValue.__init__" siV a.fiV diV
  biV : L2.Binds K diV ["self", "path"] []
  FEq : Fun K "__eq__" "Thing.__eq__" sEq a.fEq dEq
  bEq : L2.Binds K dEq ["self", "other"] []
  FIsi : Fun K "is_integer" "is_integer" sIsi a.fIsi dIsi
  bIsi : L2.Binds K dIsi ["thing"] []
  FIsb : Fun K "is_between" "is_between" sIsb a.fIsb dIsb
  bIsb : L2.Binds K dIsb ["thing", "least", "most"] []
  FArb : Fun K "are_between" "are_between" sArb a.fArb dArb
  bArb : L2.Binds K dArb ["things", "least", "most"] []
  FArp : Fun K "are_plain" "are_plain" sArp a.fArp dArp
  bArp : L2.Binds K dArp ["units"] []
  FRef : Fun K "refuse" "refuse" sRef a.fRef dRef
  bRef : L2.Binds K dRef ["is_good"] []
  FiW : Fun K "__init__" "Wide.__init__" siW a.fiW diW
  biW : L2.Binds K diW ["self", "units"] []
  FCnW : Fun K "class_name" "Wide.class_name" sCnW a.fCnW dCnW
  bCnW : L2.Binds K dCnW ["self"] []
  FFaW : Fun K "facts" "Wide.facts" sFaW a.fFaW dFaW
  bFaW : L2.Binds K dFaW ["self"] []
  FiD : Fun K "__init__" "Data.__init__" siD a.fiD diD
  biD : L2.Binds K diD ["self", "octets"] []
  FCnD : Fun K "class_name" "Data.class_name" sCnD a.fCnD dCnD
  bCnD : L2.Binds K dCnD ["self"] []
  FFaD : Fun K "facts" "Data.facts" sFaD a.fFaD dFaD
  bFaD : L2.Binds K dFaD ["self"] []
  FiU : Fun K "__init__" "Uid.__init__" siU a.fiU diU
  biU : L2.Binds K diU ["self", "number"] []
  FCnU : Fun K "class_name" "Uid.class_name" sCnU a.fCnU dCnU
  bCnU : L2.Binds K dCnU ["self"] []
  FFaU : Fun K "facts" "Uid.facts" sFaU a.fFaU dFaU
  bFaU : L2.Binds K dFaU ["self"] []
  FiR : Fun K "__init__" "Real.__init__" siR a.fiR diR
  biR : L2.Binds K diR ["self", "octets"] []
  FCnR : Fun K "class_name" "Real.class_name" sCnR a.fCnR dCnR
  bCnR : L2.Binds K dCnR ["self"] []
  FFaR : Fun K "facts" "Real.facts" sFaR a.fFaR dFaR
  bFaR : L2.Binds K dFaR ["self"] []
  FiT : Fun K "__init__" "Date.__init__" siT a.fiT diT
  biT : L2.Binds K diT ["self", "octets"] []
  FCnT : Fun K "class_name" "Date.class_name" sCnT a.fCnT dCnT
  bCnT : L2.Binds K dCnT ["self"] []
  FFaT : Fun K "facts" "Date.facts" sFaT a.fFaT dFaT
  bFaT : L2.Binds K dFaT ["self"] []
  FSrc : Fun K "_law_source" "_law_source" sSrc a.fSrc dSrc
  bSrc : L2.Binds K dSrc ["_law_cell"] []
  FDrw : Fun K "_law_draw" "_law_draw" sDrw a.fDrw dDrw
  bDrw : L2.Binds K dDrw ["_law_source_here", "_law_many"] []
  FPik : Fun K "_law_pick" "_law_pick" sPik a.fPik dPik
  bPik : L2.Binds K dPik ["_law_source_here", "_law_items"] []
  FOct : Fun K "_law_octets" "_law_octets" sOct a.fOct dOct
  bOct : L2.Binds K dOct ["_law_source_here", "_law_many"] []
  FUni : Fun K "_law_units" "_law_units" sUni a.fUni dUni
  bUni : L2.Binds K dUni ["_law_source_here"] []
  FMad : Fun K "_law_made" "_law_made" sMad a.fMad dMad
  bMad : L2.Binds K dMad ["_law_way", "_law_some", "_law_is_named"] []
  FFld : Fun K "_law_field" "_law_field" sFld a.fFld dFld
  bFld : L2.Binds K dFld ["_law_way", "_law_thing"] []
  FDrn : Fun K "_law_drawn" "_law_drawn" sDrn a.fDrn dDrn
  bDrn : L2.Binds K dDrn ["_law_source_here", "_law_way"] []
  FRfd : Fun K "_law_refused" "_law_refused" sRfd a.fRfd dRfd
  bRfd : L2.Binds K dRfd ["_law_way", "_law_some"] []
  FOdd : Fun K "_law_odd_right" "_law_odd_right" sOdd a.fOdd dOdd
  bOdd : L2.Binds K dOdd ["_law_source_here"] []
  FOne : Fun K "_law_one_right" "_law_one_right" sOne a.fOne dOne
  bOne : L2.Binds K dOne ["_law_source_here", "_law_way"] []
  FRgt : Fun K "_law_right" "_law_right" sRgt a.fRgt dRgt
  bRgt : L2.Binds K dRgt ["_law_source_here"] []
end G58

set_option Elab.async false
set_option linter.all false
set_option pp.maxSteps 2500
set_option maxRecDepth 100000
set_option maxHeartbeats 1000000
/-! An own ==, with any result, and anything on the other side. -/
namespace G58
open PySem PySem.Spec PyProof.Rows L2
/-- the type of a value, as an own == asks for it -/
inductive TyOf (K : PySem.W.Frag) (H : Hp) : V → Value → Prop
  | non : TyOf K H .non (.type "NoneType")
  | bl (b : Bool) : TyOf K H (.bl b) (.type "bool")
  | int (i : Int) : TyOf K H (.int i) (.type "int")
  | str (z : Str) : TyOf K H (.str z) (.type "str")
  | lst {a : Addr} {xs : List V} : SqL K H a xs → TyOf K H (.ref a) (.type "list")
  | tup {a : Addr} {xs : List V} : SqT K H a xs → TyOf K H (.ref a) (.type "tuple")
  | ins {a C dx : Addr} {fs : List (Str × V)} : H a = some (.ins C dx fs) → TyOf K H (.ref a) (.ref C)
section
variable {X : Cx} {pins : List (Addr × Obj)} {σ : L2.St} {H : Hp} {s : Shared}
theorem TyOf.looks {y : V} {tb u : Value} (t : TyOf X.K H y tb) (I : Inv X pins σ H s) (r : RelV y u) (M : Model) : PySem.W.Looks M s.heap (typeOf u) tb := by
  cases t with
  | non =>
    cases r
    exact .of_pure rfl
  | bl b =>
    cases r
    exact .of_pure rfl
  | int i =>
    obtain ⟨t, rfl⟩ := r
    exact .of_pure rfl
  | str z =>
    obtain ⟨t, rfl⟩ := r
    exact .of_pure rfl
  | lst h =>
    cases r
    obtain ⟨its, _, pl, _⟩ := I.list h
    obtain ⟨o, ho, hc, _⟩ := pl.isList
    exact hc ▸ (PySem.W.Looks.ld ho).andThen .now
  | tup h =>
    cases r
    obtain ⟨its, _, pl, _⟩ := I.tuple h
    obtain ⟨o, ho, hc, _⟩ := pl
    exact hc ▸ (PySem.W.Looks.ld ho).andThen .now
  | ins h =>
    cases r
    obtain ⟨mA, J, _⟩ := ins_get I.hok h
    obtain ⟨od, J, _⟩ := J.look
    exact J.type
/-- an own ==, as its def promises -/
def rEqO (K : PySem.W.Frag) (C : Addr) (sp : Sp) (E : XK) : R2 := fun x y H Q => ∃ (a dx : Addr) (fs : List (Str × V)) (tb : Value), x = .ref a ∧ H a = some (.ins C dx fs) ∧ TyOf K H y tb ∧ PySem.W.notFirst K C tb = true ∧ sp [x, y] H (fun v H' => ∃ b : Bool, v = .bl b ∧ Q (.bl b) H') E
theorem op_eqO {CX : CXT} {C f : Addr} {fd : FuncData} {ps : List Str} {sp : Sp} {E : XK} {n : Nat} (F : FnOk X.prog X.w X.K X.mg X.base CX n f fd ps sp)
    (hs : PySem.W.findIn X.K (.ref C) "__eq__" = some (some (.ref f))) (hf : PySem.W.isFn X.K (.ref f) = true) (hb : Binds X.K fd ps []) (hx : Passes CX X E) (hr : Room n X.A) : OpR X (compareOp .Eq) (rEqO X.K C sp E) := by
  intro pins s σ H x y v u Q I rx ry h
  obtain ⟨a, dx, fs, tb, rfl, ha, ty, nf, hsp⟩ := h
  cases rx
  obtain ⟨mA, J, _⟩ := ins_get I.hok ha
  obtain ⟨od, J, _⟩ := J.look
  obtain ⟨m, hF⟩ := I.fr
  show wpAny (model X.prog X.w) X.A (richCompare .Eq (.ref a) u) (EP X pins σ Q) X.xe s
  refine PySem.W.cmp_K (op := .Eq) (tb := tb) hr.units0 hF I.ok.mod.kin J (ty.looks I ry _) nf hs hf ?_
  have hl := F.len _ _ _ _ hsp
  have r2 : Vals [V.ref a, y] [Value.ref a, u] := .cons rfl (.cons ry .nil)
  refine wpAny_call (codeAny_mono (F.run X.A X.stack s H ⟨[.ref a, u], []⟩ [.ref a, u] [.ref a, y] _ E hr I.env0 (by
    have := hb s [.ref a, u] I.kIn (by simpa using hl)
    simpa using this) r2 hsp) fun r s' hq => ?_)
  cases r with
  | error e => exact hx pins σ H s e s' I hq
  | ok fl =>
    cases fl with
    | ret w =>
      obtain ⟨z, H', I', rz, b, ez, q⟩ := I.after hq
      subst ez
      cases rz
      exact ⟨.bl b, H', I', rfl, q⟩
    | next => exact False.elim hq
    | brk => exact False.elim hq
    | cont => exact False.elim hq
/-- != of an own class with its own ==, by object's __ne__ -/
theorem ifBound_objNe {M : Model} {A : Around} {E : Value → Shared → Prop} {s : Shared} {K : PySem.W.Frag} {x C : Addr} {ox : Obj} {od : Option Obj} {args : List Value} {Q : Option Value → Shared → Prop} (X : K.In s.heap) (I : PySem.W.InstAt s.heap x ox C od) (hs : PySem.W.findIn K (.ref C) "__ne__" = some (some (.builtin "object.__ne__")))
    (h : wpAny M A (call (.builtin "object.__ne__") (.ref x :: args)) (fun v => Q (some v)) E s) : wpAny M A (callSpecialIfBound? (.ref x) "__ne__" args) Q E s := by
  simp only [callSpecialIfBound?, bindSpecialIfBound?]
  refine wpAny_holding (wpAny_bind (wpAny_bind (wpAny_bind (I.type.here ((PySem.W.looks_findIn X hs).here ?_)))))
  refine wpAny_bind (wpAny_askSetting (wpAny_ite ?_))
  have fin : wpAny M A (call (.builtin "object.__ne__") ([.ref x] ++ args) >>= fun v => pure (some v)) Q E s := wpAny_bind (wpAny_mono h (fun v s' h' => wpAny_pure h') fun _ _ h' => h')
  split
  · exact wpAny_bind (wpAny_of_eq (F.cmp_object.ne.bind _) (wpAny_pure (by exact fin)))
  · exact wpAny_tryCatch (wpAny_bind (wpAny_of_eq (F.cmp_object.ne.bind _) (wpAny_pure (by exact fin))))
def rNeO (K : PySem.W.Frag) (C : Addr) (sp : Sp) (E : XK) : R2 := fun x y H Q => ∃ (a dx : Addr) (fs : List (Str × V)) (tb : Value), x = .ref a ∧ H a = some (.ins C dx fs) ∧ TyOf K H y tb ∧ PySem.W.notFirst K C tb = true ∧ sp [x, y] H (fun v H' => ∃ b : Bool, v = .bl b ∧ Q (.bl (!b)) H') E
theorem op_neO {CX : CXT} {C f : Addr} {fd : FuncData} {ps : List Str} {sp : Sp} {E : XK} {n : Nat} (F1 : FnOk X.prog X.w X.K X.mg X.base CX n f fd ps sp)
    (hm : PySem.W.mroIn X.K C (.type "object") = some true) (hn : PySem.W.findIn X.K (.ref C) "__ne__" = some (some (.builtin "object.__ne__")))
    (hs : PySem.W.findIn X.K (.ref C) "__eq__" = some (some (.ref f))) (hf : PySem.W.isFn X.K (.ref f) = true) (hb : Binds X.K fd ps []) (hx : Passes CX X E) (hr : Room (n + 1) X.A) : OpR X (compareOp .NotEq) (rNeO X.K C sp E) := by
  intro pins s σ H x y v u Q I rx ry h
  obtain ⟨a, dx, fs, tb, rfl, ha, ty, nf, hsp⟩ := h
  cases rx
  obtain ⟨mA, J, _⟩ := ins_get I.hok ha
  obtain ⟨od, J, _⟩ := J.look
  have sb : Sub X n X.A.in1 := Sub.in1 ⟨hr, rfl⟩
  have kin := I.kIn
  have own : wpAny (model X.prog X.w) X.A.in1 (call (.ref f) [.ref a, u]) (fun r s' => ∃ b : Bool, r = .bool b ∧ EP X pins σ Q (.bool (!b)) s') X.xe s := by
    have e0 : Env0 X.prog X.w X.K X.mg X.base X.A.in1 X.stack s H := by
      have e := I.env0
      exact ⟨by rw [sb.fr]; exact e.frames, e.mod, e.bs, e.bsz, e.funs, e.frf, e.hok, e.bare⟩
    have hl := F1.len _ _ _ _ hsp
    have r2 : Vals [V.ref a, y] [Value.ref a, u] := .cons rfl (.cons ry .nil)
    refine wpAny_call (codeAny_mono (F1.run X.A.in1 X.stack s H ⟨[.ref a, u], []⟩ [.ref a, u] [.ref a, y] _ E sb.room e0 (by
      have := hb s [.ref a, u] I.kIn (by simpa using hl)
      simpa using this) r2 hsp) fun r s' hq => ?_)
    cases r with
    | error e => exact hx pins σ H s e s' I hq
    | ok fl =>
      cases fl with
      | ret w =>
        obtain ⟨z, H', I', rz, b, ez, q⟩ := I.after hq
        subst ez
        cases rz
        exact ⟨b, rfl, .bl (!b), H', I', rfl, q⟩
      | next => exact False.elim hq
      | brk => exact False.elim hq
      | cont => exact False.elim hq
  have entry : wpAny (model X.prog X.w) X.A.in1 (Builtin.«object.__ne__» ⟨[.ref a, u], []⟩) (fun fin s' => ∃ b : Bool, fin = .done (.ret (.bool (!b))) ∧ EP X pins σ Q (.bool (!b)) s') X.xe s := by
    have two : wpAny (model X.prog X.w) X.A.in1 (callSpecialIfBound? (.ref a) "__eq__" [u]) (fun r s' => ∃ b : Bool, r = some (.bool b) ∧ EP X pins σ Q (.bool (!b)) s') X.xe s :=
      PySem.W.ifBound_K kin J hs hf (wpAny_mono own (fun r s' z => by
        obtain ⟨b, rfl, q⟩ := z
        exact ⟨b, rfl, q⟩) fun _ _ e => e)
    have hu : X.A.in1.units < cLine := sb.room.units0
    unfold Builtin.«object.__ne__»
    repeat (first | with_reducible refine wpAny_cRoomFor hu ?_ | with_reducible refine wpAny_mono two (fun r s' z => ?_) (fun _ _ e => e) | wp_step)
    obtain ⟨b, rfl, q⟩ := z
    refine wpAny_bind (wpAny_truthy_bool (wpAny_pure ?_))
    exact ⟨b, rfl, q⟩
  have one : wpAny (model X.prog X.w) X.A (tryCompare (.ref a) "__ne__" u) (fun r s' => ∃ w, r = some w ∧ EP X pins σ Q w s') X.xe s := by
    unfold tryCompare
    refine wpAny_bind (ifBound_objNe kin J hn (wpAny_call (codeAny_call_builtin F.cmp_object.ne.plain F.cmpEntry_ne (PySem.W.check_slot F.cmpKind_ne F.cmpSplit_ne (J.type.andThen (PySem.W.looks_mroIn kin hm)) (F.cmpArgs_ne _ _) (wpAny_mono entry (fun fin s' z => ?_) fun _ _ e => ?_)))))
    · obtain ⟨b, rfl, q⟩ := z
      exact wpAny_pure ⟨.bool (!b), rfl, q⟩
    · exact e
  have hty := ty.looks I ry (model X.prog X.w)
  have hu0 : X.A.units < cLine := hr.units0
  show wpAny (model X.prog X.w) X.A (richCompare .NotEq (.ref a) u) (EP X pins σ Q) X.xe s
  unfold richCompare
  simp only [oneThing_ref]
  refine wpAny_holding (wpAny_bind (wpAny_cRoomFor hu0 ?_))
  refine wpAny_bind (J.type.here (wpAny_bind (hty.here ?_)))
  split
  · rename_i q
    have e : PySem.W.subIn X.K tb (.ref C) = some false := by
      rcases Bool.or_eq_true_iff.mp nf with e | e
      · rw [beq_iff_eq.mp e] at q; simp at q
      · exact beq_iff_eq.mp e
    refine wpAny_bind ((PySem.W.looks_subIn kin e).here ?_)
    simp only [Bool.false_eq_true, if_false]
    refine wpAny_bind (wpAny_mono one (fun r s' z => ?_) fun _ _ e => e)
    obtain ⟨v, rfl, hq⟩ := z
    exact wpAny_pure hq
  · refine wpAny_bind (wpAny_pure ?_)
    simp only [Bool.false_eq_true, if_false]
    refine wpAny_bind (wpAny_mono one (fun r s' z => ?_) fun _ _ e => e)
    obtain ⟨v, rfl, hq⟩ := z
    exact wpAny_pure hq
end
end G58

set_option Elab.async false
set_option linter.all false
set_option pp.maxSteps 2500
set_option maxRecDepth 100000
set_option maxHeartbeats 1000000
/-! A lambda as a value that is kept: its function object is known. -/
namespace G58
open PySem PySem.Spec PyProof.Rows L2 LamX
/-- the function object of a lambda -/
def LamO (f c' : Addr) (q : Str) (params : Arguments) (body : Expr) (scope : Scope) (cl : List (Str × Addr)) : HO := .ext fun h => ∃ pm ctv, h.get? f = some (PySem.W.kla_obj "<lambda>" q params body scope cl pm c' ctv)
section
variable {X : Cx} {pins : List (Addr × Obj)} {σ : L2.St} {H : Hp} {s : Shared}
theorem lam_laid {f c' : Addr} {q : Str} {params : Arguments} {body : Expr} {scope : Scope} {cl : List (Str × Addr)} {pm ctv : Value} {t' : Nat} (I : Inv X pins σ H s) (hf : s.heap.objs.size = f) (nf : H f = none) :
    Inv X pins σ (upd H f (LamO f c' q params body scope cl)) { s with heap := s.heap.push (PySem.W.kla_obj "<lambda>" q params body scope cl pm c' ctv), toks := t' } := by
  subst hf
  refine I.laid (fun b o e => Heap.get?_push_of_some _ e) (Nat.le_refl _) ?_
  exact ⟨⟨pm, ctv, Heap.get?_push_size _ rfl⟩, ⟨_, Heap.get?_push_size _ rfl⟩, fun h1 h2 ⟨a, b, e⟩ st => ⟨a, b, st _ e⟩⟩
/-- the lambda is made; its function object is known -/
theorem lam_make3 {T : List (Addr × Str)} {c P : Addr} {params : Arguments} {body : Expr} {scope : Scope} {pos : Pos} {E : Value → Shared → Prop} {Q : Value → Shared → Prop} (I : Inv X pins σ H s) (TB : TabB X.base X.mg c P) (hcode : X.env.code = .ref c)
    (hm : (P, X.env.qual ++ "<lambda>") ∈ T) (hu : ∀ p ∈ T, p.1 = P → p.2 = X.env.qual ++ "<lambda>") (hT : Tabs T H) (hdef : defaultsOf params X.env = ([], [])) (hfree : ∀ y ∈ scope.names, y.2 = .free → ∃ c, X.env.cells.lookup y.1 = some c)
    (h : ∀ (f c' : Addr) (H1 : Hp) (s' : Shared), Inv X pins σ H1 s' → ExtN H H1 → Tabs T H1 →
      H1 f = some (LamO f c' (X.env.qual ++ "<lambda>") params body scope (cloFrom X.env.cells scope.names [])) → H1 c' = some (CodeO c' (X.env.qual ++ "<lambda>")) → Q (.ref f) s') :
    wpAny (model X.prog X.w) X.A (eval (.Lambda params body scope pos) X.env) Q E s := by
  obtain ⟨ps, hP, ht, ha⟩ := hT _ hm
  refine PySem.W.kla_eval hdef ?_
  have bP : s.heap.BuiltinsAt X.mg P := TB.bm.keeps I.bk
  have hP' : s.heap.get? P = some { cls := .none, data := .fields ps } := I.hok P _ hP
  have lamne : ∀ f c' (ps : Array Value), LamO f c' (X.env.qual ++ "<lambda>") params body scope (cloFrom X.env.cells scope.names []) ≠ .tbl ps := fun f c' ps z => by
    unfold LamO at z
    cases z
  cases hc : codeAmong pos ps.toList with
  | none =>
    refine PySem.W.kla_makeFunction (mg := X.mg) (c := c) (P := P) (ps := ps) (closure_ok hfree) I.ok.glob (I.mod.glob.keeps I.bk) hcode (TB.code.keeps I.bk) hP' ht hc TB.gP bP fun c' ctv h' tk hx hge hlt hrec htb => ?_
    obtain ⟨c2, oc, vs, t, e2, hoc, hd, hv⟩ := hrec
    cases e2
    have hsz : s.heap.objs.size ≤ h'.objs.size := Nat.le_trans hge (Nat.le_of_lt hlt)
    have nC : H c' = none := I.hok.fresh hge
    have I1 := inv_table (t' := tk) (more := #[rawInt pos.line, rawInt pos.col, .ref c']) (h' := h') I hP hx htb hge ⟨oc, vs, t, hoc, hd, hv⟩
    have hE : ExtN H (upd (upd H P (.tbl (ps ++ #[rawInt pos.line, rawInt pos.col, .ref c']))) c' (CodeO c' (X.env.qual ++ "<lambda>"))) := fun b o e n => by
      rw [upd_ne (ne_of_none e nC), upd_ne (fun z => n ps (Option.some.inj (e.symm.trans (by rw [z]; exact hP))))]
      exact e
    have eL : (ps ++ #[rawInt pos.line, rawInt pos.col, .ref c']).toList = ps.toList ++ [rawInt pos.line, rawInt pos.col, .ref c'] := by simp
    have T1 : Tabs T (upd (upd H P (.tbl (ps ++ #[rawInt pos.line, rawInt pos.col, .ref c']))) c' (CodeO c' (X.env.qual ++ "<lambda>"))) := fun p hp => by
      by_cases hb : p.1 = P
      · rw [hu p hp hb, hb]
        refine ⟨_, by rw [upd_ne (ne_of_none hP nC), upd_same], by rw [eL]; exact PySem.TriplesOk_snoc _ _ _ _ ht, fun p' cv hcv => ?_⟩
        rw [eL] at hcv
        rcases among_app _ ht hcv with z | z
        · obtain ⟨c0, e1, e2⟩ := ha p' cv z
          exact ⟨c0, e1, hE _ _ e2 codeO_ne⟩
        · exact ⟨c', z, upd_same⟩
      · obtain ⟨ps', a1, a2, a3⟩ := hT p hp
        refine ⟨ps', by rw [upd_ne (ne_of_none a1 nC), upd_ne hb]; exact a1, a2, fun p' cv hcv => ?_⟩
        obtain ⟨c0, e1, e2⟩ := a3 p' cv hcv
        exact ⟨c0, e1, hE _ _ e2 codeO_ne⟩
    have eCo : (upd (upd H P (.tbl (ps ++ #[rawInt pos.line, rawInt pos.col, .ref c']))) c' (CodeO c' (X.env.qual ++ "<lambda>"))) c' = some (CodeO c' (X.env.qual ++ "<lambda>")) := upd_same
    generalize upd (upd H P (.tbl (ps ++ #[rawInt pos.line, rawInt pos.col, .ref c']))) c' (CodeO c' (X.env.qual ++ "<lambda>")) = HX at I1 hE T1 eCo
    have nf : HX h'.objs.size = none := I1.hok.fresh (Nat.le_refl _)
    have I2 := lam_laid (f := h'.objs.size) (c' := c') (q := X.env.qual ++ "<lambda>") (params := params) (body := body) (scope := scope) (cl := cloFrom X.env.cells scope.names []) (pm := (X.mg "__name__").getD .none) (ctv := ctv) (t' := tk) I1 rfl nf
    have e2 : ∀ b o, HX b = some o → (upd HX h'.objs.size (LamO h'.objs.size c' (X.env.qual ++ "<lambda>") params body scope (cloFrom X.env.cells scope.names []))) b = some o := fun b o e => by
      rw [upd_ne (ne_of_none e nf)]
      exact e
    exact h h'.objs.size c' _ _ I2 (hE.trans (ExtN.of e2)) (T1.ext e2) upd_same (e2 _ _ eCo)
  | some cv =>
    obtain ⟨c', e, hco⟩ := ha pos cv hc
    subst e
    refine PySem.W.kla_makeFunctionHit (mg := X.mg) (c := c) (P := P) (ps := ps) (closure_ok hfree) I.ok.glob (I.mod.glob.keeps I.bk) hcode (TB.code.keeps I.bk) hP' ht hc bP fun ctv h' tk hx hsz => ?_
    have I1 : Inv X pins σ H { s with heap := h' } := I.kept (t' := s.toks) hx
    have nf : H h'.objs.size = none := I1.hok.fresh (Nat.le_refl _)
    have I2 := lam_laid (f := h'.objs.size) (c' := c') (q := X.env.qual ++ "<lambda>") (params := params) (body := body) (scope := scope) (cl := cloFrom X.env.cells scope.names []) (pm := (X.mg "__name__").getD .none) (ctv := ctv) (t' := tk) I1 rfl nf
    have e2 : ∀ b o, H b = some o → (upd H h'.objs.size (LamO h'.objs.size c' (X.env.qual ++ "<lambda>") params body scope (cloFrom X.env.cells scope.names []))) b = some o := fun b o e => by
      rw [upd_ne (ne_of_none e nf)]
      exact e
    exact h h'.objs.size c' _ _ I2 (ExtN.of e2) (hT.ext e2) upd_same (e2 _ _ hco)
/-- lambda: e, as a value -/
def tLamO (q : Str) (cells : List (Str × Addr)) (T : List (Addr × Str)) (params : Arguments) (body : Expr) (scope : Scope) : TE := fun _ H Q => Tabs T H ∧ ∀ (f c' : Addr) (H1 : Hp), ExtN H H1 → Tabs T H1 → H1 f = some (LamO f c' q params body scope (cloFrom cells scope.names [])) → H1 c' = some (CodeO c' q) → Q (.ref f) H1
theorem pe_lamO {T : List (Addr × Str)} {c P : Addr} {params : Arguments} {body : Expr} {scope : Scope} {pos : Pos} (TB : TabB X.base X.mg c P) (hcode : X.env.code = .ref c)
    (hm : (P, X.env.qual ++ "<lambda>") ∈ T) (hu : ∀ p ∈ T, p.1 = P → p.2 = X.env.qual ++ "<lambda>") (hdef : defaultsOf params X.env = ([], [])) (L : LamS X.env.scope scope) :
    PE X (.Lambda params body scope pos) (tLamO (X.env.qual ++ "<lambda>") X.env.cells T params body scope) :=
  ⟨fun pins s σ H Q I h => lam_make3 I TB hcode hm hu h.1 hdef (L.has I.ok) fun f c' H1 s' I1 eN T1 hf hc => ⟨.ref f, H1, I1, rfl, h.2 f c' H1 eN T1 hf hc⟩⟩
/-- a lambda of this frame that an expression gives, called -/
theorem pe_callL {fe : Expr} {tf : TE} {E : XK} {k : Nat} {pos : Pos} {ok : Addr → Hp → TE → Prop} (hf : PE X fe tf)
    (hA : ∀ f H te, ok f H te → ∃ (c' : Addr) (params : Arguments) (body : Expr) (scope : Scope), H f = some (LamO f c' (X.env.qual ++ "<lambda>") params body scope (cloFrom X.env.cells scope.names [])) ∧ H c' = some (CodeO c' (X.env.qual ++ "<lambda>")) ∧ LamS X.env.scope scope ∧
      (∀ (pm cv ctv : Value), bindArgs (PySem.W.kla_fn "<lambda>" (X.env.qual ++ "<lambda>") params body scope (cloFrom X.env.cells scope.names []) pm cv ctv) ⟨[], []⟩ = pure []) ∧
      ∀ (A : Around) (outer : List Env) (s : Shared) (H : Hp), Room k (A.deeper (lamEnv X scope s.heap.objs.size f c')) → PE (lamCx X A outer s H E scope f c') body te)
    (hr : Room (k + 1) X.A) (hx : Passes (L2.CX X.prog X.w) X E)
    (ht : eval (.Call fe [] [] pos) X.env = (do
      let f ← eval fe X.env
      callWith pos f [] (backTo pos (starEach [] X.env)) (backToKw pos (keywordEach [] X.env))) := by rfl) :
    PE X (.Call fe [] [] pos) (fun σ H Q => tf σ H fun v H1 => ∃ f te, v = .ref f ∧ ok f H1 te ∧ te σ H1 Q) := by
  refine ⟨fun pins s σ H Q I h => ?_⟩
  rw [ht]
  refine wpAny_bind (thn (hf.run pins s σ H _ I h) fun u s1 ⟨v, H1, I1, r1, f, te, ev, hok, q1⟩ => ?_)
  subst ev
  cases r1
  obtain ⟨c', params, body, scope, hl, hc, L, hbind, hbody⟩ := hA f H1 te hok
  obtain ⟨⟨pm, ctv, of1⟩, _, _⟩ := I1.hok f _ hl
  obtain ⟨⟨oc, vs, t, hoc, hdc, hvc⟩, _, _⟩ := I1.hok c' _ hc
  refine PySem.W.callWith_F0 ⟨_, _, _, _, of1⟩ ?_
  have rc : codeAny (model X.prog X.w) X.A (.call (.ref f) ⟨[], []⟩) (CR (L2.CX X.prog X.w) X.stack X.prog X.w H1 s1 Q E) s1 := by
    refine PySem.W.kla_callFunE hr.depth of1 rfl L.co L.gen rfl ⟨c', oc, vs, t, rfl, hoc, hdc, hvc⟩ ?_
    rw [hbind]
    refine wpAny_pure (wpAny_newFunctionEnv (fun y hy => (L.own y hy).2) (fun y hy => absurd hy (by simp)) (fun h₁ hns hsb => ⟨I1.nolimit.fresh _ hsb, ?_⟩) L.kind)
    show codeAny _ _ (.expr body (lamEnv X scope s1.heap.objs.size f c')) _ _
    have kp : ∀ b o, s1.heap.get? b = some o → h₁.get? b = some o := fun b o e => hsb.extBut b o (Nat.ne_of_lt (Heap.lt_size e)) (Heap.get?_push_of_some _ e)
    have J : Inv (lamCx X X.A X.stack s1 H1 E scope f c') [] σ H1 { s1 with heap := h₁, toks := s1.toks + ([] : List (Str × Value)).length } :=
      lam_start2 I1 L I1.env0 hr.hd (Un.kept fun _ _ e => e) hns kp
    refine PySem.W.kla_codeExpr (wpAny_mono ((hbody _ _ s1 H1 (hr.deeper _)).run [] _ _ H1 Q J q1) (fun v s' hq => ?_) fun e s' hq => hq)
    obtain ⟨w', H', J', rv, q⟩ := hq
    exact ⟨w', H', J'.os, J'.bare, J'.base, J'.hok, rv, q⟩
  refine wpAny_call (codeAny_mono rc fun r s' hq => ?_)
  cases r with
  | error e => exact hx pins σ H1 s1 e s' I1 hq
  | ok fl =>
    cases fl with
    | ret u => exact I1.after hq
    | next => exact False.elim hq
    | brk => exact False.elim hq
    | cont => exact False.elim hq
end
end G58

set_option Elab.async false
set_option linter.all false
set_option maxRecDepth 100000
set_option maxHeartbeats 4000000
/-! The entry of a law with one table of code objects, no guard on the stack. -/
namespace G58
open PySem PySem.Spec PyProof.Rows L2 LamX
/-- the law, called with no guard on the stack; the table at pT of the code object at cc is known -/
theorem law_callGT {P : Program} {w : World} {K : PySem.W.Frag} {mg mb : Str → Option Value} {k : Nat} {fa a cc pT : Addr} {fd : FuncData} {x : Str} {sp : Sp} {s₁ : Shared} {vs : List Value} {ns : List Int}
    (KX : K.In s₁.heap) (hns : s₁.heap.Ns mainGlobals mg) (hb : s₁.heap.Ns builtinsNs mb) (hbb : ∀ x : Str, x ≠ "__name__" → mb x = bootBuiltins x) (hlim : s₁.heap.NoLimit) (hg : s₁.gens = #[])
    (hP : s₁.heap.get? pT = some { cls := .none, data := .fields #[] }) (nP : K.lookup pT = none) (hC : PySem.W.CodeHd s₁.heap cc pT)
    (hbm : ∃ (bm : Addr) (ob : Obj), mg "__builtins__" = some (.ref bm) ∧ bm ≠ builtinsNs ∧ s₁.heap.get? bm = some ob ∧ ob.cls = .type "module" ∧ ob.dict = some builtinsNs ∧ ob.data = .plain)
    (ha : s₁.heap.get? a = some { cls := .type "list", data := .seq vs.toArray }) (hi : IntsAre vs ns) (hl : ns.length ≤ sizeLine) (hr : Room k callerA)
    (F : ∀ base : Heap, K.In base → base.Ns mainGlobals mg → TabB base mg cc pT → FnG P w K mg base CX0 k fa fd [x] sp) (hbind : ∀ (s : Shared) (u : Value), BindsTo s fd ⟨[u], []⟩ [(x, u)])
    (hsp : ∀ H : Hp, H pT = some (.tbl #[]) → SqL K H a (ns.map V.int) → sp [.ref a] H (fun v _ => v = .bl true) fun _ _ _ => False) :
    codeAny (model P w) callerA (.call (.ref fa) ⟨[.ref a], []⟩) (fun r s' => r = .ok (.ret (.bool true)) ∧ OldK s₁.heap s'.heap ∧ s'.os = s₁.os ∧ AllBare s'.gens) s₁ := by
  have rv := vals_ints hi
  have lv := hi.length
  have naP : a ≠ pT := fun z => by
    rw [z, hP] at ha
    injection ha with ha
    injection ha with _ _ ha
    cases ha
  have core : ∀ H : Hp, H pT = some (.tbl #[]) → SqL K H a (ns.map V.int) → HOk P w H s₁.heap → (∀ b o, H b = some o → (b = pT ∧ o = .tbl #[]) ∨ (b = a ∧ K.lookup a = none ∧ ∃ ob, o = .frz ob (.lst (ns.map V.int)))) →
      codeAny (model P w) callerA (.call (.ref fa) ⟨[.ref a], []⟩) (fun r s' => r = .ok (.ret (.bool true)) ∧ OldK s₁.heap s'.heap ∧ s'.os = s₁.os ∧ AllBare s'.gens) s₁ := by
    intro H hHT hS hok hA
    have low : ∀ {b : Addr} {o : Obj}, s₁.heap.get? b = some o → (∀ us n, o.data ≠ .seq us n) → o.data ≠ .fields #[] → (hidT s₁.heap H).get? b = some o := fun {b o} e n1 n2 => hidT_get e (by
      cases q : H b with
      | none => rfl
      | some u =>
        rcases hA b u q with ⟨z, _⟩ | ⟨z, _⟩
        · rw [z, hP] at e
          cases e
          exact absurd rfl n2
        · rw [z, ha] at e
          cases e
          exact absurd rfl (n1 _ _))
    have ns' : ∀ {b : Addr} {m : Str → Option Value}, s₁.heap.Ns b m → (hidT s₁.heap H).Ns b m := fun {b m} ⟨o, es, ep, e, d, r⟩ => ⟨o, es, ep, low e (fun us n z => by rw [d] at z; cases z) (fun z => by rw [d] at z; cases z), d, r⟩
    have kIn : K.In (hidT s₁.heap H) := fun b o e => hidT_get (KX b o e) (by
      cases q : H b with
      | none => rfl
      | some u =>
        rcases hA b u q with ⟨z, _⟩ | ⟨z, hk, _⟩
        · rw [z, nP] at e
          cases e
        · rw [z, hk] at e
          cases e)
    obtain ⟨mc, l1, l2⟩ := hlim
    have md : L2.Mod K mg (hidT s₁.heap H) := ⟨kIn, ns' hns, ⟨mb, ns' hb, hbb⟩, ⟨mc, ns' l1, l2⟩⟩
    have tb : TabB (hidT s₁.heap H) mg cc pT := by
      refine ⟨?_, ?_, fun z => ?_⟩
      · obtain ⟨o, us, file, tf, flags, tg, inF, text, tt, e1, r1, r2, r3, r⟩ := hC
        refine ⟨o, us, file, tf, flags, tg, inF, text, tt, low e1 (fun us' n z => by rw [r2] at z; cases z) (fun z => ?_), r1, r2, r3, r⟩
        rw [r2] at z
        injection z with z
        rw [z] at r3
        cases r3
      · obtain ⟨bm, ob, b1, b2, b3, b4, b5, b6⟩ := hbm
        refine ⟨bm, ob, b1, b2, fun q => ?_, fun q => ?_, low b3 (fun us n z => by rw [b6] at z; cases z) (fun z => by rw [b6] at z; cases z), b4, b5, b6⟩
        · obtain ⟨o, es, ep, e, hd, _⟩ := hns
          rw [q, e] at b3
          cases b3
          rw [hd] at b6
          cases b6
        · rw [q, hP] at b3
          cases b3
          cases b6
      · obtain ⟨o, es, ep, e, hd, _⟩ := hns
        rw [z, hP] at e
        cases e
        cases hd
    have e0 : Env0 P w K mg (hidT s₁.heap H) callerA [] s₁ H := ⟨rfl, md, fun b o e => of_hidT e, Nat.le_of_eq (hidT_size _ _), trivial, (fun b z => nomatch z), hok, .of_eq hg⟩
    refine codeAny_mono ((F _ kIn (ns' hns) tb).run callerA [] s₁ H ⟨[.ref a], []⟩ [.ref a] [.ref a] _ _ rfl hr e0 (hbind s₁ (.ref a)) (.cons rfl .nil) (hsp H hHT hS)) fun r s' h => ?_
    cases r with
    | error e => exact h.elim
    | ok fl =>
      cases fl with
      | next => exact h.elim
      | brk => exact h.elim
      | cont => exact h.elim
      | ret u =>
        obtain ⟨v, H', os, bare, un, hok', r', q⟩ := h
        have q' : v = .bl true := q
        subst q'
        obtain rfl : u = Value.bool true := r'
        obtain ⟨more, hm⟩ := un.tbls pT #[] hHT
        have tab2 : s'.heap.get? pT = some { cls := .none, data := .fields (#[] ++ more) } := hok' pT _ hm
        rw [Array.empty_append] at tab2
        have same : ∀ b o, b ≠ pT → s₁.heap.get? b = some o → s'.heap.get? b = some o := fun b o nb e => by
          cases q : H b with
          | none => exact un.keep b o e q (fun z => nomatch z) (fun z => nomatch z)
          | some u =>
            rcases hA b u q with ⟨z, _⟩ | ⟨_, _, ob, rfl⟩
            · exact absurd z nb
            · obtain ⟨e1, _⟩ := hok b _ q
              obtain ⟨e2, _⟩ := hok' b _ (un.frzs b ob _ q)
              rw [e] at e1
              cases e1
              exact e2
        refine ⟨rfl, ⟨fun b o e => ?_, fun b o e => ?_⟩, os, bare⟩
        · by_cases hb : b = pT
          · rw [hb] at e ⊢
            rw [hP] at e
            cases e
            exact .inr (.inl ⟨(hC.tab hP).isCodeTable, rfl, #[], more, rfl, by rw [Array.empty_append]; exact tab2⟩)
          · exact .inl (same b o hb e)
        · by_cases hb : b = pT
          · rw [hb]
            exact ⟨_, tab2⟩
          · exact ⟨o, same b o hb e⟩
  cases hk : K.lookup a with
  | some o =>
    have e := KX a o hk
    rw [ha] at e
    cases e
    refine core (fun b => if b = pT then some (.tbl #[]) else none) (if_pos rfl) (.inr ⟨_, vs.toArray, _, hk, rfl, rfl, rfl, by rw [List.size_toArray, lv]; exact hl, by simpa using rv⟩) (fun b u z => ?_) (fun b o z => ?_)
    · by_cases hb : b = pT
      · have z' := (if_pos hb).symm.trans z
        cases z'
        rw [hb]
        exact hP
      · have z' := (if_neg hb).symm.trans z
        cases z'
    · by_cases hb : b = pT
      · have z' := (if_pos hb).symm.trans z
        cases z'
        exact .inl ⟨hb, rfl⟩
      · have z' := (if_neg hb).symm.trans z
        cases z'
  | none =>
    refine core (fun b => if b = a then some (.frz { cls := .type "list", data := .seq vs.toArray } (.lst (ns.map V.int))) else if b = pT then some (.tbl #[]) else none) ((if_neg (Ne.symm naP)).trans (if_pos rfl)) (.inl (.inr ⟨{ cls := .type "list", data := .seq vs.toArray }, if_pos rfl⟩)) (fun b u z => ?_) (fun b o z => ?_)
    · by_cases hb : b = a
      · have z' := (if_pos hb).symm.trans z
        cases z'
        rw [hb]
        exact ⟨ha, by rw [List.length_map]; exact hl, vs, _, rv, ha⟩
      · have z1 := (if_neg hb).symm.trans z
        by_cases hb2 : b = pT
        · have z' := (if_pos hb2).symm.trans z1
          cases z'
          rw [hb2]
          exact hP
        · have z' := (if_neg hb2).symm.trans z1
          cases z'
    · by_cases hb : b = a
      · have z' := (if_pos hb).symm.trans z
        cases z'
        exact .inr ⟨hb, hk, _, rfl⟩
      · have z1 := (if_neg hb).symm.trans z
        by_cases hb2 : b = pT
        · have z' := (if_pos hb2).symm.trans z1
          cases z'
          exact .inl ⟨hb2, rfl⟩
        · have z' := (if_neg hb2).symm.trans z1
          cases z'
/-- what the top must have written for such a law -/
def LawGT (l : PySem.W.OpenLaw) (w : World) (K : PySem.W.Frag) (k n : Nat) (x : Str) (mg : Str → Option Value) (fa : Addr) (h : Heap) : Prop :=
  ∃ (fd : FuncData) (cc pT : Addr) (sp : Sp), h.get? pT = some { cls := .none, data := .fields #[] } ∧ K.lookup pT = none ∧ PySem.W.CodeHd h cc pT ∧ (∀ (s : Shared) (u : Value), BindsTo s fd ⟨[u], []⟩ [(x, u)]) ∧
    (∀ (H : Hp) (a : Addr) (ns : List Int), ns.length ≤ n → H pT = some (.tbl #[]) → SqL K H a (ns.map V.int) → sp [.ref a] H (fun v _ => v = .bl true) fun _ _ _ => False) ∧
    ∀ base : Heap, K.In base → base.Ns mainGlobals mg → TabB base mg cc pT → FnG l.prog w K mg base CX0 k fa fd [x] sp
theorem walk_GTE {l : PySem.W.OpenLaw} {n k : Nat} {q : Program} {loose : List Str} {XP : (Str → Option Value) → Heap → Prop} {YP : World → Heap → Prop} {d : DefRec} {x : Str}
    (hn : l.most = some n) (hn2 : n ≤ sizeLine) (hdf : d.params.defaults = []) (hr : Room k callerA)
    (F : ∀ (w : World) (mg : Str → Option Value) (fa : Addr) (h : Heap), YP w h → h.Ns mainGlobals mg → mg d.name = some (.ref fa) → ∃ K : PySem.W.Frag, K.In h ∧ LawGT l w K k n x mg fa h) :
    PySem.W.WalkO q loose XP YP l.row.toRowW d [] (fun f vs => PySem.call f vs) :=
  Att.attach_callB hn hdf fun w s₀ s₁ mg mb fa o pm cd doc a vs ns G Y _ _ _ hmg hobj hints hlen _ hg => by
    obtain ⟨K, KX, fd, cc, pT, sp, hP, nP, hC, hb, hsp, hF⟩ := F w mg fa _ Y G.T.g hmg
    exact law_callGT KX G.T.g G.T.b G.T.builtins G.T.nolimit hg hP nP hC G.T.bmain hobj hints (Nat.le_trans hlen hn2) hr hF hb fun H hT hS => hsp H a ns hlen hT hS
end G58

set_option Elab.async false
set_option linter.all false
set_option pp.maxSteps 2500
set_option maxRecDepth 100000
set_option maxHeartbeats 4000000
/-! k01: arguments, the checks of the package. -/
namespace G58
open PySem PySem.Spec PyProof.Rows L2 LamX
def rTupB (K : PySem.W.Frag) : List V → Hp → VK → Prop := fun xs H Q => ∃ p ys, xs = [.ref p] ∧ SqB K H p ys ∧ ∀ t H', Same H H' → SqT K H' t ys → Q (.ref t) H'
theorem call_tupB {X : Cx} : CallR X (.type "tuple") (rTupB X.K) := by
  intro pins s σ H xs us Q Iv r h
  obtain ⟨p, ys, e, hb, q⟩ := h
  exact call_tuple_of pins s σ H xs us Q Iv r ⟨p, ys, e, hb.imp (fun c => ⟨c, fun l hl => q l _ (same_new (Same.refl H) hl) (.inl (.inl upd_same))⟩) (fun c => ⟨c, q p H (Same.refl H) c⟩)⟩
theorem ExtN.same {H H1 H2 : Hp} (x : ExtN H H1) (y : Same H1 H2) : ExtN H H2 := x.trans (.of y)
theorem sqL_x {K : PySem.W.Frag} {H H' : Hp} {a : Addr} {xs : List V} (h : SqL K H a xs) (e : ExtN H H') : SqL K H' a xs := by
  rcases h with (h | ⟨o, h⟩) | h
  · exact .inl (.inl (e _ _ h fun ps z => nomatch z))
  · exact .inl (.inr ⟨o, e _ _ h fun ps z => nomatch z⟩)
  · exact .inr h
theorem sqT_x {K : PySem.W.Frag} {H H' : Hp} {a : Addr} {xs : List V} (h : SqT K H a xs) (e : ExtN H H') : SqT K H' a xs := by
  rcases h with (h | ⟨o, h⟩) | h
  · exact .inl (.inl (e _ _ h fun ps z => nomatch z))
  · exact .inl (.inr ⟨o, e _ _ h fun ps z => nomatch z⟩)
  · exact .inr h
theorem sqB_x {K : PySem.W.Frag} {H H' : Hp} {a : Addr} {xs : List V} (h : SqB K H a xs) (e : ExtN H H') : SqB K H' a xs := h.imp (fun h => sqL_x h e) fun h => sqT_x h e
theorem sqL_ty {K : PySem.W.Frag} {H : Hp} {a : Addr} {xs : List V} (h : SqL K H a xs) : TyX K H (.ref a) (.type "list") := by
  rcases h with (h | ⟨o, h⟩) | ⟨o, its, n, h, hc, _⟩
  · exact .base (.lst h)
  · exact .base (.frz h)
  · exact .kList h hc
theorem sqT_ty {K : PySem.W.Frag} {H : Hp} {a : Addr} {xs : List V} (h : SqT K H a xs) : TyX K H (.ref a) (.type "tuple") := by
  rcases h with (h | ⟨o, h⟩) | ⟨o, its, n, h, hc, _⟩
  · exact .base (.tup h)
  · exact .fTuple h
  · exact .kTuple h hc
theorem tyX_x {K : PySem.W.Frag} {H H' : Hp} {v : V} {t : Value} (h : TyX K H v t) (e : ExtN H H') : TyX K H' v t := by
  cases h with
  | base b =>
    cases b with
    | non => exact .base .non
    | bl y => exact .base (.bl y)
    | int i => exact .base (.int i)
    | str y => exact .base (.str y)
    | flt y => exact .base (.flt y)
    | lst h => exact .base (.lst (e _ _ h fun ps z => nomatch z))
    | frz h => exact .base (.frz (e _ _ h fun ps z => nomatch z))
    | tup h => exact .base (.tup (e _ _ h fun ps z => nomatch z))
    | dK h => exact .base (.dK (e _ _ h fun ps z => nomatch z))
    | dT h => exact .base (.dT (e _ _ h fun ps z => nomatch z))
    | ins h c1 c2 c3 c4 c5 => exact .base (.ins (e _ _ h fun ps z => nomatch z) c1 c2 c3 c4 c5)
  | byt b => exact .byt b
  | set h => exact .set (e _ _ h fun ps z => nomatch z)
  | kList h c => exact .kList h c
  | kTuple h c => exact .kTuple h c
  | kDict h c => exact .kDict h c
  | fTuple h => exact .fTuple (e _ _ h fun ps z => nomatch z)
  | fDict h => exact .fDict (e _ _ h fun ps z => nomatch z)
/-- an item of a row: an integer, or of another kind -/
def ItOk (K : PySem.W.Frag) (H : Hp) (v : V) : Prop := (∃ i, v = .int i) ∨ ((∀ i, v ≠ .int i) ∧ ∃ n, TyX K H v (.type n) ∧ n ∈ ["NoneType", "bool", "str", "dict", "list", "tuple"])
theorem ItOk.extN {K : PySem.W.Frag} {H H' : Hp} {v : V} (h : ItOk K H v) (e : ExtN H H') : ItOk K H' v := h.imp id fun ⟨a, n, b, c⟩ => ⟨a, n, tyX_x b e, c⟩
def isIn (lo hi : Int) : V → Bool
  | .int i => decide (lo ≤ i) && decide (i ≤ hi)
  | _ => false
theorem isIn_not {lo hi : Int} {v : V} (h : ∀ i, v ≠ .int i) : isIn lo hi v = false := by
  cases v with
  | int i => exact absurd rfl (h i)
  | _ => rfl
def isI : V → Bool
  | .int _ => true
  | _ => false
theorem isI_not {v : V} (h : ∀ i, v ≠ .int i) : isI v = false := by
  cases v with
  | int i => exact absurd rfl (h i)
  | _ => rfl
def plainI (n : Int) : Bool := decide (32 ≤ n) && decide (n ≤ 126) && !decide (n = 37)
def spIsi (K : PySem.W.Frag) : Sp := fun vs H Q _ => ∃ v, vs = [v] ∧ ItOk K H v ∧ Q (.bl (isI v)) H
def spBtw (K : PySem.W.Frag) : Sp := fun vs H Q _ => ∃ (v : V) (lo hi : Int), vs = [v, .int lo, .int hi] ∧ ItOk K H v ∧ Q (.bl (isIn lo hi v)) H
/-- what is handed in: a number, a list or tuple, something else -/
inductive Arg where
  | num (n : Int)
  | row (xs : List V)
  | oth
def ArgAt (K : PySem.W.Frag) (H : Hp) (v : V) : Arg → Prop
  | .num n => v = .int n
  | .row xs => ∃ p, v = .ref p ∧ SqB K H p xs ∧ xs.length ≤ 100000 ∧ ∀ x ∈ xs, ItOk K H x
  | .oth => (∀ i, v ≠ .int i) ∧ ∃ n, TyX K H v (.type n) ∧ n ∈ ["NoneType", "bool", "str", "dict"]
theorem ArgAt.extN {K : PySem.W.Frag} {H H' : Hp} {v : V} : ∀ {g : Arg}, ArgAt K H v g → ExtN H H' → ArgAt K H' v g
  | .num _, h, _ => h
  | .row _, ⟨p, a, b, c, d⟩, e => ⟨p, a, sqB_x b e, c, fun x hx => (d x hx).extN e⟩
  | .oth, ⟨a, n, b, c⟩, e => ⟨a, n, tyX_x b e, c⟩
theorem ArgAt.it {K : PySem.W.Frag} {H : Hp} {v : V} : ∀ {g : Arg}, ArgAt K H v g → ItOk K H v
  | .num n, h => .inl ⟨n, h⟩
  | .row _, ⟨p, a, b, c, d⟩ => by
    subst a
    refine .inr ⟨fun i z => (nomatch z), ?_⟩
    rcases b with b | b
    · exact ⟨_, sqL_ty b, by simp⟩
    · exact ⟨_, sqT_ty b, by simp⟩
  | .oth, ⟨a, n, b, c⟩ => .inr ⟨a, n, b, by
    simp only [List.mem_cons, List.not_mem_nil, or_false] at c
    rcases c with rfl | rfl | rfl | rfl <;> simp⟩
def Arg.btw (lo hi : Int) : Arg → Bool
  | .row xs => xs.all (isIn lo hi)
  | _ => false
theorem kLT {K : PySem.W.Frag} {n : String} {b1 b2 : Bool} (h1 : kitB n "list" = some b1) (h2 : kitB n "tuple" = some b2) : PySem.W.kitAny K (.type n) [.type "list", .type "tuple"] = some (b1 || b2) := by
  refine kitAny_cons (kit_ty h1) (fun e => ?_) fun e => by rw [e]; rfl
  refine kitAny_cons (kit_ty h2) (fun e2 => ?_) fun e2 => by rw [e2, Bool.or_true]
  rw [e, e2]
  rfl
def spArb (K : PySem.W.Frag) : Sp := fun vs H Q _ => ∃ (v : V) (g : Arg) (lo hi : Int), vs = [v, .int lo, .int hi] ∧ ArgAt K H v g ∧ ∀ H', Same H H' → Q (.bl (g.btw lo hi)) H'
def spArp (K : PySem.W.Frag) : Sp := fun vs H Q _ => ∃ (p : Addr) (ns : List Int), vs = [.ref p] ∧ SqB K H p (ns.map V.int) ∧ ns.length ≤ 100000 ∧ ∀ H', Same H H' → Q (.bl (ns.all plainI)) H'
section
variable {P : Program} {w : World} {K : PySem.W.Frag} {mg : Str → Option Value} {base : Heap} {a : Ad}
theorem scIsi : FnScope ["thing"] ["thing"] (defScope sIsi) := ⟨rfl, rfl, rfl, by decide +kernel, rfl, by decide +kernel, by decide +kernel⟩
theorem ok_isi (D : Df K a) (T : Txt K mg a) : FnOk P w K mg base CX0 1 a.fIsi D.dIsi ["thing"] (spIsi K) := by
  refine D.FIsi.ok scIsi (fun vs H Q E h => ?_) (fun cdv A outer s H vs Q E hr h => ?_)
  · obtain ⟨v, rfl, _⟩ := h
    rfl
  · obtain ⟨v, rfl, h, k⟩ := h
    refine ⟨_, (pss_one (ps_ret (pe_and (pe_callB call_isi (by rfl) T.bisinstance (by decide +kernel) (pa_cons (pv 0) (pa_cons (pe_bltn (v := .ty "int") rfl T.bint (by decide +kernel) rfl) pa_nil))) (pe_one (pe_not (pe_callB call_isi (by rfl) T.bisinstance (by decide +kernel) (pa_cons (pv 0) (pa_cons (pe_bltn (v := .ty "bool") rfl T.bbool (by decide +kernel) rfl) pa_nil)))))))), ?_⟩
    rcases h with ⟨i, rfl⟩ | ⟨hn, n, ty, hm⟩
    · refine ⟨_, rfl, .int i, .ty "int", _, _, true, rfl, .ty _, .base (.int i), kit_ty (by decide +kernel), true, rfl, iteT ?_⟩
      exact ⟨_, rfl, .int i, .ty "bool", _, _, false, rfl, .ty _, .base (.int i), kit_ty (by decide +kernel), false, rfl, k⟩
    · rw [isI_not hn] at k
      simp only [List.mem_cons, List.not_mem_nil, or_false] at hm
      rcases hm with rfl | rfl | rfl | rfl | rfl | rfl
      · exact ⟨_, rfl, v, .ty "int", _, _, false, rfl, .ty _, ty, kit_ty (by decide +kernel), false, rfl, iteF k⟩
      · refine ⟨_, rfl, v, .ty "int", _, _, true, rfl, .ty _, ty, kit_ty (by decide +kernel), true, rfl, iteT ?_⟩
        exact ⟨_, rfl, v, .ty "bool", _, _, true, rfl, .ty _, ty, kit_ty (by decide +kernel), true, rfl, k⟩
      · exact ⟨_, rfl, v, .ty "int", _, _, false, rfl, .ty _, ty, kit_ty (by decide +kernel), false, rfl, iteF k⟩
      · exact ⟨_, rfl, v, .ty "int", _, _, false, rfl, .ty _, ty, kit_ty (by decide +kernel), false, rfl, iteF k⟩
      · exact ⟨_, rfl, v, .ty "int", _, _, false, rfl, .ty _, ty, kit_ty (by decide +kernel), false, rfl, iteF k⟩
      · exact ⟨_, rfl, v, .ty "int", _, _, false, rfl, .ty _, ty, kit_ty (by decide +kernel), false, rfl, iteF k⟩
theorem scIsb : FnScope ["thing", "least", "most"] ["thing", "least", "most"] (defScope sIsb) := ⟨rfl, rfl, rfl, by decide +kernel, rfl, by decide +kernel, by decide +kernel⟩
theorem ok_isb (D : Df K a) (T : Txt K mg a) : FnOk P w K mg base CX0 2 a.fIsb D.dIsb ["thing", "least", "most"] (spBtw K) := by
  have GIsi : FnOk P w K mg base CX0 1 a.fIsi D.dIsi ["thing"] (spIsi K) := ok_isi D T
  refine D.FIsb.ok scIsb (fun vs H Q E h => ?_) (fun cdv A outer s H vs Q E hr h => ?_)
  · obtain ⟨v, lo, hi, rfl, _⟩ := h
    rfl
  · obtain ⟨v, lo, hi, rfl, h, k⟩ := h
    refine ⟨_, (pss_one (ps_ret (pe_and (pe_call GIsi hr rfl T.gIsi D.FIsi.kp D.bIsi .nil pass0 (pa_cons (pv 0) pa_nil)) (pe_one (pe_chain op_le op_le (pv 1) (pv 0) (pv 2)))))), ?_⟩
    refine ⟨_, rfl, v, rfl, h, _, rfl, ?_⟩
    rcases h with ⟨i, rfl⟩ | ⟨hn, _⟩
    · refine iteT ⟨_, rfl, _, rfl, _, _, rfl, rfl, _, rfl, ?_⟩
      have k : Q (.bl (decide (lo ≤ i) && decide (i ≤ hi))) H := k
      by_cases c1 : lo ≤ i
      · rw [decide_eq_true c1]
        rw [decide_eq_true c1, Bool.true_and] at k
        exact iteT ⟨_, rfl, _, _, rfl, rfl, k⟩
      · rw [decide_eq_false c1]
        rw [decide_eq_false c1, Bool.false_and] at k
        exact iteF k
    · rw [isI_not hn]
      rw [isIn_not hn] at k
      exact iteF k
theorem scArb : FnScope ["things", "least", "most", "one"] ["things", "least", "most"] (defScope sArb) := ⟨rfl, rfl, rfl, by decide +kernel, rfl, by decide +kernel, by decide +kernel⟩
theorem ok_arb (D : Df K a) (T : Txt K mg a) : FnOk P w K mg base CX0 3 a.fArb D.dArb ["things", "least", "most"] (spArb K) := by
  have GIsb : FnOk P w K mg base CX0 2 a.fIsb D.dIsb ["thing", "least", "most"] (spBtw K) := ok_isb D T
  refine D.FArb.ok scArb (fun vs H Q E h => ?_) (fun cdv A outer s H vs Q E hr h => ?_)
  · obtain ⟨v, g, lo, hi, rfl, _⟩ := h
    rfl
  · obtain ⟨v, g, lo, hi, rfl, h, k⟩ := h
    refine ⟨_, (pss_one (ps_ret (pe_and (pe_callB call_isiT (by rfl) T.bisinstance (by decide +kernel) (pa_cons (pv 0) (pa_cons (pe_tup (pa_cons (pe_bltn (v := .ty "list") rfl T.blist (by decide +kernel) rfl) (pa_cons (pe_bltn (v := .ty "tuple") rfl T.btuple (by decide +kernel) rfl) pa_nil))) pa_nil))) (pe_one (pe_callB (cr_all rfl) (by rfl) T.ball (by decide +kernel) (pa_cons (pe_lc (te := tCall (spBtw K) [] E0 (tCons (tVar 3) (tCons (tVar 1) (tCons (tVar 2) tNil)))) (own := [("one", 3)]) (g := (gName 3)) (tt := tYes) rfl scArb.nd (pi_or (pi_list (pv 0)) (pi_tup (pv 0))) (blkOk_by (N := ["things", "least", "most", "one"]) (sc := defScope sArb) (by decide +kernel)) (fun _ _ _ _ _ => (pg_name (i := 3) scArb.nd rfl (.inl rfl))) (fun _ _ _ _ _ => pts_nil) (fun _ _ _ _ _ => (pe_call GIsb hr rfl T.gIsb D.FIsb.kp D.bIsb .nil pass0 (pa_cons (pv 3) (pa_cons (pv 1) (pa_cons (pv 2) pa_nil)))))) pa_nil)))))), ?_⟩
    obtain ⟨n, b1, b2, ty, e1, e2, cs⟩ : ∃ (n : String) (b1 b2 : Bool), TyX K H v (.type n) ∧ kitB n "list" = some b1 ∧ kitB n "tuple" = some b2 ∧ (((b1 || b2) = false ∧ g.btw lo hi = false) ∨ ((b1 || b2) = true ∧ ∃ p xs, g = .row xs ∧ v = .ref p ∧ SqB K H p xs ∧ xs.length ≤ 100000 ∧ ∀ x ∈ xs, ItOk K H x)) := by
      cases g with
      | num n =>
        cases (show v = .int n from h)
        exact ⟨"int", false, false, .base (.int n), by decide +kernel, by decide +kernel, .inl ⟨rfl, rfl⟩⟩
      | row xs =>
        obtain ⟨p, rfl, hS, hl, hi⟩ := h
        rcases hS with hS | hS
        · exact ⟨"list", true, false, sqL_ty hS, by decide +kernel, by decide +kernel, .inr ⟨rfl, p, xs, rfl, rfl, .inl hS, hl, hi⟩⟩
        · exact ⟨"tuple", false, true, sqT_ty hS, by decide +kernel, by decide +kernel, .inr ⟨rfl, p, xs, rfl, rfl, .inr hS, hl, hi⟩⟩
      | oth =>
        obtain ⟨_, n, ty, hm⟩ := h
        simp only [List.mem_cons, List.not_mem_nil, or_false] at hm
        rcases hm with rfl | rfl | rfl | rfl
        · exact ⟨_, false, false, ty, by decide +kernel, by decide +kernel, .inl ⟨rfl, rfl⟩⟩
        · exact ⟨_, false, false, ty, by decide +kernel, by decide +kernel, .inl ⟨rfl, rfl⟩⟩
        · exact ⟨_, false, false, ty, by decide +kernel, by decide +kernel, .inl ⟨rfl, rfl⟩⟩
        · exact ⟨_, false, false, ty, by decide +kernel, by decide +kernel, .inl ⟨rfl, rfl⟩⟩
    refine ⟨_, rfl, by show 2 ≤ sizeLine; decide, fun t ht => ?_⟩
    have s1 := same_new (o := .tup [V.ty "list", V.ty "tuple"]) (Same.refl H) ht
    have et : (upd H t (.tup [V.ty "list", V.ty "tuple"])) t = some (.tup [V.ty "list", V.ty "tuple"]) := upd_same
    generalize upd H t (.tup [V.ty "list", V.ty "tuple"]) = H1 at s1 et ⊢
    refine ⟨v, t, _, _, _, b1 || b2, rfl, et, .cons (.ty _) (.cons (.ty _) .nil), tyX_x ty (.of s1), kLT e1 e2, _, rfl, ?_⟩
    rcases cs with ⟨e, eg⟩ | ⟨e, p, xs, rfl, rfl, hS, hl, hit⟩
    · rw [e]
      rw [eg] at k
      exact iteF (k H1 s1)
    rw [e]
    have step : ∀ (DL : Addr), H1 DL = none → ∀ (i : Nat) (y : V) (H2 : Hp), i < xs.length → (H2 DL = some (.lst (((xs.take i).map (isIn lo hi)).map V.bl)) ∧ Same H1 H2) → xs[i]? = some y → (tCall (spBtw K) [] E0 (tCons (tVar 3) (tCons (tVar 1) (tCons (tVar 2) tNil)))) [some (.ref p), some (.int lo), some (.int hi), some y] H2 (fun y H4 => ∃ acc, H4 DL = some (.lst acc) ∧ acc.length < sizeLine ∧ (upd H4 DL (.lst (acc ++ [y]))) DL = some (.lst (((xs.take (i + 1)).map (isIn lo hi)).map V.bl)) ∧ Same H1 (upd H4 DL (.lst (acc ++ [y])))) := by
      intro DL hDL i y H2 hi2 ⟨e1, s2⟩ hy
      refine ⟨_, rfl, _, rfl, _, rfl, y, lo, hi, rfl, (hit y (List.mem_of_getElem? hy)).extN (.of (s1.trans s2)), _, e1, ?_, ?_, fun b o e => ?_⟩
      · rw [List.length_map, List.length_map, List.length_take]
        exact Nat.lt_of_le_of_lt (by omega : _ ≤ 100000) (by decide)
      · rw [upd_same, List.take_add_one, hy, List.map_append, List.map_append]
        rfl
      · rw [upd_ne (ne_of_none e hDL)]
        exact s2 _ _ e
    have last : ∀ (DL : Addr) (H2 : Hp), (H2 DL = some (.lst (((xs.take xs.length).map (isIn lo hi)).map V.bl)) ∧ Same H1 H2) → ∃ (q : Addr) (bs : List Bool), [V.ref DL] = [V.ref q] ∧ SqL K H2 q (bs.map V.bl) ∧ Q (.bl (bs.all id)) H2 := by
      intro DL H2 ⟨e1, s2⟩
      rw [List.take_length] at e1
      refine ⟨DL, _, rfl, .inl (.inl e1), ?_⟩
      rw [List.all_map]
      exact k H2 (s1.trans s2)
    refine iteT ?_
    rcases hS with hS | hS
    · refine .inl ⟨_, rfl, p, rfl, ⟨_, s1.seq hS⟩, fun DL hDL => lc_it (walk_list (K := K) (a := p) (xs := xs)) (fun i H' => H' DL = some (.lst (((xs.take i).map (isIn lo hi)).map V.bl)) ∧ Same H1 H') ⟨by rw [List.take_zero]; exact upd_same, same_new (Same.refl H1) hDL⟩ (fun _ _ _ q => Same.seq (s1.trans q.2) hS) ?_ ?_⟩
      · rintro i y H1' H2 hi2 q ⟨rfl, hy⟩
        exact ⟨rfl, step DL hDL i y H2 hi2 q hy⟩
      · rintro H2 q
        exact last DL H2 q
    · refine .inr ⟨_, rfl, p, rfl, ⟨_, Same.tup s1 hS⟩, fun DL hDL => lc_it (walk_tup (K := K) (a := p) (xs := xs)) (fun i H' => H' DL = some (.lst (((xs.take i).map (isIn lo hi)).map V.bl)) ∧ Same H1 H') ⟨by rw [List.take_zero]; exact upd_same, same_new (Same.refl H1) hDL⟩ (fun _ _ _ q => Same.tup (s1.trans q.2) hS) ?_ ?_⟩
      · rintro i y H1' H2 hi2 q ⟨rfl, hy⟩
        exact ⟨rfl, step DL hDL i y H2 hi2 q hy⟩
      · rintro H2 q
        exact last DL H2 q
theorem scArp : FnScope ["units", "unit"] ["units"] (defScope sArp) := ⟨rfl, rfl, rfl, by decide +kernel, rfl, by decide +kernel, by decide +kernel⟩
theorem ok_arp (D : Df K a) (T : Txt K mg a) : FnOk P w K mg base CX0 1 a.fArp D.dArp ["units"] (spArp K) := by
  refine D.FArp.ok scArp (fun vs H Q E h => ?_) (fun cdv A outer s H vs Q E hr h => ?_)
  · obtain ⟨p, ns, rfl, _⟩ := h
    rfl
  · obtain ⟨p, ns, rfl, hS, hl, k⟩ := h
    refine ⟨_, (pss_one (ps_ret (pe_callB (cr_all rfl) (by rfl) T.ball (by decide +kernel) (pa_cons (pe_lc (own := [("unit", 1)]) (g := (gName 1)) (tt := tYes) rfl scArp.nd (pi_or (pi_list (pv 0)) (pi_tup (pv 0))) (blkOk_by (N := ["units", "unit"]) (sc := defScope sArp) (by decide +kernel)) (fun _ _ _ _ _ => (pg_name (i := 1) scArp.nd rfl (.inl rfl))) (fun _ _ _ _ _ => pts_nil) (fun _ _ _ _ _ => (pe_and (pe_chain op_le op_le pe_int (pv 1) pe_int) (pe_one (pe_cmpR op_ne (pv 1) pe_int (nomark _)))))) pa_nil)))), ?_⟩
    have step : ∀ (DL : Addr), H DL = none → ∀ (i : Nat) (y : V) (H1 : Hp), i < (ns.map V.int).length → (H1 DL = some (.lst (((ns.take i).map plainI).map V.bl)) ∧ Same H H1) → (ns.map V.int)[i]? = some y → ∃ n, y = .int n ∧ ∃ acc, H1 DL = some (.lst acc) ∧ acc.length < sizeLine ∧ (upd H1 DL (.lst (acc ++ [.bl (plainI n)]))) DL = some (.lst (((ns.take (i + 1)).map plainI).map V.bl)) ∧ Same H (upd H1 DL (.lst (acc ++ [.bl (plainI n)]))) := by
      intro DL hDL i y H1 hi ⟨e1, s1⟩ hy
      rw [List.getElem?_map] at hy
      obtain ⟨n, hn, rfl⟩ := Option.map_eq_some_iff.mp hy
      refine ⟨n, rfl, _, e1, ?_, ?_, fun b o e => ?_⟩
      · rw [List.length_map, List.length_map, List.length_take]
        exact Nat.lt_of_le_of_lt (by omega : _ ≤ 100000) (by decide)
      · rw [upd_same, List.take_add_one, hn, List.map_append, List.map_append]
        rfl
      · rw [upd_ne (ne_of_none e hDL)]
        exact s1 _ _ e
    have last : ∀ (DL : Addr) (H1 : Hp), (H1 DL = some (.lst (((ns.take (ns.map V.int).length).map plainI).map V.bl)) ∧ Same H H1) → ∃ (q : Addr) (bs : List Bool), [V.ref DL] = [V.ref q] ∧ SqL K H1 q (bs.map V.bl) ∧ Q (.bl (bs.all id)) H1 := by
      intro DL H1 ⟨e1, s1⟩
      rw [List.length_map, List.take_length] at e1
      refine ⟨DL, _, rfl, .inl (.inl e1), ?_⟩
      rw [List.all_map]
      exact k H1 s1
    rcases hS with hS | hS
    · refine .inl ⟨_, rfl, p, rfl, ⟨_, hS⟩, fun DL hDL => lc_it (walk_list (K := K) (a := p) (xs := ns.map V.int)) (fun i H' => H' DL = some (.lst (((ns.take i).map plainI).map V.bl)) ∧ Same H H') ⟨by rw [List.take_zero]; exact upd_same, same_new (Same.refl H) hDL⟩ (fun _ _ _ q => Same.seq q.2 hS) ?_ ?_⟩
      · rintro i y H1' H1 hi q ⟨rfl, hy⟩
        obtain ⟨n, rfl, fin⟩ := step DL hDL i y H1 hi q hy
        have eU : plainI n = (decide (32 ≤ n) && decide (n ≤ 126) && !decide (n = 37)) := rfl
        refine ⟨rfl, ⟨_, rfl, _, _, rfl, rfl, _, rfl, ?_⟩⟩
        by_cases c1 : 32 ≤ n
        · rw [decide_eq_true c1]
          refine iteT ⟨_, _, rfl, rfl, _, rfl, ?_⟩
          by_cases c2 : n ≤ 126
          · rw [decide_eq_true c2]
            refine iteT ⟨_, rfl, rfl, ?_⟩
            have e3 : (!decide (V.int n = V.int 37)) = plainI n := by
              rw [eU, decide_eq_true c1, decide_eq_true c2]
              simp only [Bool.true_and]
              rw [show decide (V.int n = V.int 37) = decide (n = 37) from decide_eq_decide.mpr ⟨fun h => V.int.inj h, fun h => by rw [h]⟩]
            rw [e3]
            exact fin
          · rw [decide_eq_false c2]
            refine iteF ?_
            have e3 : false = plainI n := by
              rw [eU, decide_eq_false c2, Bool.and_false, Bool.false_and]
            rw [e3]
            exact fin
        · rw [decide_eq_false c1]
          refine iteF ⟨_, rfl, iteF ?_⟩
          have e3 : false = plainI n := by
            rw [eU, decide_eq_false c1, Bool.false_and, Bool.false_and]
          rw [e3]
          exact fin
      · rintro H1 q
        exact last DL H1 q
    · refine .inr ⟨_, rfl, p, rfl, ⟨_, hS⟩, fun DL hDL => lc_it (walk_tup (K := K) (a := p) (xs := ns.map V.int)) (fun i H' => H' DL = some (.lst (((ns.take i).map plainI).map V.bl)) ∧ Same H H') ⟨by rw [List.take_zero]; exact upd_same, same_new (Same.refl H) hDL⟩ (fun _ _ _ q => Same.tup q.2 hS) ?_ ?_⟩
      · rintro i y H1' H1 hi q ⟨rfl, hy⟩
        obtain ⟨n, rfl, fin⟩ := step DL hDL i y H1 hi q hy
        have eU : plainI n = (decide (32 ≤ n) && decide (n ≤ 126) && !decide (n = 37)) := rfl
        refine ⟨rfl, ⟨_, rfl, _, _, rfl, rfl, _, rfl, ?_⟩⟩
        by_cases c1 : 32 ≤ n
        · rw [decide_eq_true c1]
          refine iteT ⟨_, _, rfl, rfl, _, rfl, ?_⟩
          by_cases c2 : n ≤ 126
          · rw [decide_eq_true c2]
            refine iteT ⟨_, rfl, rfl, ?_⟩
            have e3 : (!decide (V.int n = V.int 37)) = plainI n := by
              rw [eU, decide_eq_true c1, decide_eq_true c2]
              simp only [Bool.true_and]
              rw [show decide (V.int n = V.int 37) = decide (n = 37) from decide_eq_decide.mpr ⟨fun h => V.int.inj h, fun h => by rw [h]⟩]
            rw [e3]
            exact fin
          · rw [decide_eq_false c2]
            refine iteF ?_
            have e3 : false = plainI n := by
              rw [eU, decide_eq_false c2, Bool.and_false, Bool.false_and]
            rw [e3]
            exact fin
        · rw [decide_eq_false c1]
          refine iteF ⟨_, rfl, iteF ?_⟩
          have e3 : false = plainI n := by
            rw [eU, decide_eq_false c1, Bool.false_and, Bool.false_and]
          rw [e3]
          exact fin
      · rintro H1 q
        exact last DL H1 q
end
end G58

set_option Elab.async false
set_option linter.all false
set_option pp.maxSteps 2500
set_option maxRecDepth 100000
set_option maxHeartbeats 4000000
/-! k01: the constructors, facts, ==. -/
namespace G58
open PySem PySem.Spec PyProof.Rows L2 LamX
/-- the five classes -/
inductive Wy where
  | w | d | u | r | t
def Wy.cls (a : Ad) : Wy → Addr
  | .w => a.cWide
  | .d => a.cData
  | .u => a.cUid
  | .r => a.cReal
  | .t => a.cDate
def Wy.fld : Wy → Str
  | .w => "units"
  | .u => "number"
  | _ => "octets"
def Wy.num : Wy → Nat
  | .w => 0
  | .d => 1
  | .u => 2
  | .r => 3
  | .t => 4
def plainV : V → Bool
  | .int n => plainI n
  | _ => false
def Arg.good : Wy → Arg → Bool
  | .w, .row xs => xs.all (isIn 0 65535) && !xs.all plainV
  | .d, .row xs => xs.all (isIn 0 255)
  | .u, .num n => decide (0 ≤ n) && decide (n ≤ 18446744073709551615)
  | .r, .row xs => xs.all (isIn 0 255) && (decide (xs.length = 4) || decide (xs.length = 8))
  | .t, .row xs => xs.all (isIn 0 255) && decide (xs.length = 8)
  | _, _ => false
def FldAt (K : PySem.W.Frag) (H : Hp) (v : V) : Arg → Prop
  | .num n => v = .int n
  | .row xs => ∃ t, v = .ref t ∧ SqT K H t xs
  | .oth => False
theorem FldAt.extN {K : PySem.W.Frag} {H H' : Hp} {v : V} : ∀ {g : Arg}, FldAt K H v g → ExtN H H' → FldAt K H' v g
  | .num _, h, _ => h
  | .row _, ⟨p, a, b⟩, e => ⟨p, a, sqT_x b e⟩
  | .oth, h, _ => h
/-- a thing in memory -/
def ThAt (K : PySem.W.Frag) (a : Ad) (H : Hp) (p : Addr) (y : Wy) (g : Arg) : Prop := ∃ dx v, H p = some (.ins (y.cls a) dx [(y.fld, v)]) ∧ FldAt K H v g
theorem ThAt.extN {K : PySem.W.Frag} {a : Ad} {H H' : Hp} {p : Addr} {y : Wy} {g : Arg} (h : ThAt K a H p y g) (e : ExtN H H') : ThAt K a H' p y g := by
  obtain ⟨dx, v, h1, h2⟩ := h
  exact ⟨dx, v, e _ _ h1 (fun ps z => nomatch z), h2.extN e⟩
def pthF (t : Addr) : List (Str × V) := [("path", .ref t)]
def OutV (K : PySem.W.Frag) (a : Ad) (H : Hp) (E : XK) : Prop := ∀ d t H', Same H H' → H' d = some (.xd (pthF t)) → SqT K H' t [] → E (.ref a.cNoValue) (some d) H'
theorem OutV.same {K : PySem.W.Frag} {a : Ad} {H H1 : Hp} {E : XK} (h : OutV K a H E) (s : Same H H1) : OutV K a H1 E := fun d t H' s2 e1 e2 => h d t H' (s.trans s2) e1 e2
def spEV (K : PySem.W.Frag) (C : Addr) : Sp := fun vs H Q _ => ∃ (x t : Addr), vs = [.ref x, .ref t] ∧ SqT K H t [] ∧ H x = some (exo x C none) ∧ ∀ t' H', Same H H' → SqT K H' t' [] → ∀ dx, H' dx = none → dx ≠ x → Q .non (upd (upd H' dx (exd dx (pthF t'))) x (exo x C (some dx)))
def spRef (K : PySem.W.Frag) (a : Ad) : Sp := fun vs H Q E => ∃ b : Bool, vs = [.bl b] ∧ (b = true → Q .non H) ∧ (b = false → OutV K a H E)
/-- all is kept but what is at x -/
def ButX (x : Addr) (H H' : Hp) : Prop := ∀ b o, H b = some o → b ≠ x → H' b = some o
def spInit (K : PySem.W.Frag) (a : Ad) (y : Wy) : Sp := fun vs H Q E => ∃ (x dx : Addr) (v : V) (g : Arg), vs = [.ref x, v] ∧ H x = some (.ins (y.cls a) dx []) ∧ ArgAt K H v g ∧ (g.good y = true → ∀ H' v', ButX x H H' → H' x = some (.ins (y.cls a) dx [(y.fld, v')]) → FldAt K H' v' g → Q .non H') ∧ (g.good y = false → OutV K a H E)
theorem sqT_upd {K : PySem.W.Frag} {H : Hp} {t x : Addr} {xs : List V} {C dx : Addr} {fs : List (Str × V)} {o : HO} (h : SqT K H t xs) (hx : H x = some (.ins C dx fs)) : SqT K (upd H x o) t xs := by
  rcases h with (h | ⟨ob, h⟩) | h
  · have n : t ≠ x := fun z => by
      rw [z, hx] at h
      cases h
    exact .inl (.inl (by rw [upd_ne n]; exact h))
  · have n : t ≠ x := fun z => by
      rw [z, hx] at h
      cases h
    exact .inl (.inr ⟨ob, by rw [upd_ne n]; exact h⟩)
  · exact .inr h
theorem fin_row {K : PySem.W.Frag} {H H2 : Hp} {x t C dx : Addr} {f : Str} {xs : List V} {R : Hp → Prop} (s : Same H H2) (hx : H x = some (.ins C dx [])) (ht : SqT K H2 t xs)
    (k : ∀ H' v', ButX x H H' → H' x = some (.ins C dx [(f, v')]) → FldAt K H' v' (.row xs) → R H') : R (upd H2 x (.ins C dx [(f, .ref t)])) :=
  k _ (.ref t) (fun b o e n => by
    rw [upd_ne n]
    exact s _ _ e) upd_same ⟨t, rfl, sqT_upd ht (s _ _ hx)⟩
theorem ints_of {lo hi : Int} : ∀ {xs : List V}, xs.all (isIn lo hi) = true → ∃ ns : List Int, xs = ns.map V.int ∧ ∀ n ∈ ns, lo ≤ n ∧ n ≤ hi
  | [], _ => ⟨[], rfl, fun _ z => nomatch z⟩
  | x :: xs, h => by
    rw [List.all_cons, Bool.and_eq_true] at h
    obtain ⟨ns, e, hn⟩ := ints_of h.2
    cases x with
    | int n =>
      have h1 : (decide (lo ≤ n) && decide (n ≤ hi)) = true := h.1
      rw [Bool.and_eq_true, decide_eq_true_eq, decide_eq_true_eq] at h1
      exact ⟨n :: ns, by rw [e]; rfl, fun m hm => by
        rcases List.mem_cons.mp hm with rfl | hm
        · exact h1
        · exact hn m hm⟩
    | _ => exact absurd h.1 Bool.false_ne_true
theorem plain_ints (ns : List Int) : (ns.map V.int).all plainV = ns.all plainI := by
  rw [List.all_map]
  rfl
theorem btw_row {g : Arg} {lo hi : Int} (h : g.btw lo hi = true) : ∃ xs, g = .row xs ∧ xs.all (isIn lo hi) = true := by
  cases g with
  | row xs => exact ⟨xs, rfl, h⟩
  | num n => exact absurd h Bool.false_ne_true
  | oth => exact absurd h Bool.false_ne_true
theorem in48 (n : Nat) : inV (.int (n : Nat)) [.int 4, .int 8] = (decide (n = 4) || decide (n = 8)) := by
  have e : ∀ a b : Int, eqV (.int a) (.int b) = decide (a = b) := fun a b => rfl
  have h : inV (.int (n : Nat)) [.int 4, .int 8] = (eqV (.int 4) (.int (n : Nat)) || (eqV (.int 8) (.int (n : Nat)) || false)) := rfl
  rw [h, e, e, Bool.or_false]
  exact congr (congrArg or (decide_eq_decide.mpr ⟨fun h => by omega, fun h => by omega⟩)) (decide_eq_decide.mpr ⟨fun h => by omega, fun h => by omega⟩)
theorem good_d (g : Arg) : g.good .d = g.btw 0 255 := by
  cases g <;> rfl
section
variable {P : Program} {w : World} {K : PySem.W.Frag} {mg : Str → Option Value} {base : Heap} {a : Ad}
theorem sciV : FnScope ["self", "path"] ["self", "path"] (defScope siV) := ⟨rfl, rfl, rfl, by decide +kernel, rfl, by decide +kernel, by decide +kernel⟩
theorem ok_iV (D : Df K a) (T : Txt K mg a) : FnOk P w K mg base CX0 1 a.fiV D.diV ["self", "path"] (spEV K a.cNoValue) := by
  refine D.FiV.ok sciV (fun vs H Q E h => ?_) (fun cdv A outer s H vs Q E hr h => ?_)
  · obtain ⟨x, t, rfl, _⟩ := h
    rfl
  · obtain ⟨x, t, rfl, ht, hx, k⟩ := h
    refine ⟨_, pss_one (ps_ost (pv 0) (pe_ifExp (pt_val (pe_callB call_isiT (by rfl) T.bisinstance (by decide +kernel) (pa_cons (pv 1) (pa_cons (pe_tup (pa_cons (pe_bltn (v := .ty "list") rfl T.blist (by decide +kernel) rfl) (pa_cons (pe_bltn (v := .ty "tuple") rfl T.btuple (by decide +kernel) rfl) pa_nil))) pa_nil)))) (pe_callTy call_tupB (by rfl) T.btuple (by decide +kernel) (pa_cons (pv 1) pa_nil)) (pv 1))), ?_⟩
    refine ⟨_, rfl, by show 2 ≤ sizeLine; decide, fun q hq => ?_⟩
    have s1 := same_new (o := .tup [V.ty "list", V.ty "tuple"]) (Same.refl H) hq
    have et : (upd H q (.tup [V.ty "list", V.ty "tuple"])) q = some (.tup [V.ty "list", V.ty "tuple"]) := upd_same
    generalize upd H q (.tup [V.ty "list", V.ty "tuple"]) = H1 at s1 et ⊢
    refine ⟨.ref t, q, _, _, _, true, rfl, et, .cons (.ty _) (.cons (.ty _) .nil), tyX_x (sqT_ty ht) (.of s1), kLT (by decide +kernel : kitB "tuple" "list" = some false) (by decide +kernel), _, rfl, iteT ?_⟩
    refine ⟨_, rfl, t, [], rfl, .inr (Same.tup s1 ht), fun t' H' s2 h2 => ?_⟩
    exact ⟨_, rfl, x, a.cNoValue, rfl, T.xNoValue.ox, T.noNoValue_path, .inl ⟨s2 _ _ (s1 _ _ hx), fun dx h3 h4 => k t' H' (s1.trans s2) h2 dx h3 h4⟩⟩
theorem mk_readV {C : Addr} {t : Addr} {H1 : Hp} {Qx : XK} (ht : SqT K H1 t []) (h : ∀ d t' H', Same H1 H' → H' d = some (.xd (pthF t')) → SqT K H' t' [] → Qx (.ref C) (some d) H') (x : Addr) (hx : H1 x = none) :
    spEV K C (.ref x :: ([.ref t] ++ [])) (upd H1 x (exo x C none)) (fun u H2 => u = .non ∧ ∃ (d : Addr) (fs : List (Str × V)), H2 x = some (exo x C (some d)) ∧ H2 d = some (exd d fs) ∧ H1 d = none ∧ Qx (.ref C) (some d) (upd (del H2 x) d (.xd fs))) (fun _ _ _ => False) := by
  have s0 := same_new (o := exo x C none) (Same.refl H1) hx
  refine ⟨x, t, rfl, Same.tup s0 ht, upd_same, fun t' H' s1 h2 dx h3 h4 => ?_⟩
  have hd : H1 dx = none := by
    cases e : H1 dx with
    | none => rfl
    | some o =>
      have := s1 _ _ (s0 _ _ e)
      rw [h3] at this
      cases this
  refine ⟨rfl, dx, pthF t', upd_same, by rw [upd_ne h4, upd_same], hd, ?_⟩
  have hxx : H' x = some (exo x C none) := s1 _ _ upd_same
  refine h dx t' _ (fun b o e => ?_) upd_same ?_
  · have n1 : b ≠ dx := ne_of_none e hd
    have n2 : b ≠ x := ne_of_none e hx
    rw [upd_ne n1, del_ne n2, upd_ne n2, upd_ne n1]
    exact s1 _ _ (s0 _ _ e)
  · rcases h2 with (h2 | ⟨o, h2⟩) | h2
    · have n1 : t' ≠ dx := ne_of_none h2 h3
      have n2 : t' ≠ x := fun z => by
        rw [z, hxx] at h2
        cases h2
      refine .inl (.inl ?_)
      rw [upd_ne n1, del_ne n2, upd_ne n2, upd_ne n1]
      exact h2
    · have n1 : t' ≠ dx := ne_of_none h2 h3
      have n2 : t' ≠ x := fun z => by
        rw [z, hxx] at h2
        cases h2
      refine .inl (.inr ⟨o, ?_⟩)
      rw [upd_ne n1, del_ne n2, upd_ne n2, upd_ne n1]
      exact h2
    · exact .inr h2
theorem scRef : FnScope ["is_good"] ["is_good"] (defScope sRef) := ⟨rfl, rfl, rfl, by decide +kernel, rfl, by decide +kernel, by decide +kernel⟩
theorem ok_ref (D : Df K a) (T : Txt K mg a) : FnOk P w K mg base (L2.CX P w) 3 a.fRef D.dRef ["is_good"] (spRef K a) := by
  have GiV : FnOk P w K mg base CX0 1 a.fiV D.diV ["self", "path"] (spEV K a.cNoValue) := ok_iV D T
  refine D.FRef.okX scRef (fun vs H Q E h => ?_) (fun cdv A outer s H vs Q E hr h => ?_)
  · obtain ⟨b, rfl, _⟩ := h
    rfl
  · obtain ⟨b, rfl, k1, k2⟩ := h
    refine ⟨_, (pss_one (ps_if (pt_not (pt_val (pv 0))) (pss_one (ps_raise rfl (takes_of rfl rfl rfl rfl) (pmk_oex T.xNoValue.ox T.xNoValue.ini T.xNoValue.ti GiV hr D.biV .nil pass0 rfl T.gcNoValue (pa_cons (pe_tup pa_nil) pa_nil)))) pss_nil)), ?_⟩
    cases b with
    | true => exact ⟨_, rfl, true, rfl, iteF (k1 rfl)⟩
    | false =>
      refine ⟨_, rfl, false, rfl, iteT ?_⟩
      refine ⟨by show 0 ≤ sizeLine; decide, fun t ht => ⟨by show 1 ≤ 1000; decide, mk_readV (.inl (.inl upd_same)) fun d t' H' s2 e1 e2 => ?_⟩⟩
      exact k2 rfl d t' H' ((same_new (Same.refl H) ht).trans s2) e1 e2
theorem sciD : FnScope ["self", "octets"] ["self", "octets"] (defScope siD) := ⟨rfl, rfl, rfl, by decide +kernel, rfl, by decide +kernel, by decide +kernel⟩
theorem ok_iD (D : Df K a) (T : Txt K mg a) : FnOk P w K mg base (L2.CX P w) 4 a.fiD D.diD ["self", "octets"] (spInit K a .d) := by
  have GArb : FnOk P w K mg base CX0 3 a.fArb D.dArb ["things", "least", "most"] (spArb K) := ok_arb D T
  have GRef : FnOk P w K mg base (L2.CX P w) 3 a.fRef D.dRef ["is_good"] (spRef K a) := ok_ref D T
  refine D.FiD.okX sciD (fun vs H Q E h => ?_) (fun cdv A outer s H vs Q E hr h => ?_)
  · obtain ⟨x, dx, v, g, rfl, _⟩ := h
    rfl
  · obtain ⟨x, dx, v, g, rfl, hx, hv, k1, k2⟩ := h
    refine ⟨_, (pss_cons (ps_expr (pe_call GRef hr rfl T.gRef D.FRef.kp D.bRef .nil (passes_call (takes_of rfl rfl rfl rfl) (fun _ _ _ _ q => q)) (pa_cons (pe_call GArb hr rfl T.gArb D.FArb.kp D.bArb .nil pass0 (pa_cons (pv 1) (pa_cons pe_int (pa_cons pe_int pa_nil)))) pa_nil))) (pss_one (ps_fld (pv 0) (pe_callTy call_tupB (by rfl) T.btuple (by decide +kernel) (pa_cons (pv 1) pa_nil)) rfl))), ?_⟩
    refine ⟨_, rfl, v, g, 0, 255, rfl, hv, fun H1 s1 => ?_⟩
    refine ⟨_, rfl, fun e => ?_, fun e => (k2 ((good_d g).trans e)).same s1⟩
    obtain ⟨xs, rfl, _⟩ := btw_row e
    obtain ⟨p, rfl, hS, hl, hi⟩ := hv
    refine ⟨_, rfl, p, xs, rfl, sqB_x hS (.of s1), fun t H2 s2 ht => ⟨_, rfl, x, a.cData, dx, [], rfl, s2 _ _ (s1 _ _ hx), T.clData, T.nData_octets, by show 0 < 1000; decide, ?_⟩⟩
    exact fin_row (s1.trans s2) hx ht (k1 ((good_d _).trans e))
theorem sciW : FnScope ["self", "units"] ["self", "units"] (defScope siW) := ⟨rfl, rfl, rfl, by decide +kernel, rfl, by decide +kernel, by decide +kernel⟩
theorem ok_iW (D : Df K a) (T : Txt K mg a) : FnOk P w K mg base (L2.CX P w) 4 a.fiW D.diW ["self", "units"] (spInit K a .w) := by
  have GArb : FnOk P w K mg base CX0 3 a.fArb D.dArb ["things", "least", "most"] (spArb K) := ok_arb D T
  have GArp : FnOk P w K mg base CX0 1 a.fArp D.dArp ["units"] (spArp K) := ok_arp D T
  have GRef : FnOk P w K mg base (L2.CX P w) 3 a.fRef D.dRef ["is_good"] (spRef K a) := ok_ref D T
  refine D.FiW.okX sciW (fun vs H Q E h => ?_) (fun cdv A outer s H vs Q E hr h => ?_)
  · obtain ⟨x, dx, v, g, rfl, _⟩ := h
    rfl
  · obtain ⟨x, dx, v, g, rfl, hx, hv, k1, k2⟩ := h
    have hr1 : Room 1 _ := hr.mono (by decide)
    refine ⟨_, (pss_cons (ps_expr (pe_call GRef hr rfl T.gRef D.FRef.kp D.bRef .nil (passes_call (takes_of rfl rfl rfl rfl) (fun _ _ _ _ q => q)) (pa_cons (pe_and (pe_call GArb hr rfl T.gArb D.FArb.kp D.bArb .nil pass0 (pa_cons (pv 1) (pa_cons pe_int (pa_cons pe_int pa_nil)))) (pe_one (pe_not (pe_call GArp hr1 rfl T.gArp D.FArp.kp D.bArp .nil pass0 (pa_cons (pv 1) pa_nil))))) pa_nil))) (pss_one (ps_fld (pv 0) (pe_callTy call_tupB (by rfl) T.btuple (by decide +kernel) (pa_cons (pv 1) pa_nil)) rfl))), ?_⟩
    refine ⟨_, rfl, v, g, 0, 65535, rfl, hv, fun H1 s1 => ⟨_, rfl, ?_⟩⟩
    by_cases c : g.btw 0 65535 = true
    · rw [c]
      refine iteT ?_
      obtain ⟨xs, rfl, hb⟩ := btw_row c
      obtain ⟨p, rfl, hS, hl, hi⟩ := hv
      obtain ⟨ns, rfl, hn⟩ := ints_of hb
      refine ⟨_, rfl, p, ns, rfl, sqB_x hS (.of s1), by rw [List.length_map] at hl; exact hl, fun H2 s2 => ⟨_, rfl, ?_⟩⟩
      have eg : Arg.good .w (.row (ns.map V.int)) = !ns.all plainI := by
        show ((ns.map V.int).all (isIn 0 65535) && !(ns.map V.int).all plainV) = _
        rw [hb, plain_ints, Bool.true_and]
      refine ⟨_, rfl, fun e => ?_, fun e => (k2 (eg.trans e)).same (s1.trans s2)⟩
      refine ⟨_, rfl, p, ns.map V.int, rfl, sqB_x hS (.of (s1.trans s2)), fun t H3 s3 ht => ⟨_, rfl, x, a.cWide, dx, [], rfl, s3 _ _ (s2 _ _ (s1 _ _ hx)), T.clWide, T.nWide_units, by show 0 < 1000; decide, ?_⟩⟩
      exact fin_row ((s1.trans s2).trans s3) hx ht (k1 (eg.trans e))
    · have c' : g.btw 0 65535 = false := by
        cases e : g.btw 0 65535 with
        | true => exact absurd e c
        | false => rfl
      rw [c']
      refine iteF ⟨_, rfl, fun e => Bool.noConfusion e, fun _ => (k2 ?_).same s1⟩
      cases g with
      | row xs =>
        show (xs.all (isIn 0 65535) && !xs.all plainV) = false
        rw [show xs.all (isIn 0 65535) = false from c', Bool.false_and]
      | num n => rfl
      | oth => rfl
theorem sciU : FnScope ["self", "number"] ["self", "number"] (defScope siU) := ⟨rfl, rfl, rfl, by decide +kernel, rfl, by decide +kernel, by decide +kernel⟩
theorem ok_iU (D : Df K a) (T : Txt K mg a) : FnOk P w K mg base (L2.CX P w) 4 a.fiU D.diU ["self", "number"] (spInit K a .u) := by
  have GIsb : FnOk P w K mg base CX0 2 a.fIsb D.dIsb ["thing", "least", "most"] (spBtw K) := ok_isb D T
  have GRef : FnOk P w K mg base (L2.CX P w) 3 a.fRef D.dRef ["is_good"] (spRef K a) := ok_ref D T
  refine D.FiU.okX sciU (fun vs H Q E h => ?_) (fun cdv A outer s H vs Q E hr h => ?_)
  · obtain ⟨x, dx, v, g, rfl, _⟩ := h
    rfl
  · obtain ⟨x, dx, v, g, rfl, hx, hv, k1, k2⟩ := h
    obtain ⟨tG, kGREATEST⟩ := T.kGREATEST
    have hr2 : Room 2 _ := hr.mono (by decide)
    refine ⟨_, (pss_cons (ps_expr (pe_call GRef hr rfl T.gRef D.FRef.kp D.bRef .nil (passes_call (takes_of rfl rfl rfl rfl) (fun _ _ _ _ q => q)) (pa_cons (pe_call GIsb hr2 rfl T.gIsb D.FIsb.kp D.bIsb .nil pass0 (pa_cons (pv 1) (pa_cons pe_int (pa_cons (pe_glob (v := .int 18446744073709551615) rfl kGREATEST ⟨_, rfl⟩) pa_nil)))) pa_nil))) (pss_one (ps_fld (pv 0) (pv 1) rfl))), ?_⟩
    refine ⟨_, rfl, v, 0, 18446744073709551615, rfl, hv.it, ?_⟩
    have eg : g.good .u = isIn 0 18446744073709551615 v := by
      cases g with
      | num n =>
        cases (show v = .int n from hv)
        rfl
      | row xs =>
        obtain ⟨p, rfl, _⟩ := hv
        rfl
      | oth => exact (isIn_not hv.1).symm
    refine ⟨_, rfl, fun e => ?_, fun e => k2 (eg.trans e)⟩
    have k3 := k1 (eg.trans e)
    refine ⟨_, rfl, _, rfl, x, a.cUid, dx, [], rfl, hx, T.clUid, T.nUid_number, by show 0 < 1000; decide, ?_⟩
    refine k3 _ v (fun b o e n => by rw [upd_ne n]; exact e) upd_same ?_
    cases g with
    | num n => exact hv
    | row xs => exact absurd (eg.trans e) Bool.false_ne_true
    | oth => exact absurd (eg.trans e) Bool.false_ne_true
theorem sciR : FnScope ["self", "octets"] ["self", "octets"] (defScope siR) := ⟨rfl, rfl, rfl, by decide +kernel, rfl, by decide +kernel, by decide +kernel⟩
theorem ok_iR (D : Df K a) (T : Txt K mg a) : FnOk P w K mg base (L2.CX P w) 4 a.fiR D.diR ["self", "octets"] (spInit K a .r) := by
  have GArb : FnOk P w K mg base CX0 3 a.fArb D.dArb ["things", "least", "most"] (spArb K) := ok_arb D T
  have GRef : FnOk P w K mg base (L2.CX P w) 3 a.fRef D.dRef ["is_good"] (spRef K a) := ok_ref D T
  refine D.FiR.okX sciR (fun vs H Q E h => ?_) (fun cdv A outer s H vs Q E hr h => ?_)
  · obtain ⟨x, dx, v, g, rfl, _⟩ := h
    rfl
  · obtain ⟨x, dx, v, g, rfl, hx, hv, k1, k2⟩ := h
    refine ⟨_, (pss_cons (ps_expr (pe_call GRef hr rfl T.gRef D.FRef.kp D.bRef .nil (passes_call (takes_of rfl rfl rfl rfl) (fun _ _ _ _ q => q)) (pa_cons (pe_and (pe_call GArb hr rfl T.gArb D.FArb.kp D.bArb .nil pass0 (pa_cons (pv 1) (pa_cons pe_int (pa_cons pe_int pa_nil)))) (pe_one (pe_cmpR op_in_seq (pe_callB call_len_seq (by rfl) T.blen PySem.boot_len (pa_cons (pv 1) pa_nil)) (pe_tup (pa_cons pe_int (pa_cons pe_int pa_nil))) rfl))) pa_nil))) (pss_one (ps_fld (pv 0) (pe_callTy call_tupB (by rfl) T.btuple (by decide +kernel) (pa_cons (pv 1) pa_nil)) rfl))), ?_⟩
    refine ⟨_, rfl, v, g, 0, 255, rfl, hv, fun H1 s1 => ⟨_, rfl, ?_⟩⟩
    by_cases c : g.btw 0 255 = true
    · rw [c]
      refine iteT ?_
      obtain ⟨xs, rfl, hb⟩ := btw_row c
      obtain ⟨p, rfl, hS, hl, hi⟩ := hv
      have hin : inV (.int (xs.length : Nat)) [.int 4, .int 8] = (decide (xs.length = 4) || decide (xs.length = 8)) := in48 _
      refine ⟨_, rfl, p, xs, rfl, sqB_x hS (.of s1), by show 2 ≤ sizeLine; decide, fun q hq => ⟨q, _, rfl, .inr (.inl (.inl upd_same)), rfl, rfl, ?_⟩⟩
      have s2 := same_new (o := .tup [V.int 4, V.int 8]) (Same.refl H1) hq
      generalize upd H1 q (.tup [V.int 4, V.int 8]) = H2 at s2 ⊢
      have eg : Arg.good .r (.row xs) = inV (.int (xs.length : Nat)) [.int 4, .int 8] := by
        rw [hin]
        show (xs.all (isIn 0 255) && (decide (xs.length = 4) || decide (xs.length = 8))) = _
        rw [hb, Bool.true_and]
      have s12 := s1.trans s2
      refine ⟨_, rfl, fun e => ?_, fun e => (k2 (eg.trans e)).same s12⟩
      refine ⟨_, rfl, p, xs, rfl, sqB_x hS (.of s12), fun t H3 s3 ht => ⟨_, rfl, x, a.cReal, dx, [], rfl, s3 _ _ (s12 _ _ hx), T.clReal, T.nReal_octets, by show 0 < 1000; decide, ?_⟩⟩
      exact fin_row (s12.trans s3) hx ht (k1 (eg.trans e))
    · have c' : g.btw 0 255 = false := by
        cases e : g.btw 0 255 with
        | true => exact absurd e c
        | false => rfl
      rw [c']
      refine iteF ⟨_, rfl, fun e => Bool.noConfusion e, fun _ => (k2 ?_).same s1⟩
      cases g with
      | row xs =>
        show (xs.all (isIn 0 255) && (decide (xs.length = 4) || decide (xs.length = 8))) = false
        rw [show xs.all (isIn 0 255) = false from c', Bool.false_and]
      | num n => rfl
      | oth => rfl
theorem sciT : FnScope ["self", "octets"] ["self", "octets"] (defScope siT) := ⟨rfl, rfl, rfl, by decide +kernel, rfl, by decide +kernel, by decide +kernel⟩
theorem ok_iT (D : Df K a) (T : Txt K mg a) : FnOk P w K mg base (L2.CX P w) 4 a.fiT D.diT ["self", "octets"] (spInit K a .t) := by
  have GArb : FnOk P w K mg base CX0 3 a.fArb D.dArb ["things", "least", "most"] (spArb K) := ok_arb D T
  have GRef : FnOk P w K mg base (L2.CX P w) 3 a.fRef D.dRef ["is_good"] (spRef K a) := ok_ref D T
  refine D.FiT.okX sciT (fun vs H Q E h => ?_) (fun cdv A outer s H vs Q E hr h => ?_)
  · obtain ⟨x, dx, v, g, rfl, _⟩ := h
    rfl
  · obtain ⟨x, dx, v, g, rfl, hx, hv, k1, k2⟩ := h
    refine ⟨_, (pss_cons (ps_expr (pe_call GRef hr rfl T.gRef D.FRef.kp D.bRef .nil (passes_call (takes_of rfl rfl rfl rfl) (fun _ _ _ _ q => q)) (pa_cons (pe_and (pe_call GArb hr rfl T.gArb D.FArb.kp D.bArb .nil pass0 (pa_cons (pv 1) (pa_cons pe_int (pa_cons pe_int pa_nil)))) (pe_one (pe_cmpR op_eq (pe_callB call_len_seq (by rfl) T.blen PySem.boot_len (pa_cons (pv 1) pa_nil)) pe_int (nomark _)))) pa_nil))) (pss_one (ps_fld (pv 0) (pe_callTy call_tupB (by rfl) T.btuple (by decide +kernel) (pa_cons (pv 1) pa_nil)) rfl))), ?_⟩
    refine ⟨_, rfl, v, g, 0, 255, rfl, hv, fun H1 s1 => ⟨_, rfl, ?_⟩⟩
    by_cases c : g.btw 0 255 = true
    · rw [c]
      refine iteT ?_
      obtain ⟨xs, rfl, hb⟩ := btw_row c
      obtain ⟨p, rfl, hS, hl, hi⟩ := hv
      have eq8 : decide (V.int (xs.length : Nat) = V.int 8) = decide (xs.length = 8) := decide_eq_decide.mpr ⟨fun h => by have := V.int.inj h; omega, fun h => by rw [h]; rfl⟩
      have eg : Arg.good .t (.row xs) = decide (V.int (xs.length : Nat) = V.int 8) := by
        rw [eq8]
        show (xs.all (isIn 0 255) && decide (xs.length = 8)) = _
        rw [hb, Bool.true_and]
      refine ⟨_, rfl, p, xs, rfl, sqB_x hS (.of s1), rfl, _, rfl, fun e => ?_, fun e => (k2 (eg.trans e)).same s1⟩
      refine ⟨_, rfl, p, xs, rfl, sqB_x hS (.of s1), fun t H3 s3 ht => ⟨_, rfl, x, a.cDate, dx, [], rfl, s3 _ _ (s1 _ _ hx), T.clDate, T.nDate_octets, by show 0 < 1000; decide, ?_⟩⟩
      exact fin_row (s1.trans s3) hx ht (k1 (eg.trans e))
    · have c' : g.btw 0 255 = false := by
        cases e : g.btw 0 255 with
        | true => exact absurd e c
        | false => rfl
      rw [c']
      refine iteF ⟨_, rfl, fun e => Bool.noConfusion e, fun _ => (k2 ?_).same s1⟩
      cases g with
      | row xs =>
        show (xs.all (isIn 0 255) && decide (xs.length = 8)) = false
        rw [show xs.all (isIn 0 255) = false from c', Bool.false_and]
      | num n => rfl
      | oth => rfl
end
end G58

set_option Elab.async false
set_option linter.all false
set_option pp.maxSteps 2500
set_option maxRecDepth 100000
set_option maxHeartbeats 4000000
/-! k01: class names, facts, ==. -/
namespace G58
open PySem PySem.Spec PyProof.Rows L2 LamX
/-- o.m(), the receiver's class among a family -/
def tMethF {ι : Type} (C : ι → Addr) (m : Str) (sp : ι → Sp) (E : XK) (ta : TE) : TE := fun σ H Q => ta σ H fun x H1 => ∃ (i : ι) (a dx : Addr) (fs : List (Str × V)), x = .ref a ∧ H1 a = some (.ins (C i) dx fs) ∧ fs.lookup m = none ∧ sp i [.ref a] H1 Q E
section
variable {X : Cx} {CX : CXT} {k : Nat} {E : XK} {ι : Type}
theorem pe_methF {C f : ι → Addr} {fd : ι → FuncData} {sp : ι → Sp} {o : Expr} {m : Str} {ta : TE} {apos pos : Pos} {pl : Sem Bool} (he : PE X o ta) (c : ∀ i, Cls X.K (C i)) (hm : ∀ i, Meth X.K (C i) m (f i)) (F : ∀ i, FnOk X.prog X.w X.K X.mg X.base CX k (f i) (fd i) ["self"] (sp i)) (hr : Room k X.A) (hb : ∀ i, Binds X.K (fd i) ["self"] []) (hx : Passes CX X E)
    (ht : eval (.Call (.Attribute o m apos) [] [] pos) X.env = (do
      let ov ← eval o X.env
      standAt apos.atName
      let (f, first) ← holding [ov] (getMethod ov m pl)
      callWith pos f first (backTo pos (starEach [] X.env)) (backToKw pos (keywordEach [] X.env))) := by rfl) :
    PE X (.Call (.Attribute o m apos) [] [] pos) (tMethF C m sp E ta) := by
  refine ⟨fun pins s σ H Q I h => ?_⟩
  refine PySem.W.methodCall_KW (pl := pl) (thn (he.run pins s σ H _ I h) fun u s1 ⟨x, H1, I1, rx, i, a, dx, fs, ex, ea, l, q⟩ => ?_) ht
  subst ex
  obtain rfl : u = Value.ref a := rx
  refine getmeth_ok I1 ea (c i) (hm i) l ?_
  exact PySem.W.callWith_K0 (first := [.ref a]) I1.kIn (hm i).kp (run_fn (us := [.ref a]) (vs := [.ref a]) (F i) hr (hb i) .nil hx I1 (.cons rfl .nil) q)
def rEqF (K : PySem.W.Frag) (C : ι → Addr) (sp : Sp) (E : XK) : R2 := fun x y H Q => ∃ i, rEqO K (C i) sp E x y H Q
def rNeF (K : PySem.W.Frag) (C : ι → Addr) (sp : Sp) (E : XK) : R2 := fun x y H Q => ∃ i, rNeO K (C i) sp E x y H Q
theorem op_eqF {C : ι → Addr} {f : Addr} {fd : FuncData} {ps : List Str} {sp : Sp} (F : FnOk X.prog X.w X.K X.mg X.base CX k f fd ps sp)
    (hs : ∀ i, PySem.W.findIn X.K (.ref (C i)) "__eq__" = some (some (.ref f))) (hf : PySem.W.isFn X.K (.ref f) = true) (hb : Binds X.K fd ps []) (hx : Passes CX X E) (hr : Room k X.A) : OpR X (compareOp .Eq) (rEqF X.K C sp E) :=
  fun pins s σ H x y v u Q I rx ry ⟨i, h⟩ => op_eqO F (hs i) hf hb hx hr pins s σ H x y v u Q I rx ry h
theorem op_neF {C : ι → Addr} {f : Addr} {fd : FuncData} {ps : List Str} {sp : Sp} (F : FnOk X.prog X.w X.K X.mg X.base CX k f fd ps sp)
    (hm : ∀ i, PySem.W.mroIn X.K (C i) (.type "object") = some true) (hn : ∀ i, PySem.W.findIn X.K (.ref (C i)) "__ne__" = some (some (.builtin "object.__ne__")))
    (hs : ∀ i, PySem.W.findIn X.K (.ref (C i)) "__eq__" = some (some (.ref f))) (hf : PySem.W.isFn X.K (.ref f) = true) (hb : Binds X.K fd ps []) (hx : Passes CX X E) (hr : Room (k + 1) X.A) : OpR X (compareOp .NotEq) (rNeF X.K C sp E) :=
  fun pins s σ H x y v u Q I rx ry ⟨i, h⟩ => op_neO F (hm i) (hn i) (hs i) hf hb hx hr pins s σ H x y v u Q I rx ry h
end
/-- a field -/
inductive FV where
  | num (n : Int)
  | row (ns : List Int)
deriving DecidableEq
def FV.arg : FV → Arg
  | .num n => .num n
  | .row ns => .row (ns.map V.int)
def FV.dat : FV → PyData
  | .num n => .int n
  | .row ns => .tuple (ns.map .int)
def FV.sz : FV → Prop
  | .num _ => True
  | .row ns => ns.length ≤ 1000
theorem eqv_intL : ∀ (ns ms : List Int), PyData.eqvAll (ns.map PyData.int) (ms.map PyData.int) = decide (ns = ms)
  | [], [] => rfl
  | [], _ :: _ => rfl
  | _ :: _, [] => rfl
  | n :: ns, m :: ms => by
    show ((n == m) && PyData.eqvAll (ns.map PyData.int) (ms.map PyData.int)) = _
    rw [eqv_intL ns ms]
    by_cases h1 : n = m
    · by_cases h2 : ns = ms <;> simp [h1, h2]
    · simp [h1]
theorem eqv_dat (f g : FV) : PyData.eqv f.dat g.dat = decide (f = g) := by
  cases f with
  | num n =>
    cases g with
    | num m =>
      show (n == m) = _
      by_cases h : n = m <;> simp [h]
    | row ms => rfl
  | row ns =>
    cases g with
    | num m => rfl
    | row ms =>
      show PyData.eqvAll (ns.map PyData.int) (ms.map PyData.int) = _
      rw [eqv_intL]
      exact decide_eq_decide.mpr ⟨fun h => by rw [h], fun h => by cases h; rfl⟩
theorem dpAll_ints {K : PySem.W.Frag} {H : Hp} : ∀ ns : List Int, DpAll K H (ns.map V.int) (ns.map PyData.int)
  | [] => .nil
  | n :: ns => .cons (.int n) (dpAll_ints ns)
theorem FV.dp {K : PySem.W.Frag} {H : Hp} {v : V} {f : FV} (h : FldAt K H v f.arg) : Dp K H v f.dat := by
  cases f with
  | num n =>
    cases (show v = .int n from h)
    exact .int n
  | row ns =>
    obtain ⟨t, rfl, ht⟩ := h
    exact .tup ht (dpAll_ints ns)
theorem layI : ∀ ns : List Int, PyData.canLayAll0 (ns.map PyData.int) = true
  | [] => rfl
  | n :: ns => by
    show (PyData.canLay0 (.int n) && PyData.canLayAll0 (ns.map PyData.int)) = true
    rw [layI ns]
    rfl
theorem depI : ∀ ns : List Int, PyData.depthAll (ns.map PyData.int) = 0
  | [] => rfl
  | n :: ns => by
    show max 0 (PyData.depthAll (ns.map PyData.int)) = 0
    rw [depI ns]
    rfl
theorem FV.lay (f : FV) : f.dat.canLay0 = true := by
  cases f with
  | num n => rfl
  | row ns => exact layI ns
theorem FV.dep (f : FV) : f.dat.depth ≤ 1 := by
  cases f with
  | num n => exact Nat.zero_le _
  | row ns =>
    show PyData.depthAll (ns.map PyData.int) + 1 ≤ 1
    rw [depI ns]
    exact Nat.le_refl _
theorem FV.shp (f : FV) : SeqAt.shaped f.dat = true := by
  unfold SeqAt.shaped
  rw [f.lay, decide_eq_true (Nat.le_trans f.dep (by decide))]
  rfl
/-- the tuple of the field -/
theorem FV.dp1 {K : PySem.W.Frag} {H : Hp} {v : V} {t : Addr} {f : FV} (ht : H t = some (.tup [v])) (h : FldAt K H v f.arg) : Dp K H (.ref t) (.tuple [f.dat]) := .tup (.inl (.inl ht)) (.cons (FV.dp h) .nil)
theorem eqv_dat1 (f g : FV) : PyData.eqv (.tuple [f.dat]) (.tuple [g.dat]) = decide (f = g) := by
  show (PyData.eqv f.dat g.dat && true) = _
  rw [Bool.and_true, eqv_dat]
theorem FV.shp1 (f : FV) : SeqAt.shaped (.tuple [f.dat]) = true := by
  unfold SeqAt.shaped
  have h1 : PyData.canLay0 (.tuple [f.dat]) = true := by
    show (f.dat.canLay0 && true) = true
    rw [f.lay]
    rfl
  have h2 : PyData.depth (.tuple [f.dat]) ≤ 64 := by
    show max f.dat.depth 0 + 1 ≤ 64
    have := f.dep
    omega
  rw [h1, decide_eq_true h2]
  rfl
def Wy.cn : Wy → Str
  | .w => "wide"
  | .d => "data"
  | .u => "uid"
  | .r => "real"
  | .t => "date"
def Wy.fCn (a : Ad) : Wy → Addr
  | .w => a.fCnW
  | .d => a.fCnD
  | .u => a.fCnU
  | .r => a.fCnR
  | .t => a.fCnT
def Wy.fFa (a : Ad) : Wy → Addr
  | .w => a.fFaW
  | .d => a.fFaD
  | .u => a.fFaU
  | .r => a.fFaR
  | .t => a.fFaT
instance : DecidableEq Wy := fun x y => by
  cases x <;> cases y <;> first | exact isTrue rfl | exact isFalse (fun h => nomatch h)
theorem cn_inj {x y : Wy} (h : x.cn = y.cn) : x = y := by
  revert h
  cases x <;> cases y <;> first | exact fun _ => rfl | exact fun h => absurd h (by decide +kernel)
section
variable {P : Program} {w : World} {K : PySem.W.Frag} {mg : Str → Option Value} {base : Heap} {a : Ad}
def Wy.dCn (D : Df K a) : Wy → FuncData
  | .w => D.dCnW
  | .d => D.dCnD
  | .u => D.dCnU
  | .r => D.dCnR
  | .t => D.dCnT
def Wy.dFa (D : Df K a) : Wy → FuncData
  | .w => D.dFaW
  | .d => D.dFaD
  | .u => D.dFaU
  | .r => D.dFaR
  | .t => D.dFaT
theorem clsA (T : Txt K mg a) (y : Wy) : Cls K (y.cls a) := by
  cases y
  · exact T.clWide
  · exact T.clData
  · exact T.clUid
  · exact T.clReal
  · exact T.clDate
theorem mtCnA (D : Df K a) (T : Txt K mg a) (y : Wy) : Meth K (y.cls a) "class_name" (y.fCn a) := by
  cases y
  · exact T.mtCnW
  · exact T.mtCnD
  · exact T.mtCnU
  · exact T.mtCnR
  · exact T.mtCnT
theorem mtFaA (D : Df K a) (T : Txt K mg a) (y : Wy) : Meth K (y.cls a) "facts" (y.fFa a) := by
  cases y
  · exact T.mtFaW
  · exact T.mtFaD
  · exact T.mtFaU
  · exact T.mtFaR
  · exact T.mtFaT
theorem bCnA (D : Df K a) (y : Wy) : L2.Binds K (y.dCn D) ["self"] [] := by
  cases y
  · exact D.bCnW
  · exact D.bCnD
  · exact D.bCnU
  · exact D.bCnR
  · exact D.bCnT
theorem bFaA (D : Df K a) (y : Wy) : L2.Binds K (y.dFa D) ["self"] [] := by
  cases y
  · exact D.bFaW
  · exact D.bFaD
  · exact D.bFaU
  · exact D.bFaR
  · exact D.bFaT
def spCn (y : Wy) : Sp := fun vs H Q _ => ∃ x : Addr, vs = [.ref x] ∧ Q (.str y.cn) H
def spFa (a : Ad) (y : Wy) : Sp := fun vs H Q _ => ∃ (x dx : Addr) (v : V), vs = [.ref x] ∧ H x = some (.ins (y.cls a) dx [(y.fld, v)]) ∧ ∀ t, H t = none → Q (.ref t) (upd H t (.tup [v]))
theorem scCnW : FnScope ["self"] ["self"] (defScope sCnW) := ⟨rfl, rfl, rfl, by decide +kernel, rfl, by decide +kernel, by decide +kernel⟩
theorem ok_CnW (D : Df K a) (T : Txt K mg a) : FnOk P w K mg base CX0 1 a.fCnW D.dCnW ["self"] (spCn .w) := by
  refine D.FCnW.ok scCnW (fun vs H Q E h => ?_) (fun cdv A outer s H vs Q E hr h => ?_)
  · obtain ⟨x, rfl, _⟩ := h
    rfl
  · obtain ⟨x, rfl, k⟩ := h
    refine ⟨_, (pss_one (ps_ret pe_str)), ?_⟩
    exact k
theorem scFaW : FnScope ["self"] ["self"] (defScope sFaW) := ⟨rfl, rfl, rfl, by decide +kernel, rfl, by decide +kernel, by decide +kernel⟩
theorem ok_FaW (D : Df K a) (T : Txt K mg a) : FnOk P w K mg base CX0 1 a.fFaW D.dFaW ["self"] (spFa a .w) := by
  refine D.FFaW.ok scFaW (fun vs H Q E h => ?_) (fun cdv A outer s H vs Q E hr h => ?_)
  · obtain ⟨x, dx, v, rfl, _⟩ := h
    rfl
  · obtain ⟨x, dx, v, rfl, hx, k⟩ := h
    refine ⟨_, (pss_one (ps_ret (pe_tup (pa_cons (pe_fld (pv 0) rfl) pa_nil)))), ?_⟩
    exact ⟨_, rfl, x, a.cWide, dx, _, _, rfl, hx, T.clWide, T.nWide_units, rfl, by show 1 ≤ sizeLine; decide, k⟩
theorem scCnD : FnScope ["self"] ["self"] (defScope sCnD) := ⟨rfl, rfl, rfl, by decide +kernel, rfl, by decide +kernel, by decide +kernel⟩
theorem ok_CnD (D : Df K a) (T : Txt K mg a) : FnOk P w K mg base CX0 1 a.fCnD D.dCnD ["self"] (spCn .d) := by
  refine D.FCnD.ok scCnD (fun vs H Q E h => ?_) (fun cdv A outer s H vs Q E hr h => ?_)
  · obtain ⟨x, rfl, _⟩ := h
    rfl
  · obtain ⟨x, rfl, k⟩ := h
    refine ⟨_, (pss_one (ps_ret pe_str)), ?_⟩
    exact k
theorem scFaD : FnScope ["self"] ["self"] (defScope sFaD) := ⟨rfl, rfl, rfl, by decide +kernel, rfl, by decide +kernel, by decide +kernel⟩
theorem ok_FaD (D : Df K a) (T : Txt K mg a) : FnOk P w K mg base CX0 1 a.fFaD D.dFaD ["self"] (spFa a .d) := by
  refine D.FFaD.ok scFaD (fun vs H Q E h => ?_) (fun cdv A outer s H vs Q E hr h => ?_)
  · obtain ⟨x, dx, v, rfl, _⟩ := h
    rfl
  · obtain ⟨x, dx, v, rfl, hx, k⟩ := h
    refine ⟨_, (pss_one (ps_ret (pe_tup (pa_cons (pe_fld (pv 0) rfl) pa_nil)))), ?_⟩
    exact ⟨_, rfl, x, a.cData, dx, _, _, rfl, hx, T.clData, T.nData_octets, rfl, by show 1 ≤ sizeLine; decide, k⟩
theorem scCnU : FnScope ["self"] ["self"] (defScope sCnU) := ⟨rfl, rfl, rfl, by decide +kernel, rfl, by decide +kernel, by decide +kernel⟩
theorem ok_CnU (D : Df K a) (T : Txt K mg a) : FnOk P w K mg base CX0 1 a.fCnU D.dCnU ["self"] (spCn .u) := by
  refine D.FCnU.ok scCnU (fun vs H Q E h => ?_) (fun cdv A outer s H vs Q E hr h => ?_)
  · obtain ⟨x, rfl, _⟩ := h
    rfl
  · obtain ⟨x, rfl, k⟩ := h
    refine ⟨_, (pss_one (ps_ret pe_str)), ?_⟩
    exact k
theorem scFaU : FnScope ["self"] ["self"] (defScope sFaU) := ⟨rfl, rfl, rfl, by decide +kernel, rfl, by decide +kernel, by decide +kernel⟩
theorem ok_FaU (D : Df K a) (T : Txt K mg a) : FnOk P w K mg base CX0 1 a.fFaU D.dFaU ["self"] (spFa a .u) := by
  refine D.FFaU.ok scFaU (fun vs H Q E h => ?_) (fun cdv A outer s H vs Q E hr h => ?_)
  · obtain ⟨x, dx, v, rfl, _⟩ := h
    rfl
  · obtain ⟨x, dx, v, rfl, hx, k⟩ := h
    refine ⟨_, (pss_one (ps_ret (pe_tup (pa_cons (pe_fld (pv 0) rfl) pa_nil)))), ?_⟩
    exact ⟨_, rfl, x, a.cUid, dx, _, _, rfl, hx, T.clUid, T.nUid_number, rfl, by show 1 ≤ sizeLine; decide, k⟩
theorem scCnR : FnScope ["self"] ["self"] (defScope sCnR) := ⟨rfl, rfl, rfl, by decide +kernel, rfl, by decide +kernel, by decide +kernel⟩
theorem ok_CnR (D : Df K a) (T : Txt K mg a) : FnOk P w K mg base CX0 1 a.fCnR D.dCnR ["self"] (spCn .r) := by
  refine D.FCnR.ok scCnR (fun vs H Q E h => ?_) (fun cdv A outer s H vs Q E hr h => ?_)
  · obtain ⟨x, rfl, _⟩ := h
    rfl
  · obtain ⟨x, rfl, k⟩ := h
    refine ⟨_, (pss_one (ps_ret pe_str)), ?_⟩
    exact k
theorem scFaR : FnScope ["self"] ["self"] (defScope sFaR) := ⟨rfl, rfl, rfl, by decide +kernel, rfl, by decide +kernel, by decide +kernel⟩
theorem ok_FaR (D : Df K a) (T : Txt K mg a) : FnOk P w K mg base CX0 1 a.fFaR D.dFaR ["self"] (spFa a .r) := by
  refine D.FFaR.ok scFaR (fun vs H Q E h => ?_) (fun cdv A outer s H vs Q E hr h => ?_)
  · obtain ⟨x, dx, v, rfl, _⟩ := h
    rfl
  · obtain ⟨x, dx, v, rfl, hx, k⟩ := h
    refine ⟨_, (pss_one (ps_ret (pe_tup (pa_cons (pe_fld (pv 0) rfl) pa_nil)))), ?_⟩
    exact ⟨_, rfl, x, a.cReal, dx, _, _, rfl, hx, T.clReal, T.nReal_octets, rfl, by show 1 ≤ sizeLine; decide, k⟩
theorem scCnT : FnScope ["self"] ["self"] (defScope sCnT) := ⟨rfl, rfl, rfl, by decide +kernel, rfl, by decide +kernel, by decide +kernel⟩
theorem ok_CnT (D : Df K a) (T : Txt K mg a) : FnOk P w K mg base CX0 1 a.fCnT D.dCnT ["self"] (spCn .t) := by
  refine D.FCnT.ok scCnT (fun vs H Q E h => ?_) (fun cdv A outer s H vs Q E hr h => ?_)
  · obtain ⟨x, rfl, _⟩ := h
    rfl
  · obtain ⟨x, rfl, k⟩ := h
    refine ⟨_, (pss_one (ps_ret pe_str)), ?_⟩
    exact k
theorem scFaT : FnScope ["self"] ["self"] (defScope sFaT) := ⟨rfl, rfl, rfl, by decide +kernel, rfl, by decide +kernel, by decide +kernel⟩
theorem ok_FaT (D : Df K a) (T : Txt K mg a) : FnOk P w K mg base CX0 1 a.fFaT D.dFaT ["self"] (spFa a .t) := by
  refine D.FFaT.ok scFaT (fun vs H Q E h => ?_) (fun cdv A outer s H vs Q E hr h => ?_)
  · obtain ⟨x, dx, v, rfl, _⟩ := h
    rfl
  · obtain ⟨x, dx, v, rfl, hx, k⟩ := h
    refine ⟨_, (pss_one (ps_ret (pe_tup (pa_cons (pe_fld (pv 0) rfl) pa_nil)))), ?_⟩
    exact ⟨_, rfl, x, a.cDate, dx, _, _, rfl, hx, T.clDate, T.nDate_octets, rfl, by show 1 ≤ sizeLine; decide, k⟩
theorem ok_CnA (D : Df K a) (T : Txt K mg a) (y : Wy) : FnOk P w K mg base CX0 1 (y.fCn a) (y.dCn D) ["self"] (spCn y) := by
  cases y
  · exact ok_CnW D T
  · exact ok_CnD D T
  · exact ok_CnU D T
  · exact ok_CnR D T
  · exact ok_CnT D T
theorem ok_FaA (D : Df K a) (T : Txt K mg a) (y : Wy) : FnOk P w K mg base CX0 1 (y.fFa a) (y.dFa D) ["self"] (spFa a y) := by
  cases y
  · exact ok_FaW D T
  · exact ok_FaD D T
  · exact ok_FaU D T
  · exact ok_FaR D T
  · exact ok_FaT D T
/-- what stands on the other side of == -/
def OthAt (K : PySem.W.Frag) (a : Ad) (H : Hp) (v : V) : Prop := ∃ n, TyX K H v (.type n) ∧ n ∈ ["NoneType", "int", "str", "list", "tuple"]
def spEq (K : PySem.W.Frag) (a : Ad) : Sp := fun vs H Q _ => ∃ (p : Addr) (y : Wy) (f : FV) (o : V), vs = [.ref p, o] ∧ ThAt K a H p y f.arg ∧
  ((OthAt K a H o ∧ Q (.bl false) H) ∨ ∃ q y' f', o = .ref q ∧ ThAt K a H q y' f'.arg ∧ ∀ H', Same H H' → Q (.bl (decide (y = y' ∧ f = f'))) H')
theorem ths (T : Txt K mg a) (y : Wy) : PySem.W.kitOne K (.ref (y.cls a)) (.ref a.cThing) = some true := by
  cases y
  · exact T.thWide
  · exact T.thData
  · exact T.thUid
  · exact T.thReal
  · exact T.thDate
theorem th_ty (T : Txt K mg a) {p : Addr} {H : Hp} {y : Wy} {g : Arg} (h : ThAt K a H p y g) : TyX K H (.ref p) (.ref (y.cls a)) := by
  obtain ⟨dx, v, h, _⟩ := h
  refine .base (.ins h (clsA T y) ?_ T.hn T.htk ?_)
  · cases y
    · exact T.haWide
    · exact T.haData
    · exact T.haUid
    · exact T.haReal
    · exact T.haDate
  · cases y
    · exact T.hmWide
    · exact T.hmData
    · exact T.hmUid
    · exact T.hmReal
    · exact T.hmDate
theorem fld_no (y : Wy) (m : Str) (v : V) (h1 : m ≠ "units") (h2 : m ≠ "octets") (h3 : m ≠ "number") : List.lookup m [(y.fld, v)] = none := by
  have : (m == y.fld) = false := by
    rw [beq_eq_false_iff_ne]
    cases y <;> first | exact h1 | exact h2 | exact h3
  simp [List.lookup, this]
theorem scEq : FnScope ["self", "other"] ["self", "other"] (defScope sEq) := ⟨rfl, rfl, rfl, by decide +kernel, rfl, by decide +kernel, by decide +kernel⟩
theorem ok_eq (D : Df K a) (T : Txt K mg a) : FnOk P w K mg base CX0 2 a.fEq D.dEq ["self", "other"] (spEq K a) := by
  have GCn : ∀ y : Wy, FnOk P w K mg base CX0 1 (y.fCn a) (y.dCn D) ["self"] (spCn y) := ok_CnA D T
  have GFa : ∀ y : Wy, FnOk P w K mg base CX0 1 (y.fFa a) (y.dFa D) ["self"] (spFa a y) := ok_FaA D T
  refine D.FEq.ok scEq (fun vs H Q E h => ?_) (fun cdv A outer s H vs Q E hr h => ?_)
  · obtain ⟨p, y, f, o, rfl, _⟩ := h
    rfl
  · obtain ⟨p, y, f, o, rfl, hp, h⟩ := h
    have hr1 : Room 1 _ := hr.mono (by decide)
    refine ⟨_, (pss_cons (ps_if (PW.pt (pw_or (pt_not (pt_val (pe_callB call_isi (by rfl) T.bisinstance (by decide +kernel) (pa_cons (pv 1) (pa_cons (pe_glob (v := .ref a.cThing) rfl T.gcThing rfl) pa_nil))))) (pw_or1 (pt_cmpR op_ne (pe_methF (ι := Wy) (C := fun y => y.cls a) (f := fun y => y.fCn a) (fd := fun y => y.dCn D) (pv 0) (clsA T) (mtCnA D T) GCn hr1 (bCnA D) pass0) (pe_methF (ι := Wy) (C := fun y => y.cls a) (f := fun y => y.fCn a) (fd := fun y => y.dCn D) (pv 1) (clsA T) (mtCnA D T) GCn hr1 (bCnA D) pass0) (nomark _))))) (pss_one (ps_ret pe_bl)) pss_nil) (pss_one (ps_ret (pe_cmpR (op_eqD hr.units) (pe_methF (ι := Wy) (C := fun y => y.cls a) (f := fun y => y.fFa a) (fd := fun y => y.dFa D) (pv 0) (clsA T) (mtFaA D T) GFa hr1 (bFaA D) pass0) (pe_methF (ι := Wy) (C := fun y => y.cls a) (f := fun y => y.fFa a) (fd := fun y => y.dFa D) (pv 1) (clsA T) (mtFaA D T) GFa hr1 (bFaA D) pass0) (nomark _))))), ?_⟩
    rcases h with ⟨⟨n, ty, hm⟩, k⟩ | ⟨q, y', f', rfl, hq, k⟩
    · have hk : PySem.W.kitOne K (.type n) (.ref a.cThing) = some false := by
        simp only [List.mem_cons, List.not_mem_nil, or_false] at hm
        rcases hm with rfl | rfl | rfl | rfl | rfl
        · exact T.th_NoneType
        · exact T.th_int
        · exact T.th_str
        · exact T.th_list
        · exact T.th_tuple
      refine ⟨_, rfl, o, .ref a.cThing, _, _, false, rfl, .own _, ty, hk, ?_⟩
      exact ⟨false, rfl, iteT (iteT k)⟩
    · refine ⟨_, rfl, .ref q, .ref a.cThing, _, _, true, rfl, .own _, th_ty T hq, ths T y', ?_⟩
      obtain ⟨dx, v, h1, h2⟩ := hp
      obtain ⟨dx', v', h1', h2'⟩ := hq
      refine ⟨true, rfl, iteF ?_⟩
      refine ⟨_, rfl, y, p, dx, _, rfl, h1, fld_no y _ v (by decide +kernel) (by decide +kernel) (by decide +kernel), p, rfl, ?_⟩
      refine ⟨_, rfl, y', q, dx', _, rfl, h1', fld_no y' _ v' (by decide +kernel) (by decide +kernel) (by decide +kernel), q, rfl, rfl, !decide (y = y'), congrArg V.bl (congrArg not (decide_eq_decide.mpr ⟨fun h => cn_inj (V.str.inj h), fun h => by rw [h]⟩)), ?_⟩
      by_cases c : y = y'
      · subst c
        rw [show (!decide (y = y)) = false by simp]
        refine iteF ?_
        refine ⟨_, rfl, y, p, dx, _, rfl, h1, fld_no y _ v (by decide +kernel) (by decide +kernel) (by decide +kernel), p, dx, v, rfl, h1, fun t1 ht1 => ?_⟩
        have s1 := same_new (o := .tup [v]) (Same.refl H) ht1
        have e1 : (upd H t1 (.tup [v])) t1 = some (.tup [v]) := upd_same
        generalize upd H t1 (.tup [v]) = H1 at s1 e1 ⊢
        refine ⟨_, rfl, y, q, dx', _, rfl, s1 _ _ h1', fld_no y _ v' (by decide +kernel) (by decide +kernel) (by decide +kernel), q, dx', v', rfl, s1 _ _ h1', fun t2 ht2 => ?_⟩
        have s2 := same_new (o := .tup [v']) (Same.refl H1) ht2
        have e2 : (upd H1 t2 (.tup [v'])) t2 = some (.tup [v']) := upd_same
        generalize upd H1 t2 (.tup [v']) = H2 at s2 e2 ⊢
        refine ⟨_, _, FV.dp1 (s2 _ _ e1) (h2.extN (.of (s1.trans s2))), FV.dp1 e2 (h2'.extN (.of (s1.trans s2))), FV.shp1 f, FV.shp1 f', ?_⟩
        rw [eqv_dat1]
        have := k H2 (s1.trans s2)
        rw [show decide (y = y ∧ f = f') = decide (f = f') from decide_eq_decide.mpr ⟨fun h => h.2, fun h => ⟨rfl, h⟩⟩] at this
        exact this
      · rw [decide_eq_false c]
        refine iteT ?_
        have := k H (Same.refl H)
        rw [decide_eq_false (fun h => c h.1)] at this
        exact this
end
end G58

set_option Elab.async false
set_option linter.all false
set_option maxRecDepth 100000
set_option maxHeartbeats 4000000
/-! k01: the law's source of draws, its picks. -/
namespace G58
open PySem PySem.Spec PyProof.Rows L2 LamX
/-- a source stands at S -/
def SrcAt (H : Hp) (S : Addr) : Prop := ∃ x y z : Int, H S = some (.lst [.int x, .int y, .int z])
def spSrc : Sp := fun vs H Q _ => ∃ n : Int, vs = [.int n] ∧ ∀ p H', H p = none → Same H H' → SrcAt H' p → Q (.ref p) H'
/-- all that was tracked stays but what is at S -/
def But (S : Addr) (H H' : Hp) : Prop := ∀ b o, H b = some o → b ≠ S → H' b = some o
theorem But.refl (S : Addr) (H : Hp) : But S H H := fun _ _ h _ => h
theorem But.trans {S : Addr} {H H1 H2 : Hp} (x : But S H H1) (y : But S H1 H2) : But S H H2 := fun b o h n => y b o (x b o h n) n
theorem But.same {S : Addr} {H H1 H2 : Hp} (x : But S H H1) (y : Same H1 H2) : But S H H2 := fun b o h n => y b o (x b o h n)
theorem But.upd {S : Addr} {H : Hp} {o : HO} : But S H (L2.upd H S o) := fun b u h n => by
  rw [upd_ne n]
  exact h
theorem Same.but {S : Addr} {H H1 : Hp} (x : Same H H1) : But S H H1 := fun b o h _ => x b o h
def spDrw : Sp := fun vs H Q _ => ∃ (S : Addr) (m : Int), vs = [.ref S, .int m] ∧ SrcAt H S ∧ 0 < m ∧ m ≤ 18446744073709551616 ∧ ∀ (r : Int) (H' : Hp), 0 ≤ r → r < m → SrcAt H' S → But S H H' → (∀ b, H b = none → H' b = none) → Q (.int r) H'
def spPik : Sp := fun vs H Q _ => ∃ (S L : Addr) (xs : List V), vs = [.ref S, .ref L] ∧ SrcAt H S ∧ H L = some (.lst xs) ∧ L ≠ S ∧ 0 < xs.length ∧ xs.length < 1000 ∧ ∀ (i : Nat) (x : V) (H' : Hp), xs[i]? = some x → SrcAt H' S → But S H H' → (∀ b, H b = none → H' b = none) → Q x H'
theorem wid64 {i m : Int} (h0 : 0 < m) (h1 : m ≤ 18446744073709551616) : CDivW i m := wide_div (b := 65) h0 (by
  have e : (2 : Nat) ^ 65 = 36893488147419103232 := by decide
  rw [e]
  omega) (by decide) (by decide)
section
variable {P : Program} {w : World} {K : PySem.W.Frag} {mg : Str → Option Value} {base : Heap} {a : Ad}
theorem scSrc : FnScope ["_law_cell"] ["_law_cell"] (defScope sSrc) := ⟨rfl, rfl, rfl, by decide +kernel, rfl, by decide +kernel, by decide +kernel⟩
theorem scDrw : FnScope ["_law_source_here", "_law_many", "_law_found", "_law_mixed"] ["_law_source_here", "_law_many"] (defScope sDrw) := ⟨rfl, rfl, rfl, by decide +kernel, rfl, by decide +kernel, by decide +kernel⟩
theorem scPik : FnScope ["_law_source_here", "_law_items"] ["_law_source_here", "_law_items"] (defScope sPik) := ⟨rfl, rfl, rfl, by decide +kernel, rfl, by decide +kernel, by decide +kernel⟩
theorem ok_src (D : Df K a) (T : Txt K mg a) : FnOk P w K mg base CX0 1 a.fSrc D.dSrc ["_law_cell"] spSrc := by
  refine D.FSrc.ok scSrc (fun vs H Q E h => ?_) (fun cdv A outer s H vs Q E hr h => ?_)
  · obtain ⟨n, rfl, _⟩ := h
    rfl
  · obtain ⟨n, rfl, k⟩ := h
    refine ⟨_, (pss_one (ps_ret (pe_lst (pa_cons (pe_callB call_abs (by rfl) T.babs (by decide +kernel) (pa_cons (pv 0) pa_nil)) (pa_cons (pe_op op_mod (pe_callTy call_int1 (by rfl) T.bint (by decide +kernel) (pa_cons (pv 0) pa_nil)) pe_int) (pa_cons pe_int pa_nil)))))), ?_⟩
    refine ⟨_, rfl, n, rfl, _, rfl, .inl ⟨_, rfl, _, _, rfl, rfl, by show (0 : Int) < 2147483629; decide, by show 3 ≤ sizeLine; decide, fun p hp => ?_⟩⟩
    exact k p _ hp (same_new (Same.refl H) hp) ⟨_, _, _, upd_same⟩
theorem ok_drw (D : Df K a) (T : Txt K mg a) : FnOk P w K mg base CX0 1 a.fDrw D.dDrw ["_law_source_here", "_law_many"] spDrw := by
  refine D.FDrw.ok scDrw (fun vs H Q E h => ?_) (fun cdv A outer s H vs Q E hr h => ?_)
  · obtain ⟨S, m, rfl, _⟩ := h
    rfl
  · obtain ⟨S, m, rfl, ⟨x, y, z, hS⟩, h0, h1, k⟩ := h
    refine ⟨_, (pss_cons (ps_if (pt_cmpR op_ge (pe_ix ix_list (pv 0) pe_int (fun _ _ => rfl)) (pe_op op_pow pe_int pe_int) (nomark _)) (pss_cons (ps_set (i := 2) scDrw.nd rfl (.inl rfl) (pe_op op_mod (pe_callTy call_int1 (by rfl) T.bint (by decide +kernel) (pa_cons (pe_ix ix_list (pv 0) pe_int (fun _ _ => rfl)) pa_nil)) (pv 1))) (pss_cons (ps_asg (pe_op op_fdivW (pe_ix ix_list (pv 0) pe_int (fun _ _ => rfl)) (pv 1)) (pg_sub (pv 0) pe_int set_list)) (pss_one (ps_ret (pv 2))))) pss_nil) (pss_cons (ps_asg (pe_op op_add (pe_ix ix_list (pv 0) pe_int (fun _ _ => rfl)) pe_int) (pg_sub (pv 0) pe_int set_list)) (pss_cons (ps_set (i := 3) scDrw.nd rfl (.inl rfl) (pe_op op_mod (pe_callTy call_int1 (by rfl) T.bint (by decide +kernel) (pa_cons (pe_op op_mul (pe_op op_add (pe_op op_add (pe_ix ix_list (pv 0) pe_int (fun _ _ => rfl)) (pe_op op_mul pe_int (pe_ix ix_list (pv 0) pe_int (fun _ _ => rfl)))) pe_int) pe_int) pa_nil)) pe_int)) (pss_cons (ps_set (i := 3) scDrw.nd rfl (.inl rfl) (pe_op op_mod (pe_callTy call_int1 (by rfl) T.bint (by decide +kernel) (pa_cons (pe_op op_mul (pv 3) (pe_op op_add (pe_op op_fdiv (pv 3) pe_int) pe_int)) pa_nil)) pe_int)) (pss_one (ps_ret (pe_op op_mod (pe_callTy call_int1 (by rfl) T.bint (by decide +kernel) (pa_cons (pe_op op_mod (pe_callTy call_int1 (by rfl) T.bint (by decide +kernel) (pa_cons (pe_op op_add (pe_op op_fdiv (pv 3) pe_int) (pe_op op_mul (pe_op op_mod (pe_callTy call_int1 (by rfl) T.bint (by decide +kernel) (pa_cons (pv 3) pa_nil)) pe_int) pe_int)) pa_nil)) pe_int) pa_nil)) (pv 1)))))))), ?_⟩
    have at0 : ∀ {u v t : V}, atI [u, v, t] 0 = some u := rfl
    have at1 : ∀ {u v t : V}, atI [u, v, t] 1 = some v := rfl
    have at2 : ∀ {u v t : V}, atI [u, v, t] 2 = some t := rfl
    have fr : ∀ {o : HO}, ∀ b, H b = none → (upd H S o) b = none := fun b hb => by
      rw [upd_ne (ne_of_none hS hb).symm]
      exact hb
    refine ⟨_, rfl, S, _, _, _, rfl, rfl, .inl (.inl hS), at0, _, _, rfl, rfl, ⟨by decide, by decide, by decide⟩, _, _, rfl, rfl, _, rfl, ?_⟩
    refine ite2 (fun _ => ?_) (fun _ => ?_)
    · refine ⟨_, rfl, S, _, _, _, rfl, rfl, .inl (.inl hS), at0, .inl ⟨_, rfl, _, rfl, _, _, rfl, rfl, h0, ?_⟩⟩
      refine ⟨_, rfl, S, _, _, _, rfl, rfl, .inl (.inl hS), at0, _, rfl, _, _, rfl, rfl, wid64 h0 h1, _, rfl, S, _, _, 0, rfl, rfl, hS, rfl, ?_⟩
      refine ⟨_, rfl, k _ _ (Int.emod_nonneg _ (by omega)) (Int.emod_lt_of_pos _ h0) ⟨_, _, _, upd_same⟩ But.upd fr⟩
    · refine ⟨_, rfl, S, _, _, _, rfl, rfl, .inl (.inl hS), at2, _, _, rfl, rfl, _, rfl, S, _, _, 2, rfl, rfl, hS, rfl, ?_⟩
      refine ⟨_, rfl, S, _, _, _, rfl, rfl, .inl (.inl upd_same), at1, _, rfl, S, _, _, _, rfl, rfl, .inl (.inl upd_same), at2, _, _, rfl, rfl, .inl ⟨by decide, by decide⟩, _, _, rfl, rfl, _, _, rfl, rfl, _, _, rfl, rfl, .inr ⟨by decide, by decide⟩,
        .inl ⟨_, rfl, _, _, rfl, rfl, by show (0 : Int) < 2147483647; decide, ?_⟩⟩
      generalize hm : ((y + 7919 * (z + 1) + 1) * 48271 : Int) % 2147483647 = q
      have q0 : 0 ≤ q := by rw [← hm]; exact Int.emod_nonneg _ (by decide)
      have q1 : q < 2147483647 := by rw [← hm]; exact Int.emod_lt_of_pos _ (by decide)
      refine ⟨_, rfl, _, rfl, _, _, rfl, rfl, ⟨by decide, by decide⟩, _, _, rfl, rfl, _, _, rfl, rfl, .inl ⟨by omega, by omega⟩, .inl ⟨_, rfl, _, _, rfl, rfl, by show (0 : Int) < 2147483587; decide, ?_⟩⟩
      refine ⟨_, rfl, _, _, rfl, rfl, ⟨by decide, by decide⟩, _, rfl, .inl ⟨_, rfl, _, _, rfl, rfl, by show (0 : Int) < 7919; decide, _, _, rfl, rfl, .inr ⟨by decide, by decide⟩, _, _, rfl, rfl, .inl ⟨_, rfl, _, _, rfl, rfl, by show (0 : Int) < 2147483399; decide,
        .inl ⟨_, rfl, _, rfl, _, _, rfl, rfl, h0, ?_⟩⟩⟩⟩
      exact k _ _ (Int.emod_nonneg _ (by omega)) (Int.emod_lt_of_pos _ h0) ⟨_, _, _, upd_same⟩ But.upd fr
theorem ok_pik (D : Df K a) (T : Txt K mg a) : FnOk P w K mg base CX0 2 a.fPik D.dPik ["_law_source_here", "_law_items"] spPik := by
  have GDrw : FnOk P w K mg base CX0 1 a.fDrw D.dDrw ["_law_source_here", "_law_many"] spDrw := ok_drw D T
  refine D.FPik.ok scPik (fun vs H Q E h => ?_) (fun cdv A outer s H vs Q E hr h => ?_)
  · obtain ⟨S, L, xs, rfl, _⟩ := h
    rfl
  · obtain ⟨S, L1, xs, rfl, hS, hL, ne, l0, l1, k⟩ := h
    refine ⟨_, (pss_one (ps_ret (pe_ix ix_list (pv 1) (pe_call GDrw hr rfl T.gDrw D.FDrw.kp D.bDrw .nil pass0 (pa_cons (pv 0) (pa_cons (pe_callB call_len_seq (by rfl) T.blen PySem.boot_len (pa_cons (pv 1) pa_nil)) pa_nil))) (fun _ _ => rfl)))), ?_⟩
    refine ⟨_, rfl, _, rfl, _, rfl, L1, xs, rfl, .inl (.inl (.inl hL)), S, _, rfl, hS, by omega, by omega, fun r H' r0 r1 hS' hB hF => ?_⟩
    have hi : r.toNat < xs.length := by omega
    refine ⟨L1, xs, r, xs[r.toNat], rfl, rfl, .inl (.inl (hB L1 _ hL ne)), ?_, k r.toNat _ H' (by simp [hi]) hS' hB hF⟩
    exact at_of (j := r.toNat) (by omega) (by simp [hi])
end
end G58

set_option Elab.async false
set_option linter.all false
set_option pp.maxSteps 2500
set_option maxRecDepth 100000
set_option maxHeartbeats 4000000
/-! k01: drawn fields. -/
namespace G58
open PySem PySem.Spec PyProof.Rows L2 LamX
theorem SrcAt.ne {H : Hp} {S : Addr} (h : SrcAt H S) : H S ≠ none := fun e => by
  obtain ⟨x, y, z, q⟩ := h
  rw [e] at q
  cases q
theorem src_same {H H' : Hp} {S : Addr} (h : SrcAt H S) (s : Same H H') : SrcAt H' S := by
  obtain ⟨x, y, z, q⟩ := h
  exact ⟨x, y, z, s _ _ q⟩
theorem src_ne {H : Hp} {S L : Addr} (h : SrcAt H S) (e : H L = none) : L ≠ S := fun z => h.ne (z ▸ e)
/-- a pick of what was just laid -/
theorem pickL {S L : Addr} {H : Hp} {xs : List V} {Q : VK} {E : XK} (hS : SrcAt H S) (hL : H L = none) (l0 : 0 < xs.length) (l1 : xs.length < 1000)
    (k : ∀ (i : Nat) (x : V) (H' : Hp), xs[i]? = some x → SrcAt H' S → But S H H' → Q x H') : spPik [.ref S, .ref L] (upd H L (.lst xs)) Q E := by
  have s := same_new (o := .lst xs) (Same.refl H) hL
  exact ⟨S, L, xs, rfl, src_same hS s, upd_same, src_ne hS hL, l0, l1, fun i x H' hx h1 h2 _ => k i x H' hx h1 ((Same.but s).trans h2)⟩
def Byts (ns : List Int) : Prop := ∀ n ∈ ns, 0 ≤ n ∧ n ≤ 255
def Unts (ns : List Int) : Prop := ∀ n ∈ ns, 0 ≤ n ∧ n ≤ 65535
def spOct : Sp := fun vs H Q _ => ∃ (S : Addr) (m : Nat), vs = [.ref S, .int (m : Nat)] ∧ SrcAt H S ∧ m ≤ 100 ∧ ∀ (ns : List Int) (L : Addr) (H' : Hp), ns.length = m → Byts ns → L ≠ S → H' L = some (.lst (ns.map V.int)) → SrcAt H' S → But S H H' → Q (.ref L) H'
def spUni : Sp := fun vs H Q _ => ∃ (S : Addr), vs = [.ref S] ∧ SrcAt H S ∧ ∀ (ns : List Int) (L : Addr) (H' : Hp), ns.length ≤ 100 → Unts ns → ns.all plainI = false → L ≠ S → H' L = some (.lst (ns.map V.int)) → SrcAt H' S → But S H H' → Q (.ref L) H'
section
variable {P : Program} {w : World} {K : PySem.W.Frag} {mg : Str → Option Value} {base : Heap} {a : Ad}
theorem scOct : FnScope ["_law_source_here", "_law_many", "_law_k"] ["_law_source_here", "_law_many"] (defScope sOct) := ⟨rfl, rfl, rfl, by decide +kernel, rfl, by decide +kernel, by decide +kernel⟩
theorem ok_oct (D : Df K a) (T : Txt K mg a) : FnOk P w K mg base CX0 3 a.fOct D.dOct ["_law_source_here", "_law_many"] spOct := by
  have GDrw : FnOk P w K mg base CX0 1 a.fDrw D.dDrw ["_law_source_here", "_law_many"] spDrw := ok_drw D T
  have GPik : FnOk P w K mg base CX0 2 a.fPik D.dPik ["_law_source_here", "_law_items"] spPik := ok_pik D T
  refine D.FOct.ok scOct (fun vs H Q E h => ?_) (fun cdv A outer s H vs Q E hr h => ?_)
  · obtain ⟨S, m, rfl, _⟩ := h
    rfl
  · obtain ⟨S, m, rfl, hS, hm, k⟩ := h
    have hr2 : Room 2 _ := hr.mono (by decide)
    have hr1 : Room 1 _ := hr.mono (by decide)
    refine ⟨_, (pss_one (ps_ret (pe_lc (own := [("_law_k", 2)]) (g := (gName 2)) (tt := tYes) rfl scOct.nd (pi_range1 (by rfl) T.brange (pa_cons (pv 1) pa_nil)) (blkOk_by (N := ["_law_source_here", "_law_many", "_law_k"]) (sc := defScope sOct) (by decide +kernel)) (fun _ _ _ _ _ => (pg_name (i := 2) scOct.nd rfl (.inl rfl))) (fun _ _ _ _ _ => pts_nil) (fun _ _ _ _ _ => (pe_call GPik hr2 rfl T.gPik D.FPik.kp D.bPik .nil pass0 (pa_cons (pv 0) (pa_cons (pe_lst (pa_cons pe_int (pa_cons pe_int (pa_cons pe_int (pa_cons (pe_call GDrw hr1 rfl T.gDrw D.FDrw.kp D.bDrw .nil pass0 (pa_cons (pv 0) (pa_cons pe_int pa_nil))) pa_nil))))) pa_nil))))))), ?_⟩
    refine ⟨_, rfl, ((m : Nat) : Int), rfl, by omega, by omega, fun DL hDL => lc_it walk_range (fun i H' => ∃ ns : List Int, ns.length = i ∧ H' DL = some (.lst (ns.map V.int)) ∧ Byts ns ∧ SrcAt H' S ∧ But S H H')
      ⟨[], rfl, upd_same, fun _ z => (nomatch z), src_same hS (same_new (Same.refl H) hDL), Same.but (same_new (Same.refl H) hDL)⟩ (fun _ _ _ _ => True.intro) ?_ ?_⟩
    · rintro i y H1' H1 hi ⟨ns, hl, eL, hb, hS1, b1⟩ ⟨rfl, rfl⟩
      refine ⟨rfl, ?_⟩
      dsimp only [tYes]
      refine iteT ?_
      refine ⟨_, rfl, _, rfl, S, 256, rfl, hS1, by decide, by decide, fun r H2 r0 r1 hS2 b2 _ => ⟨by show 4 ≤ sizeLine; decide, fun L hL => pickL (E := E0) hS2 hL (by show 0 < 4; decide) (by show 4 < 1000; decide) fun j x H3 hx hS3 b3 => ?_⟩⟩
      obtain ⟨n, rfl, hn⟩ : ∃ n : Int, x = .int n ∧ 0 ≤ n ∧ n ≤ 255 := by
        have := List.mem_of_getElem? hx
        simp only [List.mem_cons, List.not_mem_nil, or_false] at this
        rcases this with rfl | rfl | rfl | rfl
        · exact ⟨_, rfl, by decide, by decide⟩
        · exact ⟨_, rfl, by decide, by decide⟩
        · exact ⟨_, rfl, by decide, by decide⟩
        · exact ⟨_, rfl, r0, by omega⟩
      have nL : DL ≠ S := src_ne hS hDL
      refine ⟨_, b3 _ _ (b2 _ _ eL nL) nL, ?_, ns ++ [n], ?_, ?_, ?_, ?_, ?_⟩
      · rw [List.length_map]
        exact Nat.lt_of_lt_of_le (by omega : _ < 200) (by decide)
      · rw [List.length_append, hl]
        rfl
      · rw [upd_same, List.map_append]
        rfl
      · intro q hq
        rcases List.mem_append.mp hq with hq | hq
        · exact hb q hq
        · rw [List.mem_singleton.mp hq]
          exact hn
      · obtain ⟨x1, x2, x3, e⟩ := hS3
        exact ⟨x1, x2, x3, by rw [upd_ne (Ne.symm nL)]; exact e⟩
      · intro b o e n1
        rw [upd_ne (ne_of_none e hDL)]
        exact b3 _ _ (b2 _ _ (b1 _ _ e n1) n1) n1
    · rintro H1 ⟨ns, hl, eL, hb, hS1, b1⟩
      exact k ns DL H1 (by rw [hl]; exact Int.toNat_natCast m) hb (src_ne hS hDL) eL hS1 b1
theorem scUni : FnScope ["_law_source_here", "_law_found", "_law_k"] ["_law_source_here"] (defScope sUni) := ⟨rfl, rfl, rfl, by decide +kernel, rfl, by decide +kernel, by decide +kernel⟩
theorem ok_uni (D : Df K a) (T : Txt K mg a) : FnOk P w K mg base CX0 3 a.fUni D.dUni ["_law_source_here"] spUni := by
  have GDrw : FnOk P w K mg base CX0 1 a.fDrw D.dDrw ["_law_source_here", "_law_many"] spDrw := ok_drw D T
  have GPik : FnOk P w K mg base CX0 2 a.fPik D.dPik ["_law_source_here", "_law_items"] spPik := ok_pik D T
  refine D.FUni.ok scUni (fun vs H Q E h => ?_) (fun cdv A outer s H vs Q E hr h => ?_)
  · obtain ⟨S, rfl, _⟩ := h
    rfl
  · obtain ⟨S, rfl, hS, k⟩ := h
    have hr2 : Room 2 _ := hr.mono (by decide)
    have hr1 : Room 1 _ := hr.mono (by decide)
    refine ⟨_, (pss_cons (ps_setLc (i := 1) (own := [("_law_k", 2)]) (g := (gName 2)) (tt := tYes) rfl scUni.nd rfl rfl (sw_true rfl rfl rfl (by decide +kernel)) (pi_range1 (by rfl) T.brange (pa_cons (pe_call GDrw hr1 rfl T.gDrw D.FDrw.kp D.bDrw .nil pass0 (pa_cons (pv 0) (pa_cons pe_int pa_nil))) pa_nil)) (blkOk_by (N := ["_law_source_here", "_law_found", "_law_k"]) (sc := defScope sUni) (by decide +kernel)) (fun _ _ _ _ _ => (pg_name (i := 2) scUni.nd rfl (.inl rfl))) (fun _ _ _ _ _ => pts_nil) (fun _ _ _ _ _ => (pe_call GPik hr2 rfl T.gPik D.FPik.kp D.bPik .nil pass0 (pa_cons (pv 0) (pa_cons (pe_lst (pa_cons pe_int (pa_cons pe_int (pa_cons pe_int (pa_cons pe_int (pa_cons pe_int (pa_cons (pe_call GDrw hr1 rfl T.gDrw D.FDrw.kp D.bDrw .nil pass0 (pa_cons (pv 0) (pa_cons pe_int pa_nil))) pa_nil))))))) pa_nil))))) (pss_cons (ps_expr (pe_bm PySem.F.plainAttrs_list PySem.F.slot_list_insert PySem.F.type_list_insert mt_insert (pv 1) (pa_cons (pe_call GDrw hr1 rfl T.gDrw D.FDrw.kp D.bDrw .nil pass0 (pa_cons (pv 0) (pa_cons (pe_op op_add (pe_callB call_len_seq (by rfl) T.blen PySem.boot_len (pa_cons (pv 1) pa_nil)) pe_int) pa_nil))) (pa_cons (pe_call GPik hr2 rfl T.gPik D.FPik.kp D.bPik .nil pass0 (pa_cons (pv 0) (pa_cons (pe_lst (pa_cons pe_int (pa_cons pe_int (pa_cons pe_int (pa_cons pe_int (pa_cons pe_int (pa_cons pe_int pa_nil))))))) pa_nil))) pa_nil)))) (pss_one (ps_ret (pv 1))))), ?_⟩
    refine ⟨_, rfl, S, 6, rfl, hS, by decide, by decide, fun m H1 m0 m1 hS1 b1 f1 => ?_⟩
    refine ⟨m, rfl, by omega, by omega, fun DL hDL => lc_it walk_range (fun i H' => ∃ ns : List Int, ns.length = i ∧ H' DL = some (.lst (ns.map V.int)) ∧ Unts ns ∧ SrcAt H' S ∧ But S H1 H')
      ⟨[], rfl, upd_same, fun _ z => (nomatch z), src_same hS1 (same_new (Same.refl H1) hDL), Same.but (same_new (Same.refl H1) hDL)⟩ (fun _ _ _ _ => True.intro) ?_ ?_⟩
    · rintro i y H1' H2 hi ⟨ns, hl, eL, hb, hS2, b2⟩ ⟨rfl, rfl⟩
      refine ⟨rfl, ?_⟩
      dsimp only [tYes]
      refine iteT ?_
      refine ⟨_, rfl, _, rfl, S, 65536, rfl, hS2, by decide, by decide, fun r H3 r0 r1 hS3 b3 _ => ⟨by show 6 ≤ sizeLine; decide, fun L hL => pickL (E := E0) hS3 hL (by show 0 < 6; decide) (by show 6 < 1000; decide) fun j x H4 hx hS4 b4 => ?_⟩⟩
      obtain ⟨n, rfl, hn⟩ : ∃ n : Int, x = .int n ∧ 0 ≤ n ∧ n ≤ 65535 := by
        have := List.mem_of_getElem? hx
        simp only [List.mem_cons, List.not_mem_nil, or_false] at this
        rcases this with rfl | rfl | rfl | rfl | rfl | rfl
        · exact ⟨_, rfl, by decide, by decide⟩
        · exact ⟨_, rfl, by decide, by decide⟩
        · exact ⟨_, rfl, by decide, by decide⟩
        · exact ⟨_, rfl, by decide, by decide⟩
        · exact ⟨_, rfl, by decide, by decide⟩
        · exact ⟨_, rfl, r0, by omega⟩
      have nL : DL ≠ S := src_ne hS1 hDL
      refine ⟨_, b4 _ _ (b3 _ _ eL nL) nL, ?_, ns ++ [n], ?_, ?_, ?_, ?_, ?_⟩
      · rw [List.length_map]
        exact Nat.lt_of_lt_of_le (by omega : _ < 200) (by decide)
      · rw [List.length_append, hl]
        rfl
      · rw [upd_same, List.map_append]
        rfl
      · intro q hq
        rcases List.mem_append.mp hq with hq | hq
        · exact hb q hq
        · rw [List.mem_singleton.mp hq]
          exact hn
      · obtain ⟨x1, x2, x3, e⟩ := hS4
        exact ⟨x1, x2, x3, by rw [upd_ne (Ne.symm nL)]; exact e⟩
      · intro b o e n1
        rw [upd_ne (ne_of_none e hDL)]
        exact b4 _ _ (b3 _ _ (b2 _ _ e n1) n1) n1
    · rintro H2 ⟨ns, hl, eL, hb, hS2, b2⟩
      have nL : DL ≠ S := src_ne hS1 hDL
      have l6 : ns.length ≤ 6 := by omega
      refine ⟨_, rfl, .inl ⟨rfl, _, .inl (.inl eL)⟩, _, rfl, _, rfl, DL, _, rfl, .inl (.inl (.inl eL)), _, _, rfl, rfl, S, _, rfl, hS2, ?_, ?_, fun d H3 d0 d1 hS3 b3 _ => ?_⟩
      · rw [List.length_map]
        omega
      · rw [List.length_map]
        omega
      rw [List.length_map] at d1
      refine ⟨_, rfl, by show 6 ≤ sizeLine; decide, fun L hL => pickL (E := E0) hS3 hL (by show 0 < 6; decide) (by show 6 < 1000; decide) fun j x H4 hx hS4 b4 => ?_⟩
      obtain ⟨n, rfl, hn0, hn1, hnp⟩ : ∃ n : Int, x = .int n ∧ 0 ≤ n ∧ n ≤ 65535 ∧ plainI n = false := by
        have := List.mem_of_getElem? hx
        simp only [List.mem_cons, List.not_mem_nil, or_false] at this
        rcases this with rfl | rfl | rfl | rfl | rfl | rfl
        · exact ⟨_, rfl, by decide, by decide, by decide⟩
        · exact ⟨_, rfl, by decide, by decide, by decide⟩
        · exact ⟨_, rfl, by decide, by decide, by decide⟩
        · exact ⟨_, rfl, by decide, by decide, by decide⟩
        · exact ⟨_, rfl, by decide, by decide, by decide⟩
        · exact ⟨_, rfl, by decide, by decide, by decide⟩
      have eL4 := b4 _ _ (b3 _ _ eL nL) nL
      have b14 := (b1.trans b2).trans (b3.trans b4)
      refine ⟨DL, _, d, _, rfl, rfl, eL4, ?_, d0, by omega, ?_⟩
      · rw [List.length_map]
        exact Nat.lt_of_lt_of_le (by omega : _ < 200) (by decide)
      refine ⟨_, rfl, ?_⟩
      have em : (ns.map V.int).take d.toNat ++ [V.int n] ++ (ns.map V.int).drop d.toNat = (ns.take d.toNat ++ [n] ++ ns.drop d.toNat).map V.int := by
        rw [List.map_append, List.map_append, List.map_take, List.map_drop]
        rfl
      rw [em]
      have hm : ∀ q, q ∈ ns.take d.toNat ++ [n] ++ ns.drop d.toNat → q = n ∨ q ∈ ns := fun q hq => by
        rcases List.mem_append.mp hq with hq | hq
        · rcases List.mem_append.mp hq with hq | hq
          · exact .inr (List.mem_of_mem_take hq)
          · exact .inl (List.mem_singleton.mp hq)
        · exact .inr (List.mem_of_mem_drop hq)
      refine k _ DL _ ?_ (fun q hq => ?_) ?_ nL upd_same ?_ ?_
      · rw [List.length_append, List.length_append, List.length_take, List.length_drop, List.length_singleton]
        omega
      · rcases hm q hq with rfl | hq
        · exact ⟨hn0, hn1⟩
        · exact hb q hq
      · rw [List.all_append, List.all_append, List.all_cons, hnp]
        simp
      · obtain ⟨x1, x2, x3, e⟩ := hS4
        exact ⟨x1, x2, x3, by rw [upd_ne (Ne.symm nL)]; exact e⟩
      · intro b o e n1
        rw [upd_ne (ne_of_none e (by
          cases z : H DL with
          | none => rfl
          | some o2 => 
            have := b1 _ _ z nL
            rw [hDL] at this
            cases this))]
        exact b14 _ _ e n1
end
end G58

set_option Elab.async false
set_option linter.all false
set_option pp.maxSteps 2500
set_option maxRecDepth 100000
set_option maxHeartbeats 4000000
/-! k01: a good field drawn; the field of a thing. -/
namespace G58
open PySem PySem.Spec PyProof.Rows L2 LamX
/-- a field as it is handed in: a number or a list of its own -/
def LstAt (S : Addr) (H : Hp) (v : V) : FV → Prop
  | .num n => v = .int n
  | .row ns => ∃ L, v = .ref L ∧ L ≠ S ∧ H L = some (.lst (ns.map V.int))
def FV.ok (y : Wy) (f : FV) : Prop := f.arg.good y = true ∧ match f with
  | .num _ => True
  | .row ns => ns.length ≤ 100
def spDrn (y : Wy) : Sp := fun vs H Q _ => ∃ (S : Addr), vs = [.ref S, .int (y.num : Nat)] ∧ SrcAt H S ∧ ∀ (f : FV) (v : V) (H' : Hp), f.ok y → LstAt S H' v f → SrcAt H' S → But S H H' → Q v H'
theorem byts_all {ns : List Int} (h : Byts ns) : (ns.map V.int).all (isIn 0 255) = true := by
  rw [List.all_eq_true]
  intro x hx
  obtain ⟨n, hn, rfl⟩ := List.mem_map.mp hx
  show (decide (0 ≤ n) && decide (n ≤ 255)) = true
  rw [decide_eq_true (h n hn).1, decide_eq_true (h n hn).2]
  rfl
theorem unts_all {ns : List Int} (h : Unts ns) : (ns.map V.int).all (isIn 0 65535) = true := by
  rw [List.all_eq_true]
  intro x hx
  obtain ⟨n, hn, rfl⟩ := List.mem_map.mp hx
  show (decide (0 ≤ n) && decide (n ≤ 65535)) = true
  rw [decide_eq_true (h n hn).1, decide_eq_true (h n hn).2]
  rfl
theorem good_units {ns : List Int} (h : Unts ns) (hp : ns.all plainI = false) : Arg.good .w (FV.row ns).arg = true := by
  show ((ns.map V.int).all (isIn 0 65535) && !(ns.map V.int).all plainV) = true
  rw [unts_all h, plain_ints, hp]
  rfl
section
variable {P : Program} {w : World} {K : PySem.W.Frag} {mg : Str → Option Value} {base : Heap} {a : Ad}
theorem scDrn : FnScope ["_law_source_here", "_law_way"] ["_law_source_here", "_law_way"] (defScope sDrn) := ⟨rfl, rfl, rfl, by decide +kernel, rfl, by decide +kernel, by decide +kernel⟩
theorem ok_drn (D : Df K a) (T : Txt K mg a) (y : Wy) : FnOk P w K mg base CX0 4 a.fDrn D.dDrn ["_law_source_here", "_law_way"] (spDrn y) := by
  have GDrw : FnOk P w K mg base CX0 1 a.fDrw D.dDrw ["_law_source_here", "_law_many"] spDrw := ok_drw D T
  have GPik : FnOk P w K mg base CX0 2 a.fPik D.dPik ["_law_source_here", "_law_items"] spPik := ok_pik D T
  have GUni : FnOk P w K mg base CX0 3 a.fUni D.dUni ["_law_source_here"] spUni := ok_uni D T
  have GOct : FnOk P w K mg base CX0 3 a.fOct D.dOct ["_law_source_here", "_law_many"] spOct := ok_oct D T
  refine D.FDrn.ok scDrn (fun vs H Q E h => ?_) (fun cdv A outer s H vs Q E hr h => ?_)
  · obtain ⟨S, rfl, _⟩ := h
    rfl
  · obtain ⟨S, rfl, hS, k⟩ := h
    have hr2 : Room 2 _ := hr.mono (by decide)
    have hr1 : Room 1 _ := hr.mono (by decide)
    refine ⟨_, (pss_cons (ps_if (pt_cmpR op_eq (pv 1) pe_int (nomark _)) (pss_one (ps_ret (pe_call GUni hr rfl T.gUni D.FUni.kp D.bUni .nil pass0 (pa_cons (pv 0) pa_nil)))) pss_nil) (pss_cons (ps_if (pt_cmpR op_eq (pv 1) pe_int (nomark _)) (pss_one (ps_ret (pe_call GPik hr2 rfl T.gPik D.FPik.kp D.bPik .nil pass0 (pa_cons (pv 0) (pa_cons (pe_lst (pa_cons pe_int (pa_cons pe_int (pa_cons (pe_op op_sub (pe_op op_pow pe_int pe_int) pe_int) (pa_cons (pe_call GDrw hr1 rfl T.gDrw D.FDrw.kp D.bDrw .nil pass0 (pa_cons (pv 0) (pa_cons (pe_op op_pow pe_int pe_int) pa_nil))) pa_nil))))) pa_nil))))) pss_nil) (pss_one (ps_ret (pe_call GOct hr rfl T.gOct D.FOct.kp D.bOct .nil pass0 (pa_cons (pv 0) (pa_cons (pe_ix ix_list (pe_lst (pa_cons pe_int (pa_cons (pe_call GPik hr2 rfl T.gPik D.FPik.kp D.bPik .nil pass0 (pa_cons (pv 0) (pa_cons (pe_lst (pa_cons pe_int (pa_cons pe_int (pa_cons pe_int (pa_cons pe_int (pa_cons pe_int pa_nil)))))) pa_nil))) (pa_cons pe_int (pa_cons (pe_call GPik hr2 rfl T.gPik D.FPik.kp D.bPik .nil pass0 (pa_cons (pv 0) (pa_cons (pe_lst (pa_cons pe_int (pa_cons pe_int pa_nil))) pa_nil))) (pa_cons pe_int pa_nil)))))) (pv 1) (fun _ _ => rfl)) pa_nil))))))), ?_⟩
    by_cases cw : y = .w
    · subst cw
      refine ⟨_, rfl, rfl, true, congrArg V.bl (by decide), iteT ?_⟩
      refine ⟨_, rfl, S, rfl, hS, fun ns L H1 hl hu hp nL eL hS1 b1 => ?_⟩
      exact k (.row ns) (.ref L) H1 ⟨good_units hu hp, hl⟩ ⟨L, rfl, nL, eL⟩ hS1 b1
    by_cases cu : y = .u
    · subst cu
      refine ⟨_, rfl, rfl, false, congrArg V.bl (by decide), iteF ?_⟩
      refine ⟨_, rfl, rfl, true, congrArg V.bl (by decide), iteT ?_⟩
      refine ⟨_, rfl, _, _, rfl, rfl, ⟨by decide, by decide, by decide⟩, _, _, rfl, rfl, _, rfl, _, _, rfl, rfl, ⟨by decide, by decide, by decide⟩, S, _, rfl, hS, by decide, by decide, fun r H1 r0 r1 hS1 b1 _ => ⟨by show 4 ≤ sizeLine; decide, fun L hL => pickL (E := E0) hS1 hL (by show 0 < 4; decide) (by show 4 < 1000; decide) fun j x H2 hx hS2 b2 => ?_⟩⟩
      have e64 : (2 : Int) ^ (64 : Int).toNat = 18446744073709551616 := by decide
      rw [e64] at r1
      obtain ⟨n, rfl, hn0, hn1⟩ : ∃ n : Int, x = .int n ∧ 0 ≤ n ∧ n ≤ 18446744073709551615 := by
        have := List.mem_of_getElem? hx
        simp only [List.mem_cons, List.not_mem_nil, or_false] at this
        rcases this with rfl | rfl | rfl | rfl
        · exact ⟨_, rfl, by decide, by decide⟩
        · exact ⟨_, rfl, by decide, by decide⟩
        · exact ⟨_, rfl, by decide, by decide⟩
        · exact ⟨_, rfl, r0, by omega⟩
      refine k (.num n) _ H2 ⟨?_, trivial⟩ rfl hS2 (b1.trans b2)
      show (decide (0 ≤ n) && decide (n ≤ 18446744073709551615)) = true
      rw [decide_eq_true hn0, decide_eq_true hn1]
      rfl
    have n0 : decide (V.int (y.num : Nat) = V.int 0) = false := by
      revert cw
      cases y <;> first | exact fun h => absurd rfl h | exact fun _ => by decide
    have n2 : decide (V.int (y.num : Nat) = V.int 2) = false := by
      revert cu
      cases y <;> first | exact fun h => absurd rfl h | exact fun _ => by decide
    refine ⟨_, rfl, rfl, false, congrArg V.bl n0, iteF ?_⟩
    refine ⟨_, rfl, rfl, false, congrArg V.bl n2, iteF ?_⟩
    refine ⟨_, rfl, _, rfl, by show 5 ≤ sizeLine; decide, fun L1 hL1 => pickL (E := E0) hS hL1 (by show 0 < 5; decide) (by show 5 < 1000; decide) fun j1 x1 H1 hx1 hS1 b1 => ?_⟩
    obtain ⟨p1, rfl, hp1⟩ : ∃ n : Nat, x1 = .int (n : Nat) ∧ n ≤ 20 := by
      have := List.mem_of_getElem? hx1
      simp only [List.mem_cons, List.not_mem_nil, or_false] at this
      rcases this with rfl | rfl | rfl | rfl | rfl
      · exact ⟨0, rfl, by decide⟩
      · exact ⟨1, rfl, by decide⟩
      · exact ⟨4, rfl, by decide⟩
      · exact ⟨8, rfl, by decide⟩
      · exact ⟨20, rfl, by decide⟩
    refine ⟨_, rfl, by show 2 ≤ sizeLine; decide, fun L2 hL2 => pickL (E := E0) hS1 hL2 (by show 0 < 2; decide) (by show 2 < 1000; decide) fun j2 x2 H2 hx2 hS2 b2 => ?_⟩
    obtain ⟨p2, rfl, hp2⟩ : ∃ n : Nat, x2 = .int (n : Nat) ∧ (n = 4 ∨ n = 8) := by
      have := List.mem_of_getElem? hx2
      simp only [List.mem_cons, List.not_mem_nil, or_false] at this
      rcases this with rfl | rfl
      · exact ⟨4, rfl, .inl rfl⟩
      · exact ⟨8, rfl, .inr rfl⟩
    refine ⟨by show 5 ≤ sizeLine; decide, fun L3 hL3 => ?_⟩
    have s3 := same_new (o := .lst [V.int 0, .int (p1 : Nat), .int 0, .int (p2 : Nat), .int 8]) (Same.refl H2) hL3
    obtain ⟨m, hm, hml, hg⟩ : ∃ m : Nat, atI [V.int 0, .int (p1 : Nat), .int 0, .int (p2 : Nat), .int 8] (y.num : Nat) = some (.int (m : Nat)) ∧ m ≤ 20 ∧ ∀ ns : List Int, ns.length = m → Byts ns → Arg.good y (FV.row ns).arg = true := by
      cases y with
      | w => exact absurd rfl cw
      | u => exact absurd rfl cu
      | d => exact ⟨p1, rfl, hp1, fun ns _ hb => byts_all hb⟩
      | r =>
        refine ⟨p2, rfl, by omega, fun ns hl hb => ?_⟩
        show ((ns.map V.int).all (isIn 0 255) && (decide ((ns.map V.int).length = 4) || decide ((ns.map V.int).length = 8))) = true
        rw [byts_all hb, List.length_map, hl]
        rcases hp2 with rfl | rfl <;> rfl
      | t =>
        refine ⟨8, rfl, by decide, fun ns hl hb => ?_⟩
        show ((ns.map V.int).all (isIn 0 255) && decide ((ns.map V.int).length = 8)) = true
        rw [byts_all hb, List.length_map, hl]
        rfl
    refine ⟨_, rfl, L3, _, _, _, rfl, rfl, .inl (.inl upd_same), hm, S, m, rfl, src_same hS2 s3, by omega, fun ns L H4 hl hb nL eL hS4 b4 => ?_⟩
    exact k (.row ns) (.ref L) H4 ⟨hg ns hl hb, by show ns.length ≤ 100; omega⟩ ⟨L, rfl, nL, eL⟩ hS4 (((b1.trans b2).same s3).trans b4)
def spFld (a : Ad) (y : Wy) : Sp := fun vs H Q _ => ∃ (p dx : Addr) (v : V), vs = [.int (y.num : Nat), .ref p] ∧ H p = some (.ins (y.cls a) dx [(y.fld, v)]) ∧ Q v H
theorem scFld : FnScope ["_law_way", "_law_thing"] ["_law_way", "_law_thing"] (defScope sFld) := ⟨rfl, rfl, rfl, by decide +kernel, rfl, by decide +kernel, by decide +kernel⟩
theorem ok_fld (D : Df K a) (T : Txt K mg a) (y : Wy) : FnOk P w K mg base CX0 1 a.fFld D.dFld ["_law_way", "_law_thing"] (spFld a y) := by
  refine D.FFld.ok scFld (fun vs H Q E h => ?_) (fun cdv A outer s H vs Q E hr h => ?_)
  · obtain ⟨p, dx, v, rfl, _⟩ := h
    rfl
  · obtain ⟨p, dx, v, rfl, hp, k⟩ := h
    refine ⟨_, (pss_cons (ps_if (pt_cmpR op_eq (pv 0) pe_int (nomark _)) (pss_one (ps_ret (pe_fld (pv 1) rfl))) pss_nil) (pss_one (ps_ret (pe_ifExp (pt_cmpR op_eq (pv 0) pe_int (nomark _)) (pe_fld (pv 1) rfl) (pe_fld (pv 1) rfl))))), ?_⟩
    cases y with
    | w => exact ⟨_, rfl, rfl, true, congrArg V.bl (by decide), iteT ⟨_, rfl, p, a.cWide, dx, _, _, rfl, hp, T.clWide, T.nWide_units, rfl, k⟩⟩
    | u => exact ⟨_, rfl, rfl, false, congrArg V.bl (by decide), iteF ⟨_, rfl, rfl, true, congrArg V.bl (by decide), iteT ⟨_, rfl, p, a.cUid, dx, _, _, rfl, hp, T.clUid, T.nUid_number, rfl, k⟩⟩⟩
    | d => exact ⟨_, rfl, rfl, false, congrArg V.bl (by decide), iteF ⟨_, rfl, rfl, false, congrArg V.bl (by decide), iteF ⟨_, rfl, p, a.cData, dx, _, _, rfl, hp, T.clData, T.nData_octets, rfl, k⟩⟩⟩
    | r => exact ⟨_, rfl, rfl, false, congrArg V.bl (by decide), iteF ⟨_, rfl, rfl, false, congrArg V.bl (by decide), iteF ⟨_, rfl, p, a.cReal, dx, _, _, rfl, hp, T.clReal, T.nReal_octets, rfl, k⟩⟩⟩
    | t => exact ⟨_, rfl, rfl, false, congrArg V.bl (by decide), iteF ⟨_, rfl, rfl, false, congrArg V.bl (by decide), iteF ⟨_, rfl, p, a.cDate, dx, _, _, rfl, hp, T.clDate, T.nDate_octets, rfl, k⟩⟩⟩
end
end G58

set_option Elab.async false
set_option linter.all false
set_option pp.maxSteps 2500
set_option maxRecDepth 100000
set_option maxHeartbeats 4000000
/-! k01: things made by lambdas. -/
namespace G58
open PySem PySem.Spec PyProof.Rows L2 LamX
abbrev nMad : List Str := ["_law_way", "_law_some", "_law_is_named", "_law_made_here"]
abbrev madQ : Str := (envOfC "_law_made" (defScope sMad) 0 0 .none).qual ++ "<lambda>"
theorem oneQ {pT P : Addr} {q : Str} : ∀ p ∈ [(pT, q)], p.1 = P → p.2 = q := fun p hp _ => by
  rw [List.mem_singleton.mp hp]
/-- a def whose code object's address is known -/
def FunC (K : PySem.W.Frag) (x qual : Str) (st : Stmt) (f : Addr) (fd : FuncData) (c : Addr) : Prop :=
  ∃ (oc : Value) (od : Option Addr) (kV doc pm : Value) (an : Option Addr) (ct : Value) (osl : Array (Option Value)),
    fd = PySem.W.fnOf x qual (defArgs st) (defBody st) (defScope st) .none kV doc pm an (.ref c) ct ∧ K.lookup f = some ⟨oc, od, .func fd, osl⟩ ∧ PySem.W.codeIn K (.ref c) qual = true
theorem FunC.okX {P : Program} {w : World} {K : PySem.W.Frag} {mg : Str → Option Value} {base : Heap} {c : Addr} {x qual : Str} {st : Stmt} {f : Addr} {fd : FuncData} {N ps : List Str} {k : Nat} {sp : Sp} (F : FunC K x qual st f fd c) (S : FnScope N ps (defScope st)) (len : ∀ vs H Q E, sp vs H Q E → vs.length = ps.length)
    (hbody : ∀ (A : Around) (outer : List Env) (s : Shared) (H : Hp) (vs : List V) (Q : VK) (E : XK), Room k (A.deeper (envOfC qual (defScope st) s.heap.objs.size f (.ref c))) → sp vs H Q E →
      ∃ t, PSs (cxOf (L2.CX P w) P w K mg base N qual (defScope st) f (.ref c) A outer s H E) (defBody st) t ∧ t { nx := fun _ H' => Q .non H', rt := Q } (start N vs) H) : FnOk P w K mg base (L2.CX P w) (k + 1) f fd ps sp := by
  obtain ⟨oc, od, kV, doc, pm, an, ct, osl, rfl, lk, hcd⟩ := F
  exact fn_of lk hcd S len fun A outer s H vs Q E hr hsp => hbody A outer s H vs Q E hr hsp
/-- a lambda of the frame X, by what a call of it promises -/
def LamOk (X : Cx) (E : XK) (k : Nat) (f : Addr) (H : Hp) (te : TE) : Prop := ∃ (c' : Addr) (params : Arguments) (body : Expr) (scope : Scope),
  H f = some (LamO f c' (X.env.qual ++ "<lambda>") params body scope (cloFrom X.env.cells scope.names [])) ∧ H c' = some (CodeO c' (X.env.qual ++ "<lambda>")) ∧ LamS X.env.scope scope ∧
  (∀ (pm cv ctv : Value), bindArgs (PySem.W.kla_fn "<lambda>" (X.env.qual ++ "<lambda>") params body scope (cloFrom X.env.cells scope.names []) pm cv ctv) ⟨[], []⟩ = pure []) ∧
  ∀ (A : Around) (outer : List Env) (s : Shared) (H : Hp), Room k (A.deeper (lamEnv X scope s.heap.objs.size f c')) → PE (lamCx X A outer s H E scope f c') body te
theorem lamO_tbl {f c' : Addr} {q : Str} {params : Arguments} {body : Expr} {scope : Scope} {cl : List (Str × Addr)} (ps : Array Value) : LamO f c' q params body scope cl ≠ .tbl ps := fun z => by
  unfold LamO at z
  cases z
theorem LamOk.extN {X : Cx} {E : XK} {k : Nat} {f : Addr} {H H' : Hp} {te : TE} (h : LamOk X E k f H te) (e : ExtN H H') : LamOk X E k f H' te := by
  obtain ⟨c', params, body, scope, h1, h2, h3⟩ := h
  exact ⟨c', params, body, scope, e _ _ h1 lamO_tbl, e _ _ h2 codeO_ne, h3⟩
abbrev XM (P : Program) (w : World) (K : PySem.W.Frag) (mg : Str → Option Value) (base : Heap) (a : Ad) (c : Addr) (A : Around) (outer : List Env) (s : Shared) (H : Hp) (E : XK) : Cx := cxOf (L2.CX P w) P w K mg base nMad "_law_made" (defScope sMad) a.fMad (.ref c) A outer s H E
def spMad (K : PySem.W.Frag) (a : Ad) (pT : Addr) : Sp := fun vs H Q E => ∃ (y : Wy) (v : V) (b : Bool) (g : Arg), vs = [.int (y.num : Nat), v, .bl b] ∧ ArgAt K H v g ∧ Tabs [(pT, madQ)] H ∧
  (g.good y = true → ∀ p H', ExtN H H' → Tabs [(pT, madQ)] H' → ThAt K a H' p y g → Q (.ref p) H') ∧
  (g.good y = false → ∀ d t H', ExtN H H' → Tabs [(pT, madQ)] H' → H' d = some (.xd (pthF t)) → SqT K H' t [] → E (.ref a.cNoValue) (some d) H')
theorem make_same {H : Hp} {x dx C : Addr} (hx : H x = none) (hd : H dx = none) (n : dx ≠ x) : Same H (upd (upd H dx (.own x)) x (.ins C dx [])) := fun b o e => by
  rw [upd_ne (ne_of_none e hx), upd_ne (ne_of_none e hd)]
  exact e
theorem init_go {K : PySem.W.Frag} {a : Ad} {y : Wy} {g : Arg} {v : V} {H : Hp} {Q : VK} {E : XK} (hv : ArgAt K H v g) (k1 : g.good y = true → ∀ p H', H p = none → Same H H' → ThAt K a H' p y g → Q (.ref p) H') (k2 : g.good y = false → OutV K a H E)
    (x dx : Addr) (hx : H x = none) (hd : H dx = none) (n : dx ≠ x) : spInit K a y [.ref x, v] (upd (upd H dx (.own x)) x (.ins (y.cls a) dx [])) (fun u H2 => u = .non ∧ Q (.ref x) H2) E := by
  have s := make_same (C := y.cls a) hx hd n
  refine ⟨x, dx, v, g, rfl, upd_same, hv.extN (.of s), fun e H' v' bx e1 e2 => ⟨rfl, ?_⟩, fun e => (k2 e).same s⟩
  exact k1 e x H' hx (fun b o e3 => bx _ _ (s _ _ e3) (ne_of_none e3 hx)) ⟨dx, v', e1, e2⟩
abbrev teN (K : PySem.W.Frag) (a : Ad) (E : XK) (y : Wy) : TE := tMakeK (y.cls a) 0 1 (spInit K a y) (fun us ws => us ++ ws) E tNil (tCons (tVar 1) tNil)
abbrev teP (K : PySem.W.Frag) (a : Ad) (E : XK) (y : Wy) : TE := tMake (y.cls a) (spInit K a y) [] E (tCons (tVar 1) tNil)
theorem kb_of {K : PySem.W.Frag} {x qual p : Str} {st : Stmt} {f : Addr} {fd : FuncData} (F : Fun K x qual st f fd)
    (h : ∀ (kV doc pm : Value) (an : Option Addr) (cdv ct u v : Value), bindArgs (PySem.W.fnOf x qual (defArgs st) (defBody st) (defScope st) .none kV doc pm an cdv ct) ⟨[u], [(p, v)]⟩ = pure [(("self" : Str), u), (p, v)]) : KBn K fd ["self", p] 1 [p] (fun us ws => us ++ ws) (fun us ws => us ++ ws) := by
  obtain ⟨oc, od, kV, doc, pm, an, cdv, ct, osl, rfl, lk, hcd⟩ := F.ex
  exact ⟨fun s us ws X l1 l2 => match us, ws, l1, l2 with
    | [u], [v], _, _ => .of_eq (h kV doc pm an cdv ct u v), fun r1 r2 => r1.append r2⟩
theorem tabs_upd {T : List (Addr × Str)} {H : Hp} {D : Addr} {xs : List V} {o : HO} (t : Tabs T H) (h : H D = some (.lst xs)) : Tabs T (upd H D o) := fun p hp => by
  obtain ⟨ps, h1, h2, h3⟩ := t p hp
  have n : p.1 ≠ D := fun z => by
    rw [z, h] at h1
    cases h1
  refine ⟨ps, by rw [upd_ne n]; exact h1, h2, fun pos cv hc => ?_⟩
  obtain ⟨c, e1, e2⟩ := h3 pos cv hc
  have n2 : c ≠ D := fun z => by
    rw [z, h] at e2
    unfold CodeO at e2
    cases e2
  exact ⟨c, e1, by rw [upd_ne n2]; exact e2⟩
theorem LamOk.updL {X : Cx} {E : XK} {k : Nat} {f D : Addr} {H : Hp} {te : TE} {xs : List V} {o : HO} (h : LamOk X E k f H te) (hD : H D = some (.lst xs)) : LamOk X E k f (upd H D o) te := by
  obtain ⟨c', params, body, scope, h1, h2, h3⟩ := h
  have n : f ≠ D := fun z => by
    rw [z, hD] at h1
    unfold LamO at h1
    cases h1
  have n2 : c' ≠ D := fun z => by
    rw [z, hD] at h2
    unfold CodeO at h2
    cases h2
  exact ⟨c', params, body, scope, by rw [upd_ne n]; exact h1, by rw [upd_ne n2]; exact h2, h3⟩
def fv5 (f1 f2 f3 f4 f5 : Addr) : List V := [.ref f1, .ref f2, .ref f3, .ref f4, .ref f5]
def wy5 (f1 f2 f3 f4 f5 : Addr) : Wy → Addr
  | .w => f1
  | .d => f2
  | .u => f3
  | .r => f4
  | .t => f5
theorem fv5_at (f1 f2 f3 f4 f5 : Addr) (y : Wy) : atI (fv5 f1 f2 f3 f4 f5) (y.num : Nat) = some (.ref (wy5 f1 f2 f3 f4 f5 y)) := by
  cases y <;> rfl
section
variable {P : Program} {w : World} {K : PySem.W.Frag} {mg : Str → Option Value} {base : Heap} {a : Ad}
theorem scMad : FnScope ["_law_way", "_law_some", "_law_is_named", "_law_made_here"] ["_law_way", "_law_some", "_law_is_named"] (defScope sMad) := ⟨rfl, rfl, rfl, by decide +kernel, rfl, by decide +kernel, by decide +kernel⟩
theorem ok_mad (D : Df K a) (T : Txt K mg a) {c pT : Addr} (FC : FunC K "_law_made" "_law_made" sMad a.fMad D.dMad c) (TB : TabB base mg c pT) : FnOk P w K mg base (L2.CX P w) 7 a.fMad D.dMad ["_law_way", "_law_some", "_law_is_named"] (spMad K a pT) := by
  have GiW : FnOk P w K mg base (L2.CX P w) 4 a.fiW D.diW ["self", "units"] (spInit K a .w) := ok_iW D T
  have GiD : FnOk P w K mg base (L2.CX P w) 4 a.fiD D.diD ["self", "octets"] (spInit K a .d) := ok_iD D T
  have GiU : FnOk P w K mg base (L2.CX P w) 4 a.fiU D.diU ["self", "number"] (spInit K a .u) := ok_iU D T
  have GiR : FnOk P w K mg base (L2.CX P w) 4 a.fiR D.diR ["self", "octets"] (spInit K a .r) := ok_iR D T
  have GiT : FnOk P w K mg base (L2.CX P w) 4 a.fiT D.diT ["self", "octets"] (spInit K a .t) := ok_iT D T
  refine FC.okX scMad (fun vs H Q E h => ?_) (fun A outer s H vs Q E hr h => ?_)
  · obtain ⟨y, v, b, g, rfl, _⟩ := h
    rfl
  · obtain ⟨y, v, b, g, rfl, hv, hT, k1, k2⟩ := h
    refine ⟨_, (pss_cons (ps_if (pt_val (pv 2)) (pss_cons (ps_set (i := 3) scMad.nd rfl (.inl rfl) (pe_lst (pa_cons (pe_lamO (T := [(pT, madQ)]) TB rfl (List.mem_singleton.mpr rfl) oneQ rfl (lamS_by (sc := defScope sMad) (by decide +kernel))) pa_nil))) (pss_cons (ps_expr (pe_bm PySem.F.plainAttrs_list PySem.F.slot_list_append PySem.F.type_list_append mt_append (pv 3) (pa_cons (pe_lamO (T := [(pT, madQ)]) TB rfl (List.mem_singleton.mpr rfl) oneQ rfl (lamS_by (sc := defScope sMad) (by decide +kernel))) pa_nil))) (pss_cons (ps_expr (pe_bm PySem.F.plainAttrs_list PySem.F.slot_list_append PySem.F.type_list_append mt_append (pv 3) (pa_cons (pe_lamO (T := [(pT, madQ)]) TB rfl (List.mem_singleton.mpr rfl) oneQ rfl (lamS_by (sc := defScope sMad) (by decide +kernel))) pa_nil))) (pss_cons (ps_expr (pe_bm PySem.F.plainAttrs_list PySem.F.slot_list_append PySem.F.type_list_append mt_append (pv 3) (pa_cons (pe_lamO (T := [(pT, madQ)]) TB rfl (List.mem_singleton.mpr rfl) oneQ rfl (lamS_by (sc := defScope sMad) (by decide +kernel))) pa_nil))) (pss_cons (ps_expr (pe_bm PySem.F.plainAttrs_list PySem.F.slot_list_append PySem.F.type_list_append mt_append (pv 3) (pa_cons (pe_lamO (T := [(pT, madQ)]) TB rfl (List.mem_singleton.mpr rfl) oneQ rfl (lamS_by (sc := defScope sMad) (by decide +kernel))) pa_nil))) (pss_one (ps_ret (pe_callL (ok := LamOk (XM P w K mg base a c A outer s H E) E 5) (pe_ix ix_list (pv 3) (pv 0) (fun _ _ => rfl)) (fun _ _ _ h => h) hr (passes_call (takes_of rfl rfl rfl rfl) (fun _ _ _ _ q => q)))))))))) pss_nil) (pss_cons (ps_set (i := 3) scMad.nd rfl (.inl rfl) (pe_lst (pa_cons (pe_lamO (T := [(pT, madQ)]) TB rfl (List.mem_singleton.mpr rfl) oneQ rfl (lamS_by (sc := defScope sMad) (by decide +kernel))) pa_nil))) (pss_cons (ps_expr (pe_bm PySem.F.plainAttrs_list PySem.F.slot_list_append PySem.F.type_list_append mt_append (pv 3) (pa_cons (pe_lamO (T := [(pT, madQ)]) TB rfl (List.mem_singleton.mpr rfl) oneQ rfl (lamS_by (sc := defScope sMad) (by decide +kernel))) pa_nil))) (pss_cons (ps_expr (pe_bm PySem.F.plainAttrs_list PySem.F.slot_list_append PySem.F.type_list_append mt_append (pv 3) (pa_cons (pe_lamO (T := [(pT, madQ)]) TB rfl (List.mem_singleton.mpr rfl) oneQ rfl (lamS_by (sc := defScope sMad) (by decide +kernel))) pa_nil))) (pss_cons (ps_expr (pe_bm PySem.F.plainAttrs_list PySem.F.slot_list_append PySem.F.type_list_append mt_append (pv 3) (pa_cons (pe_lamO (T := [(pT, madQ)]) TB rfl (List.mem_singleton.mpr rfl) oneQ rfl (lamS_by (sc := defScope sMad) (by decide +kernel))) pa_nil))) (pss_cons (ps_expr (pe_bm PySem.F.plainAttrs_list PySem.F.slot_list_append PySem.F.type_list_append mt_append (pv 3) (pa_cons (pe_lamO (T := [(pT, madQ)]) TB rfl (List.mem_singleton.mpr rfl) oneQ rfl (lamS_by (sc := defScope sMad) (by decide +kernel))) pa_nil))) (pss_one (ps_ret (pe_callL (ok := LamOk (XM P w K mg base a c A outer s H E) E 5) (pe_ix ix_list (pv 3) (pv 0) (fun _ _ => rfl)) (fun _ _ _ h => h) hr (passes_call (takes_of rfl rfl rfl rfl) (fun _ _ _ _ q => q))))))))))), ?_⟩
    cases b with
    | true =>
      refine ⟨_, rfl, true, rfl, iteT ?_⟩
      refine ⟨hT, fun f1 c1 H1 x1 T1 e1 e1' => ?_⟩
      have l1 : LamOk (XM P w K mg base a c A outer s H E) E 5 f1 H1 (teN K a E .w) := by
        refine ⟨c1, _, _, _, e1, e1', lamS_by (sc := defScope sMad) (by decide +kernel), fun _ _ _ => rfl, fun A' o' s' H' hr' => ?_⟩
        exact pe_makeK0 (ks := [("units" : Str)]) T.mkWide GiW hr' rfl T.gcWide (kb_of D.FiW fun _ _ _ _ _ _ _ _ => rfl) (passes_call (takes_of rfl rfl rfl rfl) (fun _ _ _ _ q => q)) (pk_cons (pv 1) pk_nil)
      clear e1 e1'
      refine ⟨by show 1 ≤ sizeLine; decide, fun DL hDL => ?_⟩
      have s1 := same_new (o := .lst [V.ref f1]) (Same.refl H1) hDL
      have eL1 : (upd H1 DL (.lst [V.ref f1])) DL = some (.lst [V.ref f1]) := upd_same
      have T1' : Tabs [(pT, madQ)] (upd H1 DL (.lst [V.ref f1])) := T1.ext s1
      have z1 : ExtN H (upd H1 DL (.lst [V.ref f1])) := ExtN.same x1 s1
      have m1 := l1.extN (.of s1)
      have nb : ∀ b o, H b = some o → (∀ ps, o ≠ .tbl ps) → b ≠ DL := fun b o e n z => by
        have := x1 _ _ e n
        rw [z, hDL] at this
        cases this
      clear l1 T1
      generalize upd H1 DL (.lst [V.ref f1]) = G1 at eL1 T1' z1 m1 ⊢
      refine ⟨_, rfl, .inl ⟨rfl, _, .inl (.inl eL1)⟩, T1', fun f2 c2 H2 x2 T2 e2 e2' => ?_⟩
      have l2 : LamOk (XM P w K mg base a c A outer s H E) E 5 f2 H2 (teN K a E .d) := by
        refine ⟨c2, _, _, _, e2, e2', lamS_by (sc := defScope sMad) (by decide +kernel), fun _ _ _ => rfl, fun A' o' s' H' hr' => ?_⟩
        exact pe_makeK0 (ks := [("octets" : Str)]) T.mkData GiD hr' rfl T.gcData (kb_of D.FiD fun _ _ _ _ _ _ _ _ => rfl) (passes_call (takes_of rfl rfl rfl rfl) (fun _ _ _ _ q => q)) (pk_cons (pv 1) pk_nil)
      clear e2 e2'
      have eD2 := x2 _ _ eL1 (fun ps z => nomatch z)
      refine ⟨DL, _, _, rfl, rfl, eD2, by show 1 < sizeLine; decide, ?_⟩
      have eL2 : (upd H2 DL (.lst ([V.ref f1] ++ [V.ref f2]))) DL = some (.lst ([V.ref f1] ++ [V.ref f2])) := upd_same
      have T2' : Tabs [(pT, madQ)] (upd H2 DL (.lst ([V.ref f1] ++ [V.ref f2]))) := tabs_upd T2 eD2
      have z2 : ExtN H (upd H2 DL (.lst ([V.ref f1] ++ [V.ref f2]))) := fun b o e n => by
        rw [upd_ne (nb b o e n)]
        exact x2 _ _ (z1 _ _ e n) n
      have m1 := (m1.extN x2).updL (o := .lst ([V.ref f1] ++ [V.ref f2])) eD2
      have m2 := l2.updL (o := .lst ([V.ref f1] ++ [V.ref f2])) eD2
      clear l2 T2 eD2 z1 eL1 T1'
      generalize upd H2 DL (.lst ([V.ref f1] ++ [V.ref f2])) = G2 at eL2 T2' z2 m1 m2 ⊢
      refine ⟨_, rfl, .inl ⟨rfl, _, .inl (.inl eL2)⟩, T2', fun f3 c3 H3 x3 T3 e3 e3' => ?_⟩
      have l3 : LamOk (XM P w K mg base a c A outer s H E) E 5 f3 H3 (teN K a E .u) := by
        refine ⟨c3, _, _, _, e3, e3', lamS_by (sc := defScope sMad) (by decide +kernel), fun _ _ _ => rfl, fun A' o' s' H' hr' => ?_⟩
        exact pe_makeK0 (ks := [("number" : Str)]) T.mkUid GiU hr' rfl T.gcUid (kb_of D.FiU fun _ _ _ _ _ _ _ _ => rfl) (passes_call (takes_of rfl rfl rfl rfl) (fun _ _ _ _ q => q)) (pk_cons (pv 1) pk_nil)
      clear e3 e3'
      have eD3 := x3 _ _ eL2 (fun ps z => nomatch z)
      refine ⟨DL, _, _, rfl, rfl, eD3, by show 2 < sizeLine; decide, ?_⟩
      have eL3 : (upd H3 DL (.lst ([V.ref f1] ++ [V.ref f2] ++ [V.ref f3]))) DL = some (.lst ([V.ref f1] ++ [V.ref f2] ++ [V.ref f3])) := upd_same
      have T3' : Tabs [(pT, madQ)] (upd H3 DL (.lst ([V.ref f1] ++ [V.ref f2] ++ [V.ref f3]))) := tabs_upd T3 eD3
      have z3 : ExtN H (upd H3 DL (.lst ([V.ref f1] ++ [V.ref f2] ++ [V.ref f3]))) := fun b o e n => by
        rw [upd_ne (nb b o e n)]
        exact x3 _ _ (z2 _ _ e n) n
      have m1 := (m1.extN x3).updL (o := .lst ([V.ref f1] ++ [V.ref f2] ++ [V.ref f3])) eD3
      have m2 := (m2.extN x3).updL (o := .lst ([V.ref f1] ++ [V.ref f2] ++ [V.ref f3])) eD3
      have m3 := l3.updL (o := .lst ([V.ref f1] ++ [V.ref f2] ++ [V.ref f3])) eD3
      clear l3 T3 eD3 z2 eL2 T2'
      generalize upd H3 DL (.lst ([V.ref f1] ++ [V.ref f2] ++ [V.ref f3])) = G3 at eL3 T3' z3 m1 m2 m3 ⊢
      refine ⟨_, rfl, .inl ⟨rfl, _, .inl (.inl eL3)⟩, T3', fun f4 c4 H4 x4 T4 e4 e4' => ?_⟩
      have l4 : LamOk (XM P w K mg base a c A outer s H E) E 5 f4 H4 (teN K a E .r) := by
        refine ⟨c4, _, _, _, e4, e4', lamS_by (sc := defScope sMad) (by decide +kernel), fun _ _ _ => rfl, fun A' o' s' H' hr' => ?_⟩
        exact pe_makeK0 (ks := [("octets" : Str)]) T.mkReal GiR hr' rfl T.gcReal (kb_of D.FiR fun _ _ _ _ _ _ _ _ => rfl) (passes_call (takes_of rfl rfl rfl rfl) (fun _ _ _ _ q => q)) (pk_cons (pv 1) pk_nil)
      clear e4 e4'
      have eD4 := x4 _ _ eL3 (fun ps z => nomatch z)
      refine ⟨DL, _, _, rfl, rfl, eD4, by show 3 < sizeLine; decide, ?_⟩
      have eL4 : (upd H4 DL (.lst ([V.ref f1] ++ [V.ref f2] ++ [V.ref f3] ++ [V.ref f4]))) DL = some (.lst ([V.ref f1] ++ [V.ref f2] ++ [V.ref f3] ++ [V.ref f4])) := upd_same
      have T4' : Tabs [(pT, madQ)] (upd H4 DL (.lst ([V.ref f1] ++ [V.ref f2] ++ [V.ref f3] ++ [V.ref f4]))) := tabs_upd T4 eD4
      have z4 : ExtN H (upd H4 DL (.lst ([V.ref f1] ++ [V.ref f2] ++ [V.ref f3] ++ [V.ref f4]))) := fun b o e n => by
        rw [upd_ne (nb b o e n)]
        exact x4 _ _ (z3 _ _ e n) n
      have m1 := (m1.extN x4).updL (o := .lst ([V.ref f1] ++ [V.ref f2] ++ [V.ref f3] ++ [V.ref f4])) eD4
      have m2 := (m2.extN x4).updL (o := .lst ([V.ref f1] ++ [V.ref f2] ++ [V.ref f3] ++ [V.ref f4])) eD4
      have m3 := (m3.extN x4).updL (o := .lst ([V.ref f1] ++ [V.ref f2] ++ [V.ref f3] ++ [V.ref f4])) eD4
      have m4 := l4.updL (o := .lst ([V.ref f1] ++ [V.ref f2] ++ [V.ref f3] ++ [V.ref f4])) eD4
      clear l4 T4 eD4 z3 eL3 T3'
      generalize upd H4 DL (.lst ([V.ref f1] ++ [V.ref f2] ++ [V.ref f3] ++ [V.ref f4])) = G4 at eL4 T4' z4 m1 m2 m3 m4 ⊢
      refine ⟨_, rfl, .inl ⟨rfl, _, .inl (.inl eL4)⟩, T4', fun f5 c5 H5 x5 T5 e5 e5' => ?_⟩
      have l5 : LamOk (XM P w K mg base a c A outer s H E) E 5 f5 H5 (teN K a E .t) := by
        refine ⟨c5, _, _, _, e5, e5', lamS_by (sc := defScope sMad) (by decide +kernel), fun _ _ _ => rfl, fun A' o' s' H' hr' => ?_⟩
        exact pe_makeK0 (ks := [("octets" : Str)]) T.mkDate GiT hr' rfl T.gcDate (kb_of D.FiT fun _ _ _ _ _ _ _ _ => rfl) (passes_call (takes_of rfl rfl rfl rfl) (fun _ _ _ _ q => q)) (pk_cons (pv 1) pk_nil)
      clear e5 e5'
      have eD5 := x5 _ _ eL4 (fun ps z => nomatch z)
      refine ⟨DL, _, _, rfl, rfl, eD5, by show 4 < sizeLine; decide, ?_⟩
      have eL5 : (upd H5 DL (.lst ([V.ref f1] ++ [V.ref f2] ++ [V.ref f3] ++ [V.ref f4] ++ [V.ref f5]))) DL = some (.lst ([V.ref f1] ++ [V.ref f2] ++ [V.ref f3] ++ [V.ref f4] ++ [V.ref f5])) := upd_same
      have T5' : Tabs [(pT, madQ)] (upd H5 DL (.lst ([V.ref f1] ++ [V.ref f2] ++ [V.ref f3] ++ [V.ref f4] ++ [V.ref f5]))) := tabs_upd T5 eD5
      have z5 : ExtN H (upd H5 DL (.lst ([V.ref f1] ++ [V.ref f2] ++ [V.ref f3] ++ [V.ref f4] ++ [V.ref f5]))) := fun b o e n => by
        rw [upd_ne (nb b o e n)]
        exact x5 _ _ (z4 _ _ e n) n
      have m1 := (m1.extN x5).updL (o := .lst ([V.ref f1] ++ [V.ref f2] ++ [V.ref f3] ++ [V.ref f4] ++ [V.ref f5])) eD5
      have m2 := (m2.extN x5).updL (o := .lst ([V.ref f1] ++ [V.ref f2] ++ [V.ref f3] ++ [V.ref f4] ++ [V.ref f5])) eD5
      have m3 := (m3.extN x5).updL (o := .lst ([V.ref f1] ++ [V.ref f2] ++ [V.ref f3] ++ [V.ref f4] ++ [V.ref f5])) eD5
      have m4 := (m4.extN x5).updL (o := .lst ([V.ref f1] ++ [V.ref f2] ++ [V.ref f3] ++ [V.ref f4] ++ [V.ref f5])) eD5
      have m5 := l5.updL (o := .lst ([V.ref f1] ++ [V.ref f2] ++ [V.ref f3] ++ [V.ref f4] ++ [V.ref f5])) eD5
      clear l5 T5 eD5 z4 eL4 T4'
      generalize upd H5 DL (.lst ([V.ref f1] ++ [V.ref f2] ++ [V.ref f3] ++ [V.ref f4] ++ [V.ref f5])) = G5 at eL5 T5' z5 m1 m2 m3 m4 m5 ⊢
      refine ⟨_, rfl, _, rfl, DL, fv5 f1 f2 f3 f4 f5, _, _, rfl, rfl, .inl (.inl eL5), fv5_at _ _ _ _ _ y, ?_⟩
      refine ⟨wy5 f1 f2 f3 f4 f5 y, teN K a E y, rfl, ?_, ?_⟩
      · cases y
        · exact m1
        · exact m2
        · exact m3
        · exact m4
        · exact m5
      · refine ⟨_, rfl, rfl, rfl, init_go (hv.extN z5) (fun e p H' _ s5 th => k1 e p H' (ExtN.same z5 s5) (T5'.ext s5) th) (fun e d t H' s5 e1 e2 => k2 e d t H' (ExtN.same z5 s5) (T5'.ext s5) e1 e2)⟩
    | false =>
      refine ⟨_, rfl, false, rfl, iteF ?_⟩
      refine ⟨hT, fun f1 c1 H1 x1 T1 e1 e1' => ?_⟩
      have l1 : LamOk (XM P w K mg base a c A outer s H E) E 5 f1 H1 (teP K a E .w) := by
        refine ⟨c1, _, _, _, e1, e1', lamS_by (sc := defScope sMad) (by decide +kernel), fun _ _ _ => rfl, fun A' o' s' H' hr' => ?_⟩
        exact pe_make T.mkWide GiW hr' rfl T.gcWide D.biW .nil (passes_call (takes_of rfl rfl rfl rfl) (fun _ _ _ _ q => q)) (pa_cons (pv 1) pa_nil)
      clear e1 e1'
      refine ⟨by show 1 ≤ sizeLine; decide, fun DL hDL => ?_⟩
      have s1 := same_new (o := .lst [V.ref f1]) (Same.refl H1) hDL
      have eL1 : (upd H1 DL (.lst [V.ref f1])) DL = some (.lst [V.ref f1]) := upd_same
      have T1' : Tabs [(pT, madQ)] (upd H1 DL (.lst [V.ref f1])) := T1.ext s1
      have z1 : ExtN H (upd H1 DL (.lst [V.ref f1])) := ExtN.same x1 s1
      have m1 := l1.extN (.of s1)
      have nb : ∀ b o, H b = some o → (∀ ps, o ≠ .tbl ps) → b ≠ DL := fun b o e n z => by
        have := x1 _ _ e n
        rw [z, hDL] at this
        cases this
      clear l1 T1
      generalize upd H1 DL (.lst [V.ref f1]) = G1 at eL1 T1' z1 m1 ⊢
      refine ⟨_, rfl, .inl ⟨rfl, _, .inl (.inl eL1)⟩, T1', fun f2 c2 H2 x2 T2 e2 e2' => ?_⟩
      have l2 : LamOk (XM P w K mg base a c A outer s H E) E 5 f2 H2 (teP K a E .d) := by
        refine ⟨c2, _, _, _, e2, e2', lamS_by (sc := defScope sMad) (by decide +kernel), fun _ _ _ => rfl, fun A' o' s' H' hr' => ?_⟩
        exact pe_make T.mkData GiD hr' rfl T.gcData D.biD .nil (passes_call (takes_of rfl rfl rfl rfl) (fun _ _ _ _ q => q)) (pa_cons (pv 1) pa_nil)
      clear e2 e2'
      have eD2 := x2 _ _ eL1 (fun ps z => nomatch z)
      refine ⟨DL, _, _, rfl, rfl, eD2, by show 1 < sizeLine; decide, ?_⟩
      have eL2 : (upd H2 DL (.lst ([V.ref f1] ++ [V.ref f2]))) DL = some (.lst ([V.ref f1] ++ [V.ref f2])) := upd_same
      have T2' : Tabs [(pT, madQ)] (upd H2 DL (.lst ([V.ref f1] ++ [V.ref f2]))) := tabs_upd T2 eD2
      have z2 : ExtN H (upd H2 DL (.lst ([V.ref f1] ++ [V.ref f2]))) := fun b o e n => by
        rw [upd_ne (nb b o e n)]
        exact x2 _ _ (z1 _ _ e n) n
      have m1 := (m1.extN x2).updL (o := .lst ([V.ref f1] ++ [V.ref f2])) eD2
      have m2 := l2.updL (o := .lst ([V.ref f1] ++ [V.ref f2])) eD2
      clear l2 T2 eD2 z1 eL1 T1'
      generalize upd H2 DL (.lst ([V.ref f1] ++ [V.ref f2])) = G2 at eL2 T2' z2 m1 m2 ⊢
      refine ⟨_, rfl, .inl ⟨rfl, _, .inl (.inl eL2)⟩, T2', fun f3 c3 H3 x3 T3 e3 e3' => ?_⟩
      have l3 : LamOk (XM P w K mg base a c A outer s H E) E 5 f3 H3 (teP K a E .u) := by
        refine ⟨c3, _, _, _, e3, e3', lamS_by (sc := defScope sMad) (by decide +kernel), fun _ _ _ => rfl, fun A' o' s' H' hr' => ?_⟩
        exact pe_make T.mkUid GiU hr' rfl T.gcUid D.biU .nil (passes_call (takes_of rfl rfl rfl rfl) (fun _ _ _ _ q => q)) (pa_cons (pv 1) pa_nil)
      clear e3 e3'
      have eD3 := x3 _ _ eL2 (fun ps z => nomatch z)
      refine ⟨DL, _, _, rfl, rfl, eD3, by show 2 < sizeLine; decide, ?_⟩
      have eL3 : (upd H3 DL (.lst ([V.ref f1] ++ [V.ref f2] ++ [V.ref f3]))) DL = some (.lst ([V.ref f1] ++ [V.ref f2] ++ [V.ref f3])) := upd_same
      have T3' : Tabs [(pT, madQ)] (upd H3 DL (.lst ([V.ref f1] ++ [V.ref f2] ++ [V.ref f3]))) := tabs_upd T3 eD3
      have z3 : ExtN H (upd H3 DL (.lst ([V.ref f1] ++ [V.ref f2] ++ [V.ref f3]))) := fun b o e n => by
        rw [upd_ne (nb b o e n)]
        exact x3 _ _ (z2 _ _ e n) n
      have m1 := (m1.extN x3).updL (o := .lst ([V.ref f1] ++ [V.ref f2] ++ [V.ref f3])) eD3
      have m2 := (m2.extN x3).updL (o := .lst ([V.ref f1] ++ [V.ref f2] ++ [V.ref f3])) eD3
      have m3 := l3.updL (o := .lst ([V.ref f1] ++ [V.ref f2] ++ [V.ref f3])) eD3
      clear l3 T3 eD3 z2 eL2 T2'
      generalize upd H3 DL (.lst ([V.ref f1] ++ [V.ref f2] ++ [V.ref f3])) = G3 at eL3 T3' z3 m1 m2 m3 ⊢
      refine ⟨_, rfl, .inl ⟨rfl, _, .inl (.inl eL3)⟩, T3', fun f4 c4 H4 x4 T4 e4 e4' => ?_⟩
      have l4 : LamOk (XM P w K mg base a c A outer s H E) E 5 f4 H4 (teP K a E .r) := by
        refine ⟨c4, _, _, _, e4, e4', lamS_by (sc := defScope sMad) (by decide +kernel), fun _ _ _ => rfl, fun A' o' s' H' hr' => ?_⟩
        exact pe_make T.mkReal GiR hr' rfl T.gcReal D.biR .nil (passes_call (takes_of rfl rfl rfl rfl) (fun _ _ _ _ q => q)) (pa_cons (pv 1) pa_nil)
      clear e4 e4'
      have eD4 := x4 _ _ eL3 (fun ps z => nomatch z)
      refine ⟨DL, _, _, rfl, rfl, eD4, by show 3 < sizeLine; decide, ?_⟩
      have eL4 : (upd H4 DL (.lst ([V.ref f1] ++ [V.ref f2] ++ [V.ref f3] ++ [V.ref f4]))) DL = some (.lst ([V.ref f1] ++ [V.ref f2] ++ [V.ref f3] ++ [V.ref f4])) := upd_same
      have T4' : Tabs [(pT, madQ)] (upd H4 DL (.lst ([V.ref f1] ++ [V.ref f2] ++ [V.ref f3] ++ [V.ref f4]))) := tabs_upd T4 eD4
      have z4 : ExtN H (upd H4 DL (.lst ([V.ref f1] ++ [V.ref f2] ++ [V.ref f3] ++ [V.ref f4]))) := fun b o e n => by
        rw [upd_ne (nb b o e n)]
        exact x4 _ _ (z3 _ _ e n) n
      have m1 := (m1.extN x4).updL (o := .lst ([V.ref f1] ++ [V.ref f2] ++ [V.ref f3] ++ [V.ref f4])) eD4
      have m2 := (m2.extN x4).updL (o := .lst ([V.ref f1] ++ [V.ref f2] ++ [V.ref f3] ++ [V.ref f4])) eD4
      have m3 := (m3.extN x4).updL (o := .lst ([V.ref f1] ++ [V.ref f2] ++ [V.ref f3] ++ [V.ref f4])) eD4
      have m4 := l4.updL (o := .lst ([V.ref f1] ++ [V.ref f2] ++ [V.ref f3] ++ [V.ref f4])) eD4
      clear l4 T4 eD4 z3 eL3 T3'
      generalize upd H4 DL (.lst ([V.ref f1] ++ [V.ref f2] ++ [V.ref f3] ++ [V.ref f4])) = G4 at eL4 T4' z4 m1 m2 m3 m4 ⊢
      refine ⟨_, rfl, .inl ⟨rfl, _, .inl (.inl eL4)⟩, T4', fun f5 c5 H5 x5 T5 e5 e5' => ?_⟩
      have l5 : LamOk (XM P w K mg base a c A outer s H E) E 5 f5 H5 (teP K a E .t) := by
        refine ⟨c5, _, _, _, e5, e5', lamS_by (sc := defScope sMad) (by decide +kernel), fun _ _ _ => rfl, fun A' o' s' H' hr' => ?_⟩
        exact pe_make T.mkDate GiT hr' rfl T.gcDate D.biT .nil (passes_call (takes_of rfl rfl rfl rfl) (fun _ _ _ _ q => q)) (pa_cons (pv 1) pa_nil)
      clear e5 e5'
      have eD5 := x5 _ _ eL4 (fun ps z => nomatch z)
      refine ⟨DL, _, _, rfl, rfl, eD5, by show 4 < sizeLine; decide, ?_⟩
      have eL5 : (upd H5 DL (.lst ([V.ref f1] ++ [V.ref f2] ++ [V.ref f3] ++ [V.ref f4] ++ [V.ref f5]))) DL = some (.lst ([V.ref f1] ++ [V.ref f2] ++ [V.ref f3] ++ [V.ref f4] ++ [V.ref f5])) := upd_same
      have T5' : Tabs [(pT, madQ)] (upd H5 DL (.lst ([V.ref f1] ++ [V.ref f2] ++ [V.ref f3] ++ [V.ref f4] ++ [V.ref f5]))) := tabs_upd T5 eD5
      have z5 : ExtN H (upd H5 DL (.lst ([V.ref f1] ++ [V.ref f2] ++ [V.ref f3] ++ [V.ref f4] ++ [V.ref f5]))) := fun b o e n => by
        rw [upd_ne (nb b o e n)]
        exact x5 _ _ (z4 _ _ e n) n
      have m1 := (m1.extN x5).updL (o := .lst ([V.ref f1] ++ [V.ref f2] ++ [V.ref f3] ++ [V.ref f4] ++ [V.ref f5])) eD5
      have m2 := (m2.extN x5).updL (o := .lst ([V.ref f1] ++ [V.ref f2] ++ [V.ref f3] ++ [V.ref f4] ++ [V.ref f5])) eD5
      have m3 := (m3.extN x5).updL (o := .lst ([V.ref f1] ++ [V.ref f2] ++ [V.ref f3] ++ [V.ref f4] ++ [V.ref f5])) eD5
      have m4 := (m4.extN x5).updL (o := .lst ([V.ref f1] ++ [V.ref f2] ++ [V.ref f3] ++ [V.ref f4] ++ [V.ref f5])) eD5
      have m5 := l5.updL (o := .lst ([V.ref f1] ++ [V.ref f2] ++ [V.ref f3] ++ [V.ref f4] ++ [V.ref f5])) eD5
      clear l5 T5 eD5 z4 eL4 T4'
      generalize upd H5 DL (.lst ([V.ref f1] ++ [V.ref f2] ++ [V.ref f3] ++ [V.ref f4] ++ [V.ref f5])) = G5 at eL5 T5' z5 m1 m2 m3 m4 m5 ⊢
      refine ⟨_, rfl, _, rfl, DL, fv5 f1 f2 f3 f4 f5, _, _, rfl, rfl, .inl (.inl eL5), fv5_at _ _ _ _ _ y, ?_⟩
      refine ⟨wy5 f1 f2 f3 f4 f5 y, teP K a E y, rfl, ?_, ?_⟩
      · cases y
        · exact m1
        · exact m2
        · exact m3
        · exact m4
        · exact m5
      · refine ⟨_, rfl, init_go (hv.extN z5) (fun e p H' _ s5 th => k1 e p H' (ExtN.same z5 s5) (T5'.ext s5) th) (fun e d t H' s5 e1 e2 => k2 e d t H' (ExtN.same z5 s5) (T5'.ext s5) e1 e2)⟩
end
end G58

set_option Elab.async false
set_option linter.all false
set_option pp.maxSteps 2500
set_option maxRecDepth 100000
set_option maxHeartbeats 4000000
/-! k01: fields that are refused. -/
namespace G58
open PySem PySem.Spec PyProof.Rows L2 LamX
def spRfd (K : PySem.W.Frag) (pT : Addr) : Sp := fun vs H Q _ => ∃ (y : Wy) (v : V) (g : Arg), vs = [.int (y.num : Nat), v] ∧ ArgAt K H v g ∧ g.good y = false ∧ Tabs [(pT, madQ)] H ∧ ∀ H', ExtN H H' → Tabs [(pT, madQ)] H' → Q (.bl true) H'
theorem look_pth (t : Addr) : List.lookup ("path" : Str) (pthF t) = some (.ref t) := by
  simp [pthF, List.lookup]
section
variable {P : Program} {w : World} {K : PySem.W.Frag} {mg : Str → Option Value} {base : Heap} {a : Ad}
theorem scRfd : FnScope ["_law_way", "_law_some", "_law_is_named", "_law_told", "e"] ["_law_way", "_law_some"] (defScope sRfd) := ⟨rfl, rfl, rfl, by decide +kernel, rfl, by decide +kernel, by decide +kernel⟩
theorem ok_rfd (D : Df K a) (T : Txt K mg a) {c pT : Addr} (FC : FunC K "_law_made" "_law_made" sMad a.fMad D.dMad c) (TB : TabB base mg c pT) : FnOk P w K mg base CX0 8 a.fRfd D.dRfd ["_law_way", "_law_some"] (spRfd K pT) := by
  have GMad : FnOk P w K mg base (L2.CX P w) 7 a.fMad D.dMad ["_law_way", "_law_some", "_law_is_named"] (spMad K a pT) := ok_mad D T FC TB
  refine D.FRfd.ok scRfd (fun vs H Q E h => ?_) (fun cdv A outer s H vs Q E hr h => ?_)
  · obtain ⟨y, v, g, rfl, _⟩ := h
    rfl
  · obtain ⟨y, v, g, rfl, hv, hg, hT, k⟩ := h
    refine ⟨_, (pss_cons (ps_for PassesOwn.never rfl (pi_tup (pe_tup (pa_cons pe_bl (pa_cons pe_bl pa_nil)))) (pg_name (i := 2) scRfd.nd rfl (.inl rfl)) (pss_cons (ps_set (i := 3) scRfd.nd rfl (.inl rfl) pe_str) (pss_cons (ps_try_mix
      (l := [⟨.ref a.cNoValue, some 4, _⟩, ⟨.ref a.cNestError, none, _⟩])
      (tb := fun W D st H => tDrop (tCallS (spMad K a pT) (WE W) (tCons (tVar 0) (tCons (tVar 1) (tCons (tVar 2) tNil)))) D st H)
      rfl rfl L2.takes0 (fun W pn xe tk _ => pss_one (ps_expr (pe_callS GMad hr rfl T.gMad D.FMad.kp D.bMad (fun σ => passAt tk σ) (pa_cons (pv 0) (pa_cons (pv 1) (pa_cons (pv 2) pa_nil))))))
      (.named scRfd.nd rfl rfl ⟨rfl, by decide, .inl T.gcNoValue⟩ (fun x oe k d pn hz hf => pss_one (ps_set (i := 3) scRfd.nd rfl (.inl rfl) (pe_xf T.xNoValue.xf T.noNoValue_path hz hf (pv 4))))
      (.bare ⟨rfl, by decide, .inl T.gcNestError⟩ (fun x oe k d pn hz hf => pss_one (ps_set (i := 3) scRfd.nd rfl (.inl rfl) pe_str)) .nil))) (pss_one (ps_if (PW.pt (pw_or (pt_cmpR (op_neD hr.units) (pv 3) (pe_tup pa_nil) (nomark _)) (pw_or1 (pt_not (pt_val (pe_callB call_isi (by rfl) T.bisinstance (by decide +kernel) (pa_cons (pv 3) (pa_cons (pe_bltn (v := .ty "tuple") rfl T.btuple (by decide +kernel) rfl) pa_nil)))))))) (pss_one (ps_ret pe_bl)) pss_nil))))) (pss_one (ps_ret pe_bl))), ?_⟩
    · refine ⟨by show 2 ≤ sizeLine; decide, fun q hq => ?_⟩
      have s0 := same_new (o := .tup [V.bl false, V.bl true]) (Same.refl H) hq
      have e0 : (upd H q (.tup [V.bl false, V.bl true])) q = some (.tup [V.bl false, V.bl true]) := upd_same
      have T0 := hT.ext s0
      generalize upd H q (.tup [V.bl false, V.bl true]) = H0 at s0 e0 T0 ⊢
      refine ⟨q, rfl, ⟨_, .inl (.inl e0)⟩, for_it (walk_tup (K := K) (a := q) (xs := [V.bl false, V.bl true])) (fun t st H1 => ∃ u2 u3 u4, st = [some (.int (y.num : Nat)), some v, u2, u3, u4] ∧ ExtN H0 H1 ∧ Tabs [(pT, madQ)] H1) ⟨_, _, _, rfl, ExtN.refl _, T0⟩ (fun _ _ _ _ ⟨_, _, _, _, x, _⟩ => .inl (.inl (x _ _ e0 fun ps z => nomatch z))) ?_ ?_⟩
      · rintro t z st H1' H1 ht ⟨u2, u3, u4, rfl, x1, T1⟩ ⟨rfl, hz⟩
        obtain ⟨b, rfl⟩ : ∃ b : Bool, z = .bl b := by
          have := List.mem_of_getElem? hz
          simp only [List.mem_cons, List.not_mem_nil, or_false] at this
          rcases this with rfl | rfl
          · exact ⟨_, rfl⟩
          · exact ⟨_, rfl⟩
        refine ⟨_, rfl, _, rfl, _, rfl, y, v, b, g, rfl, hv.extN ((ExtN.of s0).trans x1), T1, fun e => (by rw [hg] at e; cases e), fun _ dd t2 H2 x2 T2 hd ht2 => ?_⟩
        refine ⟨true, T.emNoValue_NoValue, fun _ x hx hlt => ?_, fun z => Bool.noConfusion z⟩
        refine ⟨.ref x, List.getElem?_set_self hlt, rfl, rfl, dd, _, _, rfl, hd, look_pth _, ?_⟩
        have x02 := x1.trans x2
        refine ⟨_, rfl, by show 0 ≤ sizeLine; decide, fun q2 hq2 => ?_⟩
        have s3 := same_new (o := .tup []) (Same.refl H2) hq2
        have e3 : (upd H2 q2 (.tup [])) q2 = some (.tup []) := upd_same
        have T3 := T2.ext s3
        generalize upd H2 q2 (.tup []) = H3 at s3 e3 T3 ⊢
        refine ⟨_, _, .tup (Same.tup s3 ht2) .nil, .tup (.inl (.inl e3)) .nil, rfl, rfl, ?_⟩
        refine ⟨false, congrArg V.bl (by decide), iteF ?_⟩
        refine ⟨_, rfl, .ref t2, .ty "tuple", _, _, true, rfl, .ty _, sqT_ty (Same.tup s3 ht2), kit_ty (by decide +kernel), true, rfl, iteF ?_⟩
        exact ⟨_, _, _, rfl, ExtN.same x02 s3, T3⟩
      · rintro st H1 ⟨u2, u3, u4, rfl, x1, T1⟩
        exact k H1 ((ExtN.of s0).trans x1) T1
end
end G58

set_option Elab.async false
set_option linter.all false
set_option pp.maxSteps 2500
set_option maxRecDepth 100000
set_option maxHeartbeats 4000000
/-! k01: odd fields. -/
namespace G58
open PySem PySem.Spec PyProof.Rows L2 LamX
/-- all is kept but the tables and what is at S -/
def ButT (S : Addr) (H H' : Hp) : Prop := ∀ b o, H b = some o → b ≠ S → (∀ ps, o ≠ .tbl ps) → H' b = some o
theorem ButT.refl (S : Addr) (H : Hp) : ButT S H H := fun _ _ h _ _ => h
theorem ButT.trans {S : Addr} {H H1 H2 : Hp} (x : ButT S H H1) (y : ButT S H1 H2) : ButT S H H2 := fun b o h n m => y b o (x b o h n m) n m
theorem ButT.ext {S : Addr} {H H1 H2 : Hp} (x : ButT S H H1) (y : ExtN H1 H2) : ButT S H H2 := fun b o h n m => y b o (x b o h n m) m
theorem ButT.but {S : Addr} {H H1 H2 : Hp} (x : ButT S H H1) (y : But S H1 H2) : ButT S H H2 := fun b o h n m => y b o (x b o h n m) n
theorem src_ext {H H' : Hp} {S : Addr} (h : SrcAt H S) (s : ExtN H H') : SrcAt H' S := by
  obtain ⟨x, y, z, q⟩ := h
  exact ⟨x, y, z, s _ _ q fun ps z => nomatch z⟩
theorem tabs_but {T : List (Addr × Str)} {S : Addr} {H H' : Hp} (t : Tabs T H) (hS : SrcAt H S) (b : But S H H') : Tabs T H' := fun p hp => by
  obtain ⟨x, y, z, hs⟩ := hS
  obtain ⟨ps, h1, h2, h3⟩ := t p hp
  refine ⟨ps, b _ _ h1 (fun e => by rw [e, hs] at h1; cases h1), h2, fun pos cv hc => ?_⟩
  obtain ⟨c, e1, e2⟩ := h3 pos cv hc
  refine ⟨c, e1, b _ _ e2 fun e => ?_⟩
  rw [e, hs] at e2
  unfold CodeO at e2
  cases e2
/-- refused for these classes -/
def Bad (K : PySem.W.Frag) (ys : Wy → Prop) (H : Hp) (x : V) : Prop := ∃ g, ArgAt K H x g ∧ ∀ y, ys y → g.good y = false
theorem Bad.extN {K : PySem.W.Frag} {ys : Wy → Prop} {H H' : Hp} {x : V} (h : Bad K ys H x) (e : ExtN H H') : Bad K ys H' x := by
  obtain ⟨g, a, b⟩ := h
  exact ⟨g, a.extN e, b⟩
theorem bad_oth {K : PySem.W.Frag} {ys : Wy → Prop} {H : Hp} {x : V} {n : String} (h : ∀ i, x ≠ .int i) (t : TyX K H x (.type n)) (m : n ∈ ["NoneType", "bool", "str", "dict"]) : Bad K ys H x :=
  ⟨.oth, ⟨h, n, t, m⟩, fun y _ => by cases y <;> rfl⟩
theorem bad_num {K : PySem.W.Frag} {ys : Wy → Prop} {H : Hp} {i : Int} (h : ys .u → (decide (0 ≤ i) && decide (i ≤ 18446744073709551615)) = false) : Bad K ys H (.int i) :=
  ⟨.num i, rfl, fun y hy => by cases y <;> first | rfl | exact h hy⟩
theorem bad_lst {K : PySem.W.Frag} {ys : Wy → Prop} {H : Hp} {q : Addr} {xs : List V} (e : H q = some (.lst xs)) (l : xs.length ≤ 100000) (it : ∀ x ∈ xs, ItOk K H x) (h : ∀ y, ys y → (Arg.row xs).good y = false) : Bad K ys H (.ref q) :=
  ⟨.row xs, ⟨q, rfl, .inl (.inl (.inl e)), l, it⟩, h⟩
theorem bad_tup {K : PySem.W.Frag} {ys : Wy → Prop} {H : Hp} {q : Addr} {xs : List V} (e : H q = some (.tup xs)) (l : xs.length ≤ 100000) (it : ∀ x ∈ xs, ItOk K H x) (h : ∀ y, ys y → (Arg.row xs).good y = false) : Bad K ys H (.ref q) :=
  ⟨.row xs, ⟨q, rfl, .inr (.inl (.inl e)), l, it⟩, h⟩
theorem it_int {K : PySem.W.Frag} {H : Hp} {i : Int} : ItOk K H (.int i) := .inl ⟨i, rfl⟩
theorem it_bl {K : PySem.W.Frag} {H : Hp} {b : Bool} : ItOk K H (.bl b) := .inr ⟨fun i z => (nomatch z), "bool", .base (.bl b), by simp⟩
theorem it_non {K : PySem.W.Frag} {H : Hp} : ItOk K H .non := .inr ⟨fun i z => (nomatch z), "NoneType", .base .non, by simp⟩
theorem it_str {K : PySem.W.Frag} {H : Hp} {z : Str} : ItOk K H (.str z) := .inr ⟨fun i z => (nomatch z), "str", .base (.str z), by simp⟩
theorem it_lst {K : PySem.W.Frag} {H : Hp} {q : Addr} {xs : List V} (e : H q = some (.lst xs)) : ItOk K H (.ref q) := .inr ⟨fun i z => (nomatch z), "list", .base (.lst e), by simp⟩
theorem it_tup {K : PySem.W.Frag} {H : Hp} {q : Addr} {xs : List V} (e : H q = some (.tup xs)) : ItOk K H (.ref q) := .inr ⟨fun i z => (nomatch z), "tuple", .base (.tup e), by simp⟩
theorem all0 {p : V → Prop} : ∀ x ∈ ([] : List V), p x := fun _ h => nomatch h
theorem allC {p : V → Prop} {x : V} {xs : List V} (h : p x) (t : ∀ y ∈ xs, p y) : ∀ y ∈ x :: xs, p y := fun y hy => by
  rcases List.mem_cons.mp hy with rfl | hy
  · exact h
  · exact t y hy
theorem flat1 : ∀ n : Nat, (List.replicate n [V.int 1]).flatten = List.replicate n (V.int 1)
  | 0 => rfl
  | n + 1 => by
    rw [List.replicate_succ, List.flatten_cons, flat1 n, List.replicate_succ]
    rfl
theorem it_rep {K : PySem.W.Frag} {H : Hp} {n : Nat} {i : Int} : ∀ x ∈ List.replicate n (V.int i), ItOk K H x := fun x hx => by
  rw [(List.mem_replicate.mp hx).2]
  exact it_int
theorem bad_rep {n : Nat} (h4 : n ≠ 4) (h8 : n ≠ 8) : ∀ y : Wy, (y = .r ∨ y = .t) → (Arg.row (List.replicate n (V.int 1))).good y = false := by
  rintro y (rfl | rfl)
  · show (_ && (decide ((List.replicate n (V.int 1)).length = 4) || decide ((List.replicate n (V.int 1)).length = 8))) = false
    rw [List.length_replicate, decide_eq_false h4, decide_eq_false h8]
    exact Bool.and_false _
  · show (_ && decide ((List.replicate n (V.int 1)).length = 8)) = false
    rw [List.length_replicate, decide_eq_false h8]
    exact Bool.and_false _
/-- a step that only adds -/
structure St1 (S pT : Addr) (H0 H : Hp) : Prop where
  src : SrcAt H S
  tab : Tabs [(pT, madQ)] H
  but : ButT S H0 H
theorem St1.ext {S pT : Addr} {H0 H H1 : Hp} (h : St1 S pT H0 H) (x : ExtN H H1) (t : Tabs [(pT, madQ)] H1) : St1 S pT H0 H1 := ⟨src_ext h.src x, t, h.but.ext x⟩
theorem St1.same {S pT : Addr} {H0 H H1 : Hp} (h : St1 S pT H0 H) (s : Same H H1) : St1 S pT H0 H1 := h.ext (.of s) (h.tab.ext s)
theorem St1.but' {S pT : Addr} {H0 H H1 : Hp} (h : St1 S pT H0 H) (b : But S H H1) (hS : SrcAt H1 S) : St1 S pT H0 H1 := ⟨hS, tabs_but h.tab h.src b, h.but.but b⟩
def spOdd (pT : Addr) : Sp := fun vs H Q _ => ∃ (S : Addr), vs = [.ref S] ∧ SrcAt H S ∧ Tabs [(pT, madQ)] H ∧ ∀ H', ButT S H H' → SrcAt H' S → Tabs [(pT, madQ)] H' → Q (.bl true) H'
section
variable {P : Program} {w : World} {K : PySem.W.Frag} {mg : Str → Option Value} {base : Heap} {a : Ad}
theorem scOdd : FnScope ["_law_source_here", "_law_odd", "_law_some", "_law_way", "_law_many"] ["_law_source_here"] (defScope sOdd) := ⟨rfl, rfl, rfl, by decide +kernel, rfl, by decide +kernel, by decide +kernel⟩
theorem ok_odd (D : Df K a) (T : Txt K mg a) {c pT : Addr} (FC : FunC K "_law_made" "_law_made" sMad a.fMad D.dMad c) (TB : TabB base mg c pT) : FnOk P w K mg base CX0 9 a.fOdd D.dOdd ["_law_source_here"] (spOdd pT) := by
  have GPik : FnOk P w K mg base CX0 2 a.fPik D.dPik ["_law_source_here", "_law_items"] spPik := ok_pik D T
  have GRfd : FnOk P w K mg base CX0 8 a.fRfd D.dRfd ["_law_way", "_law_some"] (spRfd K pT) := ok_rfd D T FC TB
  refine D.FOdd.ok scOdd (fun vs H Q E h => ?_) (fun cdv A outer s H vs Q E hr h => ?_)
  · obtain ⟨S, rfl, _⟩ := h
    rfl
  · obtain ⟨S, rfl, hS, hT, k⟩ := h
    have hr2 : Room 2 _ := hr.mono (by decide)
    have f0 : St1 S pT H H := ⟨hS, hT, ButT.refl S H⟩
    refine ⟨_, (pss_cons (ps_set (i := 1) scOdd.nd rfl (.inl rfl) (pe_lst (pa_cons pe_non (pa_cons pe_bl (pa_cons pe_str (pa_cons pe_str (pa_cons (pe_un un_neg pe_int) (pa_cons pe_dnewK (pa_cons (pe_disp (pps_cons pe_str pe_int pps_nil) rfl rfl (by decide) (by decide)) (pa_cons (pe_lst (pa_cons pe_bl pa_nil)) (pa_cons (pe_lst (pa_cons pe_non pa_nil)) (pa_cons (pe_lst (pa_cons pe_str pa_nil)) (pa_cons (pe_lst (pa_cons (pe_lst (pa_cons pe_int pa_nil)) pa_nil)) (pa_cons (pe_lst (pa_cons (pe_un un_neg pe_int) pa_nil)) (pa_cons (pe_lst (pa_cons pe_int pa_nil)) (pa_cons (pe_lst (pa_cons pe_int (pa_cons pe_int pa_nil))) pa_nil)))))))))))))))) (pss_cons (ps_for PassesOwn.never rfl (pi_list (pe_op op_cat (pv 1) (pe_lst (pa_cons (pe_tup (pa_cons pe_int (pa_cons (pe_un un_neg pe_int) pa_nil))) (pa_cons (pe_lst (pa_cons (pe_op op_pow pe_int pe_int) pa_nil)) (pa_cons (pe_lst (pa_cons pe_int (pa_cons pe_int (pa_cons pe_non pa_nil)))) (pa_cons (pe_tup (pa_cons (pe_tup (pa_cons pe_int pa_nil)) pa_nil)) pa_nil))))))) (pg_name (i := 2) scOdd.nd rfl (.inl rfl)) (pss_one (ps_for PassesOwn.never rfl (pi_tup (pe_tup (pa_cons pe_int (pa_cons pe_int (pa_cons pe_int (pa_cons pe_int pa_nil)))))) (pg_name (i := 3) scOdd.nd rfl (.inl rfl)) (pss_one (ps_if (pt_not (pt_val (pe_call GRfd hr rfl T.gRfd D.FRfd.kp D.bRfd .nil pass0 (pa_cons (pv 3) (pa_cons (pv 2) pa_nil))))) (pss_one (ps_ret pe_bl)) pss_nil))))) (pss_cons (ps_for PassesOwn.never rfl (pi_list (pe_lst (pa_cons (pe_lst pa_nil) (pa_cons (pe_tup pa_nil) (pa_cons (pe_lst (pa_cons pe_int pa_nil)) (pa_cons (pe_lst (pa_cons pe_int (pa_cons pe_int pa_nil))) (pa_cons (pe_op op_rep (pe_lst (pa_cons pe_int (pa_cons pe_int pa_nil))) pe_int) (pa_cons (pe_op op_rep (pe_lst (pa_cons (pe_call GPik hr2 rfl T.gPik D.FPik.kp D.bPik .nil pass0 (pa_cons (pv 0) (pa_cons (pe_lst (pa_cons pe_int (pa_cons pe_int (pa_cons pe_int pa_nil)))) pa_nil))) pa_nil)) pe_int) pa_nil)))))))) (pg_name (i := 2) scOdd.nd rfl (.inl rfl)) (pss_one (ps_if (pt_not (pt_val (pe_call GRfd hr rfl T.gRfd D.FRfd.kp D.bRfd .nil pass0 (pa_cons pe_int (pa_cons (pv 2) pa_nil))))) (pss_one (ps_ret pe_bl)) pss_nil))) (pss_cons (ps_for PassesOwn.never rfl (pi_list (pe_lst (pa_cons (pe_un un_neg pe_int) (pa_cons (pe_op op_pow pe_int pe_int) (pa_cons (pe_op op_pow pe_int pe_int) (pa_cons pe_non (pa_cons pe_bl (pa_cons pe_bl (pa_cons pe_str (pa_cons (pe_lst (pa_cons pe_int pa_nil)) (pa_cons (pe_tup pa_nil) (pa_cons pe_dnewK (pa_cons (pe_un un_neg (pe_op op_pow pe_int pe_int)) pa_nil))))))))))))) (pg_name (i := 2) scOdd.nd rfl (.inl rfl)) (pss_one (ps_if (pt_not (pt_val (pe_call GRfd hr rfl T.gRfd D.FRfd.kp D.bRfd .nil pass0 (pa_cons pe_int (pa_cons (pv 2) pa_nil))))) (pss_one (ps_ret pe_bl)) pss_nil))) (pss_cons (ps_for PassesOwn.never rfl (pi_list (pe_lst (pa_cons pe_int (pa_cons pe_int (pa_cons pe_int (pa_cons pe_int (pa_cons pe_int (pa_cons pe_int (pa_cons pe_int (pa_cons pe_int pa_nil)))))))))) (pg_name (i := 4) scOdd.nd rfl (.inl rfl)) (pss_one (ps_if (PW.pt (pw_or (pt_not (pt_val (pe_call GRfd hr rfl T.gRfd D.FRfd.kp D.bRfd .nil pass0 (pa_cons pe_int (pa_cons (pe_op op_rep (pe_lst (pa_cons pe_int pa_nil)) (pv 4)) pa_nil))))) (pw_or1 (pt_not (pt_val (pe_call GRfd hr rfl T.gRfd D.FRfd.kp D.bRfd .nil pass0 (pa_cons pe_int (pa_cons (pe_callTy call_tuple_of (by rfl) T.btuple (by decide +kernel) (pa_cons (pe_op op_rep (pe_lst (pa_cons pe_int pa_nil)) (pv 4)) pa_nil)) pa_nil)))))))) (pss_one (ps_ret pe_bl)) pss_nil))) (pss_one (ps_ret (pe_and (pe_call GRfd hr rfl T.gRfd D.FRfd.kp D.bRfd .nil pass0 (pa_cons pe_int (pa_cons (pe_op op_rep (pe_lst (pa_cons pe_int pa_nil)) pe_int) pa_nil))) (pe_and (pe_call GRfd hr rfl T.gRfd D.FRfd.kp D.bRfd .nil pass0 (pa_cons pe_int (pa_cons (pe_lst (pa_cons pe_int (pa_cons pe_int pa_nil))) pa_nil))) (pe_one (pe_call GRfd hr rfl T.gRfd D.FRfd.kp D.bRfd .nil pass0 (pa_cons pe_int (pa_cons (pe_lst (pa_cons pe_int (pa_cons pe_int (pa_cons pe_int (pa_cons pe_int pa_nil))))) pa_nil))))))))))))), ?_⟩
    refine ⟨_, rfl, ?_⟩
    intro d1 h_d1
    have s1 := same_new (o := .dK []) (Same.refl H) h_d1
    have e_d1 : (upd H d1 (.dK [])) d1 = some (.dK []) := upd_same
    have n_d1 : d1 ≠ S := src_ne f0.src h_d1
    generalize upd H d1 (.dK []) = H1 at s1 e_d1 ⊢
    have f1 := f0.same s1
    have b1 : ButT S H H1 := (ButT.refl S H).ext (.of s1)
    clear h_d1
    intro d2 h_d2
    refine ⟨upd_same, [(.inr "a", .int 1)], rfl, by decide, ?_⟩
    have s2 : Same H1 (upd (upd H1 d2 (.dK [])) d2 (.dK (mergeK [] [(.inr "a", .int 1)]))) := fun b o e => by
      rw [upd_ne (ne_of_none e h_d2), upd_ne (ne_of_none e h_d2)]
      exact e
    have e_d2 : (upd (upd H1 d2 (.dK [])) d2 (.dK (mergeK [] [(.inr "a", .int 1)]))) d2 = some (.dK (mergeK [] [(.inr "a", .int 1)])) := upd_same
    have n_d2 : d2 ≠ S := src_ne f1.src h_d2
    generalize upd (upd H1 d2 (.dK [])) d2 (.dK (mergeK [] [(.inr "a", .int 1)])) = H2 at s2 e_d2 ⊢
    have f2 := f1.same s2
    have b2 : ButT S H1 H2 := (ButT.refl S H1).ext (.of s2)
    clear h_d2
    refine ⟨by show 1 ≤ sizeLine; decide, fun q1 h_q1 => ?_⟩
    have s3 := same_new (o := (.lst [V.bl true])) (Same.refl H2) h_q1
    have e_q1 : (upd H2 q1 (.lst [V.bl true])) q1 = some (.lst [V.bl true]) := upd_same
    have n_q1 : q1 ≠ S := src_ne f2.src h_q1
    generalize upd H2 q1 (.lst [V.bl true]) = H3 at s3 e_q1 ⊢
    have f3 := f2.same s3
    have b3 : ButT S H2 H3 := (ButT.refl S H2).ext (.of s3)
    clear h_q1
    refine ⟨by show 1 ≤ sizeLine; decide, fun q2 h_q2 => ?_⟩
    have s4 := same_new (o := (.lst [V.non])) (Same.refl H3) h_q2
    have e_q2 : (upd H3 q2 (.lst [V.non])) q2 = some (.lst [V.non]) := upd_same
    have n_q2 : q2 ≠ S := src_ne f3.src h_q2
    generalize upd H3 q2 (.lst [V.non]) = H4 at s4 e_q2 ⊢
    have f4 := f3.same s4
    have b4 : ButT S H3 H4 := (ButT.refl S H3).ext (.of s4)
    clear h_q2
    refine ⟨by show 1 ≤ sizeLine; decide, fun q3 h_q3 => ?_⟩
    have s5 := same_new (o := (.lst [V.str "a"])) (Same.refl H4) h_q3
    have e_q3 : (upd H4 q3 (.lst [V.str "a"])) q3 = some (.lst [V.str "a"]) := upd_same
    have n_q3 : q3 ≠ S := src_ne f4.src h_q3
    generalize upd H4 q3 (.lst [V.str "a"]) = H5 at s5 e_q3 ⊢
    have f5 := f4.same s5
    have b5 : ButT S H4 H5 := (ButT.refl S H4).ext (.of s5)
    clear h_q3
    refine ⟨by show 1 ≤ sizeLine; decide, fun q4 h_q4 => ?_⟩
    have s6 := same_new (o := (.lst [V.int 1])) (Same.refl H5) h_q4
    have e_q4 : (upd H5 q4 (.lst [V.int 1])) q4 = some (.lst [V.int 1]) := upd_same
    have n_q4 : q4 ≠ S := src_ne f5.src h_q4
    generalize upd H5 q4 (.lst [V.int 1]) = H6 at s6 e_q4 ⊢
    have f6 := f5.same s6
    have b6 : ButT S H5 H6 := (ButT.refl S H5).ext (.of s6)
    clear h_q4
    refine ⟨by show 1 ≤ sizeLine; decide, fun q5 h_q5 => ?_⟩
    have s7 := same_new (o := (.lst [V.ref q4])) (Same.refl H6) h_q5
    have e_q5 : (upd H6 q5 (.lst [V.ref q4])) q5 = some (.lst [V.ref q4]) := upd_same
    have n_q5 : q5 ≠ S := src_ne f6.src h_q5
    generalize upd H6 q5 (.lst [V.ref q4]) = H7 at s7 e_q5 ⊢
    have f7 := f6.same s7
    have b7 : ButT S H6 H7 := (ButT.refl S H6).ext (.of s7)
    clear h_q5
    refine ⟨_, rfl, by show 1 ≤ sizeLine; decide, fun q6 h_q6 => ?_⟩
    have s8 := same_new (o := (.lst [V.int (-1)])) (Same.refl H7) h_q6
    have e_q6 : (upd H7 q6 (.lst [V.int (-1)])) q6 = some (.lst [V.int (-1)]) := upd_same
    have n_q6 : q6 ≠ S := src_ne f7.src h_q6
    generalize upd H7 q6 (.lst [V.int (-1)]) = H8 at s8 e_q6 ⊢
    have f8 := f7.same s8
    have b8 : ButT S H7 H8 := (ButT.refl S H7).ext (.of s8)
    clear h_q6
    refine ⟨by show 1 ≤ sizeLine; decide, fun q7 h_q7 => ?_⟩
    have s9 := same_new (o := (.lst [V.int 65536])) (Same.refl H8) h_q7
    have e_q7 : (upd H8 q7 (.lst [V.int 65536])) q7 = some (.lst [V.int 65536]) := upd_same
    have n_q7 : q7 ≠ S := src_ne f8.src h_q7
    generalize upd H8 q7 (.lst [V.int 65536]) = H9 at s9 e_q7 ⊢
    have f9 := f8.same s9
    have b9 : ButT S H8 H9 := (ButT.refl S H8).ext (.of s9)
    clear h_q7
    refine ⟨by show 2 ≤ sizeLine; decide, fun q8 h_q8 => ?_⟩
    have s10 := same_new (o := (.lst [V.int 0, V.int 65536])) (Same.refl H9) h_q8
    have e_q8 : (upd H9 q8 (.lst [V.int 0, V.int 65536])) q8 = some (.lst [V.int 0, V.int 65536]) := upd_same
    have n_q8 : q8 ≠ S := src_ne f9.src h_q8
    generalize upd H9 q8 (.lst [V.int 0, V.int 65536]) = H10 at s10 e_q8 ⊢
    have f10 := f9.same s10
    have b10 : ButT S H9 H10 := (ButT.refl S H9).ext (.of s10)
    clear h_q8
    refine ⟨by show 14 ≤ sizeLine; decide, fun L1 h_L1 => ?_⟩
    have s11 := same_new (o := (.lst [V.non, V.bl true, V.str "ab", V.str "", V.int (-1), V.ref d1, V.ref d2, V.ref q1, V.ref q2, V.ref q3, V.ref q5, V.ref q6, V.ref q7, V.ref q8])) (Same.refl H10) h_L1
    have e_L1 : (upd H10 L1 (.lst [V.non, V.bl true, V.str "ab", V.str "", V.int (-1), V.ref d1, V.ref d2, V.ref q1, V.ref q2, V.ref q3, V.ref q5, V.ref q6, V.ref q7, V.ref q8])) L1 = some (.lst [V.non, V.bl true, V.str "ab", V.str "", V.int (-1), V.ref d1, V.ref d2, V.ref q1, V.ref q2, V.ref q3, V.ref q5, V.ref q6, V.ref q7, V.ref q8]) := upd_same
    have n_L1 : L1 ≠ S := src_ne f10.src h_L1
    generalize upd H10 L1 (.lst [V.non, V.bl true, V.str "ab", V.str "", V.int (-1), V.ref d1, V.ref d2, V.ref q1, V.ref q2, V.ref q3, V.ref q5, V.ref q6, V.ref q7, V.ref q8]) = H11 at s11 e_L1 ⊢
    have f11 := f10.same s11
    have b11 : ButT S H10 H11 := (ButT.refl S H10).ext (.of s11)
    clear h_L1
    refine ⟨_, rfl, _, rfl, by show 2 ≤ sizeLine; decide, fun t1 h_t1 => ?_⟩
    have s12 := same_new (o := (.tup [V.int 0, V.int (-1)])) (Same.refl H11) h_t1
    have e_t1 : (upd H11 t1 (.tup [V.int 0, V.int (-1)])) t1 = some (.tup [V.int 0, V.int (-1)]) := upd_same
    have n_t1 : t1 ≠ S := src_ne f11.src h_t1
    generalize upd H11 t1 (.tup [V.int 0, V.int (-1)]) = H12 at s12 e_t1 ⊢
    have f12 := f11.same s12
    have b12 : ButT S H11 H12 := (ButT.refl S H11).ext (.of s12)
    clear h_t1
    refine ⟨_, _, rfl, rfl, ⟨by decide, by decide, by decide⟩, by show 1 ≤ sizeLine; decide, fun q9 h_q9 => ?_⟩
    have s13 := same_new (o := (.lst [V.int ((10 : Int) ^ (30 : Int).toNat)])) (Same.refl H12) h_q9
    have e_q9 : (upd H12 q9 (.lst [V.int ((10 : Int) ^ (30 : Int).toNat)])) q9 = some (.lst [V.int ((10 : Int) ^ (30 : Int).toNat)]) := upd_same
    have n_q9 : q9 ≠ S := src_ne f12.src h_q9
    generalize upd H12 q9 (.lst [V.int ((10 : Int) ^ (30 : Int).toNat)]) = H13 at s13 e_q9 ⊢
    have f13 := f12.same s13
    have b13 : ButT S H12 H13 := (ButT.refl S H12).ext (.of s13)
    clear h_q9
    refine ⟨by show 3 ≤ sizeLine; decide, fun q10 h_q10 => ?_⟩
    have s14 := same_new (o := (.lst [V.int 1, V.int 2, V.non])) (Same.refl H13) h_q10
    have e_q10 : (upd H13 q10 (.lst [V.int 1, V.int 2, V.non])) q10 = some (.lst [V.int 1, V.int 2, V.non]) := upd_same
    have n_q10 : q10 ≠ S := src_ne f13.src h_q10
    generalize upd H13 q10 (.lst [V.int 1, V.int 2, V.non]) = H14 at s14 e_q10 ⊢
    have f14 := f13.same s14
    have b14 : ButT S H13 H14 := (ButT.refl S H13).ext (.of s14)
    clear h_q10
    refine ⟨by show 1 ≤ sizeLine; decide, fun t2 h_t2 => ?_⟩
    have s15 := same_new (o := (.tup [V.int 1])) (Same.refl H14) h_t2
    have e_t2 : (upd H14 t2 (.tup [V.int 1])) t2 = some (.tup [V.int 1]) := upd_same
    have n_t2 : t2 ≠ S := src_ne f14.src h_t2
    generalize upd H14 t2 (.tup [V.int 1]) = H15 at s15 e_t2 ⊢
    have f15 := f14.same s15
    have b15 : ButT S H14 H15 := (ButT.refl S H14).ext (.of s15)
    clear h_t2
    refine ⟨by show 1 ≤ sizeLine; decide, fun t3 h_t3 => ?_⟩
    have s16 := same_new (o := (.tup [V.ref t2])) (Same.refl H15) h_t3
    have e_t3 : (upd H15 t3 (.tup [V.ref t2])) t3 = some (.tup [V.ref t2]) := upd_same
    have n_t3 : t3 ≠ S := src_ne f15.src h_t3
    generalize upd H15 t3 (.tup [V.ref t2]) = H16 at s16 e_t3 ⊢
    have f16 := f15.same s16
    have b16 : ButT S H15 H16 := (ButT.refl S H15).ext (.of s16)
    clear h_t3
    refine ⟨by show 4 ≤ sizeLine; decide, fun L2 h_L2 => ?_⟩
    have s17 := same_new (o := (.lst [V.ref t1, V.ref q9, V.ref q10, V.ref t3])) (Same.refl H16) h_L2
    have e_L2 : (upd H16 L2 (.lst [V.ref t1, V.ref q9, V.ref q10, V.ref t3])) L2 = some (.lst [V.ref t1, V.ref q9, V.ref q10, V.ref t3]) := upd_same
    have n_L2 : L2 ≠ S := src_ne f16.src h_L2
    generalize upd H16 L2 (.lst [V.ref t1, V.ref q9, V.ref q10, V.ref t3]) = H17 at s17 e_L2 ⊢
    have f17 := f16.same s17
    have b17 : ButT S H16 H17 := (ButT.refl S H16).ext (.of s17)
    clear h_L2
    have c_L1 : H17 L1 = some (.lst [V.non, V.bl true, V.str "ab", V.str "", V.int (-1), V.ref d1, V.ref d2, V.ref q1, V.ref q2, V.ref q3, V.ref q5, V.ref q6, V.ref q7, V.ref q8]) := ((b12.trans (b13.trans (b14.trans (b15.trans (b16.trans b17)))))) _ _ e_L1 n_L1 (fun ps z => nomatch z)
    refine ⟨L1, L2, _, _, rfl, rfl, c_L1, e_L2, by show 14 + 4 ≤ sizeLine; decide, fun L3 h_L3 => ?_⟩
    have s18 := same_new (o := (.lst ([V.non, V.bl true, V.str "ab", V.str "", V.int (-1), V.ref d1, V.ref d2, V.ref q1, V.ref q2, V.ref q3, V.ref q5, V.ref q6, V.ref q7, V.ref q8] ++ [V.ref t1, V.ref q9, V.ref q10, V.ref t3]))) (Same.refl H17) h_L3
    have e_L3 : (upd H17 L3 (.lst ([V.non, V.bl true, V.str "ab", V.str "", V.int (-1), V.ref d1, V.ref d2, V.ref q1, V.ref q2, V.ref q3, V.ref q5, V.ref q6, V.ref q7, V.ref q8] ++ [V.ref t1, V.ref q9, V.ref q10, V.ref t3]))) L3 = some (.lst ([V.non, V.bl true, V.str "ab", V.str "", V.int (-1), V.ref d1, V.ref d2, V.ref q1, V.ref q2, V.ref q3, V.ref q5, V.ref q6, V.ref q7, V.ref q8] ++ [V.ref t1, V.ref q9, V.ref q10, V.ref t3])) := upd_same
    have n_L3 : L3 ≠ S := src_ne f17.src h_L3
    generalize upd H17 L3 (.lst ([V.non, V.bl true, V.str "ab", V.str "", V.int (-1), V.ref d1, V.ref d2, V.ref q1, V.ref q2, V.ref q3, V.ref q5, V.ref q6, V.ref q7, V.ref q8] ++ [V.ref t1, V.ref q9, V.ref q10, V.ref t3])) = H18 at s18 e_L3 ⊢
    have f18 := f17.same s18
    have b18 : ButT S H17 H18 := (ButT.refl S H17).ext (.of s18)
    clear h_L3
    have B18 : ButT S H18 H18 := ButT.refl S H18
    have B17 : ButT S H17 H18 := b18.trans B18
    have B16 : ButT S H16 H18 := b17.trans B17
    have B15 : ButT S H15 H18 := b16.trans B16
    have B14 : ButT S H14 H18 := b15.trans B15
    have B13 : ButT S H13 H18 := b14.trans B14
    have B12 : ButT S H12 H18 := b13.trans B13
    have B11 : ButT S H11 H18 := b12.trans B12
    have B10 : ButT S H10 H18 := b11.trans B11
    have B9 : ButT S H9 H18 := b10.trans B10
    have B8 : ButT S H8 H18 := b9.trans B9
    have B7 : ButT S H7 H18 := b8.trans B8
    have B6 : ButT S H6 H18 := b7.trans B7
    have B5 : ButT S H5 H18 := b6.trans B6
    have B4 : ButT S H4 H18 := b5.trans B5
    have B3 : ButT S H3 H18 := b4.trans B4
    have B2 : ButT S H2 H18 := b3.trans B3
    have B1 : ButT S H1 H18 := b2.trans B2
    have x_d1 := B1 _ _ e_d1 n_d1 (fun ps z => nomatch z)
    have x_d2 := B2 _ _ e_d2 n_d2 (fun ps z => nomatch z)
    have x_q1 := B3 _ _ e_q1 n_q1 (fun ps z => nomatch z)
    have x_q2 := B4 _ _ e_q2 n_q2 (fun ps z => nomatch z)
    have x_q3 := B5 _ _ e_q3 n_q3 (fun ps z => nomatch z)
    have x_q4 := B6 _ _ e_q4 n_q4 (fun ps z => nomatch z)
    have x_q5 := B7 _ _ e_q5 n_q5 (fun ps z => nomatch z)
    have x_q6 := B8 _ _ e_q6 n_q6 (fun ps z => nomatch z)
    have x_q7 := B9 _ _ e_q7 n_q7 (fun ps z => nomatch z)
    have x_q8 := B10 _ _ e_q8 n_q8 (fun ps z => nomatch z)
    have x_t1 := B12 _ _ e_t1 n_t1 (fun ps z => nomatch z)
    have x_q9 := B13 _ _ e_q9 n_q9 (fun ps z => nomatch z)
    have x_q10 := B14 _ _ e_q10 n_q10 (fun ps z => nomatch z)
    have x_t2 := B15 _ _ e_t2 n_t2 (fun ps z => nomatch z)
    have x_t3 := B16 _ _ e_t3 n_t3 (fun ps z => nomatch z)
    have hB : ∀ x ∈ [V.non, V.bl true, V.str "ab", V.str "", V.int (-1), V.ref d1, V.ref d2, V.ref q1, V.ref q2, V.ref q3, V.ref q5, V.ref q6, V.ref q7, V.ref q8] ++ [V.ref t1, V.ref q9, V.ref q10, V.ref t3], Bad K (fun y => y ≠ .u) H18 x := by
      refine allC (bad_oth (fun i z => nomatch z) (.base .non) (by simp)) ?_
      refine allC (bad_oth (fun i z => nomatch z) (.base (.bl _)) (by simp)) ?_
      refine allC (bad_oth (fun i z => nomatch z) (.base (.str _)) (by simp)) ?_
      refine allC (bad_oth (fun i z => nomatch z) (.base (.str _)) (by simp)) ?_
      refine allC (bad_num (fun h => absurd rfl h)) ?_
      refine allC (bad_oth (fun i z => nomatch z) (.base (.dK x_d1)) (by simp)) ?_
      refine allC (bad_oth (fun i z => nomatch z) (.base (.dK x_d2)) (by simp)) ?_
      refine allC (bad_lst x_q1 (by show 1 ≤ 100000; decide) (allC it_bl all0) (fun y hy => (by cases y <;> first | rfl | exact absurd rfl hy | (exact absurd hy (by decide))))) ?_
      refine allC (bad_lst x_q2 (by show 1 ≤ 100000; decide) (allC it_non all0) (fun y hy => (by cases y <;> first | rfl | exact absurd rfl hy | (exact absurd hy (by decide))))) ?_
      refine allC (bad_lst x_q3 (by show 1 ≤ 100000; decide) (allC it_str all0) (fun y hy => (by cases y <;> first | rfl | exact absurd rfl hy | (exact absurd hy (by decide))))) ?_
      refine allC (bad_lst x_q5 (by show 1 ≤ 100000; decide) (allC (it_lst x_q4) all0) (fun y hy => (by cases y <;> first | rfl | exact absurd rfl hy | (exact absurd hy (by decide))))) ?_
      refine allC (bad_lst x_q6 (by show 1 ≤ 100000; decide) (allC it_int all0) (fun y hy => (by cases y <;> first | rfl | exact absurd rfl hy | (exact absurd hy (by decide))))) ?_
      refine allC (bad_lst x_q7 (by show 1 ≤ 100000; decide) (allC it_int all0) (fun y hy => (by cases y <;> first | rfl | exact absurd rfl hy | (exact absurd hy (by decide))))) ?_
      refine allC (bad_lst x_q8 (by show 2 ≤ 100000; decide) (allC it_int (allC it_int all0)) (fun y hy => (by cases y <;> first | rfl | exact absurd rfl hy | (exact absurd hy (by decide))))) ?_
      refine allC (bad_tup x_t1 (by show 2 ≤ 100000; decide) (allC it_int (allC it_int all0)) (fun y hy => (by cases y <;> first | rfl | exact absurd rfl hy | (exact absurd hy (by decide))))) ?_
      refine allC (bad_lst x_q9 (by show 1 ≤ 100000; decide) (allC it_int all0) (fun y hy => (by cases y <;> first | rfl | exact absurd rfl hy | (exact absurd hy (by decide))))) ?_
      refine allC (bad_lst x_q10 (by show 3 ≤ 100000; decide) (allC it_int (allC it_int (allC it_non all0))) (fun y hy => (by cases y <;> first | rfl | exact absurd rfl hy | (exact absurd hy (by decide))))) ?_
      refine allC (bad_tup x_t3 (by show 1 ≤ 100000; decide) (allC (it_tup x_t2) all0) (fun y hy => (by cases y <;> first | rfl | exact absurd rfl hy | (exact absurd hy (by decide))))) ?_
      exact all0
    clear x_d1 x_d2 x_q1 x_q2 x_q3 x_q4 x_q5 x_q6 x_q7 x_q8 x_t1 x_q9 x_q10 x_t2 x_t3 e_d1 e_d2 e_q1 e_q2 e_q3 e_q4 e_q5 e_q6 e_q7 e_q8 e_t1 e_q9 e_q10 e_t2 e_t3 e_L1 c_L1 e_L2
    refine ⟨L3, rfl, ⟨_, .inl (.inl e_L3)⟩, for_it (walk_list (K := K) (a := L3) (xs := [V.non, V.bl true, V.str "ab", V.str "", V.int (-1), V.ref d1, V.ref d2, V.ref q1, V.ref q2, V.ref q3, V.ref q5, V.ref q6, V.ref q7, V.ref q8] ++ [V.ref t1, V.ref q9, V.ref q10, V.ref t3])) (fun i st H1 => ∃ u2 u3 u4, st = [some (.ref S), some (.ref L1), u2, u3, u4] ∧ ExtN H18 H1 ∧ Tabs [(pT, madQ)] H1) ⟨_, _, _, rfl, ExtN.refl _, f18.tab⟩ (fun _ _ _ _ ⟨_, _, _, _, x, _⟩ => .inl (.inl (x _ _ e_L3 fun ps z => nomatch z))) ?_ ?_⟩
    · rintro i x st G1' G1 hi ⟨u2, u3, u4, rfl, x1, T1⟩ ⟨rfl, hx⟩
      have bx := (hB x (List.mem_of_getElem? hx)).extN x1
      refine ⟨by show 4 ≤ sizeLine; decide, fun q hq => ?_⟩
      have s2 := same_new (o := .tup [V.int 0, V.int 1, V.int 3, V.int 4]) (Same.refl G1) hq
      have e2 : (upd G1 q (.tup [V.int 0, V.int 1, V.int 3, V.int 4])) q = some (.tup [V.int 0, V.int 1, V.int 3, V.int 4]) := upd_same
      have T2 := T1.ext s2
      generalize upd G1 q (.tup [V.int 0, V.int 1, V.int 3, V.int 4]) = G2 at s2 e2 T2 ⊢
      refine ⟨q, rfl, ⟨_, .inl (.inl e2)⟩, for_it (walk_tup (K := K) (a := q) (xs := [V.int 0, V.int 1, V.int 3, V.int 4])) (fun i st H1 => ∃ u3 u4, st = [some (.ref S), some (.ref L1), some x, u3, u4] ∧ ExtN G2 H1 ∧ Tabs [(pT, madQ)] H1) ⟨_, _, rfl, ExtN.refl _, T2⟩ (fun _ _ _ _ ⟨_, _, _, x, _⟩ => .inl (.inl (x _ _ e2 fun ps z => nomatch z))) ?_ ?_⟩
      · rintro j z st G3' G3 hj ⟨u3, u4, rfl, x3, T3⟩ ⟨rfl, hz⟩
        obtain ⟨y, rfl, hy⟩ : ∃ y : Wy, z = .int (y.num : Nat) ∧ y ≠ .u := by
          have := List.mem_of_getElem? hz
          simp only [List.mem_cons, List.not_mem_nil, or_false] at this
          rcases this with rfl | rfl | rfl | rfl
          · exact ⟨.w, rfl, fun z => nomatch z⟩
          · exact ⟨.d, rfl, fun z => nomatch z⟩
          · exact ⟨.r, rfl, fun z => nomatch z⟩
          · exact ⟨.t, rfl, fun z => nomatch z⟩
        obtain ⟨g, ga, gb⟩ := bx.extN ((ExtN.of s2).trans x3)
        refine ⟨_, rfl, _, rfl, y, x, g, rfl, ga, gb y hy, T3, fun G4 x4 T4 => ?_⟩
        exact ⟨true, rfl, iteF ⟨_, _, rfl, x3.trans x4, T4⟩⟩
      · rintro st G3 ⟨u3, u4, rfl, x3, T3⟩
        exact ⟨_, _, _, rfl, x1.trans ((ExtN.of s2).trans x3), T3⟩
    rintro st G1 ⟨u2, u3, u4, rfl, x1, T1⟩
    have g1 := f18.ext x1 T1
    clear hB e_L3 x1 T1
    refine ⟨by show 0 ≤ sizeLine; decide, fun r1 h_r1 => ?_⟩
    have s101 := same_new (o := (.lst [])) (Same.refl G1) h_r1
    have e_r1 : (upd G1 r1 (.lst [])) r1 = some (.lst []) := upd_same
    have n_r1 : r1 ≠ S := src_ne g1.src h_r1
    generalize upd G1 r1 (.lst []) = H101 at s101 e_r1 ⊢
    have f101 := g1.same s101
    have b101 : ButT S G1 H101 := (ButT.refl S G1).ext (.of s101)
    clear h_r1
    refine ⟨by show 0 ≤ sizeLine; decide, fun r2 h_r2 => ?_⟩
    have s102 := same_new (o := (.tup [])) (Same.refl H101) h_r2
    have e_r2 : (upd H101 r2 (.tup [])) r2 = some (.tup []) := upd_same
    have n_r2 : r2 ≠ S := src_ne f101.src h_r2
    generalize upd H101 r2 (.tup []) = H102 at s102 e_r2 ⊢
    have f102 := f101.same s102
    have b102 : ButT S H101 H102 := (ButT.refl S H101).ext (.of s102)
    clear h_r2
    refine ⟨by show 1 ≤ sizeLine; decide, fun r3 h_r3 => ?_⟩
    have s103 := same_new (o := (.lst [V.int 65])) (Same.refl H102) h_r3
    have e_r3 : (upd H102 r3 (.lst [V.int 65])) r3 = some (.lst [V.int 65]) := upd_same
    have n_r3 : r3 ≠ S := src_ne f102.src h_r3
    generalize upd H102 r3 (.lst [V.int 65]) = H103 at s103 e_r3 ⊢
    have f103 := f102.same s103
    have b103 : ButT S H102 H103 := (ButT.refl S H102).ext (.of s103)
    clear h_r3
    refine ⟨by show 2 ≤ sizeLine; decide, fun r4 h_r4 => ?_⟩
    have s104 := same_new (o := (.lst [V.int 32, V.int 126])) (Same.refl H103) h_r4
    have e_r4 : (upd H103 r4 (.lst [V.int 32, V.int 126])) r4 = some (.lst [V.int 32, V.int 126]) := upd_same
    have n_r4 : r4 ≠ S := src_ne f103.src h_r4
    generalize upd H103 r4 (.lst [V.int 32, V.int 126]) = H104 at s104 e_r4 ⊢
    have f104 := f103.same s104
    have b104 : ButT S H103 H104 := (ButT.refl S H103).ext (.of s104)
    clear h_r4
    refine ⟨by show 2 ≤ sizeLine; decide, fun r5 h_r5 => ?_⟩
    have s105 := same_new (o := (.lst [V.int 36, V.int 38])) (Same.refl H104) h_r5
    have e_r5 : (upd H104 r5 (.lst [V.int 36, V.int 38])) r5 = some (.lst [V.int 36, V.int 38]) := upd_same
    have n_r5 : r5 ≠ S := src_ne f104.src h_r5
    generalize upd H104 r5 (.lst [V.int 36, V.int 38]) = H105 at s105 e_r5 ⊢
    have f105 := f104.same s105
    have b105 : ButT S H104 H105 := (ButT.refl S H104).ext (.of s105)
    clear h_r5
    refine ⟨r5, 3, _, rfl, rfl, e_r5, by decide, by decide, by show 2 * 3 ≤ sizeLine; decide, fun r6 h_r6 => ?_⟩
    have s106 := same_new (o := (.lst (List.replicate (3 : Int).toNat [V.int 36, V.int 38]).flatten)) (Same.refl H105) h_r6
    have e_r6 : (upd H105 r6 (.lst (List.replicate (3 : Int).toNat [V.int 36, V.int 38]).flatten)) r6 = some (.lst (List.replicate (3 : Int).toNat [V.int 36, V.int 38]).flatten) := upd_same
    have n_r6 : r6 ≠ S := src_ne f105.src h_r6
    generalize upd H105 r6 (.lst (List.replicate (3 : Int).toNat [V.int 36, V.int 38]).flatten) = H106 at s106 e_r6 ⊢
    have f106 := f105.same s106
    have b106 : ButT S H105 H106 := (ButT.refl S H105).ext (.of s106)
    clear h_r6
    refine ⟨_, rfl, by show 3 ≤ sizeLine; decide, fun qp hqp => pickL (E := E0) f106.src hqp (by show 0 < 3; decide) (by show 3 < 1000; decide) fun jp xp H107 hxp hS107 bb107 => ?_⟩
    have f107 := f106.but' bb107 hS107
    have b107 : ButT S H106 H107 := fun b o e n _ => bb107 b o e n
    clear hqp
    obtain ⟨m, rfl, hm⟩ : ∃ m : Int, xp = .int m ∧ (m = 33 ∨ m = 90 ∨ m = 120) := by
      have := List.mem_of_getElem? hxp
      simp only [List.mem_cons, List.not_mem_nil, or_false] at this
      rcases this with rfl | rfl | rfl
      · exact ⟨_, rfl, .inl rfl⟩
      · exact ⟨_, rfl, .inr (.inl rfl)⟩
      · exact ⟨_, rfl, .inr (.inr rfl)⟩
    clear hxp
    refine ⟨by show 1 ≤ sizeLine; decide, fun r7 h_r7 => ?_⟩
    have s108 := same_new (o := (.lst [V.int m])) (Same.refl H107) h_r7
    have e_r7 : (upd H107 r7 (.lst [V.int m])) r7 = some (.lst [V.int m]) := upd_same
    have n_r7 : r7 ≠ S := src_ne f107.src h_r7
    generalize upd H107 r7 (.lst [V.int m]) = H108 at s108 e_r7 ⊢
    have f108 := f107.same s108
    have b108 : ButT S H107 H108 := (ButT.refl S H107).ext (.of s108)
    clear h_r7
    refine ⟨r7, 4, _, rfl, rfl, e_r7, by decide, by decide, by show 1 * 4 ≤ sizeLine; decide, fun r8 h_r8 => ?_⟩
    have s109 := same_new (o := (.lst (List.replicate (4 : Int).toNat [V.int m]).flatten)) (Same.refl H108) h_r8
    have e_r8 : (upd H108 r8 (.lst (List.replicate (4 : Int).toNat [V.int m]).flatten)) r8 = some (.lst (List.replicate (4 : Int).toNat [V.int m]).flatten) := upd_same
    have n_r8 : r8 ≠ S := src_ne f108.src h_r8
    generalize upd H108 r8 (.lst (List.replicate (4 : Int).toNat [V.int m]).flatten) = H109 at s109 e_r8 ⊢
    have f109 := f108.same s109
    have b109 : ButT S H108 H109 := (ButT.refl S H108).ext (.of s109)
    clear h_r8
    refine ⟨by show 6 ≤ sizeLine; decide, fun M3 h_M3 => ?_⟩
    have s110 := same_new (o := (.lst [V.ref r1, V.ref r2, V.ref r3, V.ref r4, V.ref r6, V.ref r8])) (Same.refl H109) h_M3
    have e_M3 : (upd H109 M3 (.lst [V.ref r1, V.ref r2, V.ref r3, V.ref r4, V.ref r6, V.ref r8])) M3 = some (.lst [V.ref r1, V.ref r2, V.ref r3, V.ref r4, V.ref r6, V.ref r8]) := upd_same
    have n_M3 : M3 ≠ S := src_ne f109.src h_M3
    generalize upd H109 M3 (.lst [V.ref r1, V.ref r2, V.ref r3, V.ref r4, V.ref r6, V.ref r8]) = H110 at s110 e_M3 ⊢
    have f110 := f109.same s110
    have b110 : ButT S H109 H110 := (ButT.refl S H109).ext (.of s110)
    clear h_M3
    have B110 : ButT S H110 H110 := ButT.refl S H110
    have B109 : ButT S H109 H110 := b110.trans B110
    have B108 : ButT S H108 H110 := b109.trans B109
    have B107 : ButT S H107 H110 := b108.trans B108
    have B106 : ButT S H106 H110 := b107.trans B107
    have B105 : ButT S H105 H110 := b106.trans B106
    have B104 : ButT S H104 H110 := b105.trans B105
    have B103 : ButT S H103 H110 := b104.trans B104
    have B102 : ButT S H102 H110 := b103.trans B103
    have B101 : ButT S H101 H110 := b102.trans B102
    have x_r1 := B101 _ _ e_r1 n_r1 (fun ps z => nomatch z)
    have x_r2 := B102 _ _ e_r2 n_r2 (fun ps z => nomatch z)
    have x_r3 := B103 _ _ e_r3 n_r3 (fun ps z => nomatch z)
    have x_r4 := B104 _ _ e_r4 n_r4 (fun ps z => nomatch z)
    have x_r6 := B106 _ _ e_r6 n_r6 (fun ps z => nomatch z)
    have x_r8 := B109 _ _ e_r8 n_r8 (fun ps z => nomatch z)
    have hB : ∀ x ∈ [V.ref r1, V.ref r2, V.ref r3, V.ref r4, V.ref r6, V.ref r8], Bad K (fun y => y = .w) H110 x := by
      refine allC (bad_lst x_r1 (by show 0 ≤ 100000; decide) all0 (fun y hy => (by subst hy; rfl))) ?_
      refine allC (bad_tup x_r2 (by show 0 ≤ 100000; decide) all0 (fun y hy => (by subst hy; rfl))) ?_
      refine allC (bad_lst x_r3 (by show 1 ≤ 100000; decide) (allC it_int all0) (fun y hy => (by subst hy; rfl))) ?_
      refine allC (bad_lst x_r4 (by show 2 ≤ 100000; decide) (allC it_int (allC it_int all0)) (fun y hy => (by subst hy; rfl))) ?_
      refine allC (bad_lst x_r6 (by show 6 ≤ 100000; decide) (allC it_int (allC it_int (allC it_int (allC it_int (allC it_int (allC it_int all0)))))) (fun y hy => (by subst hy; rfl))) ?_
      refine allC (bad_lst x_r8 (by show 4 ≤ 100000; decide) (allC it_int (allC it_int (allC it_int (allC it_int all0)))) (fun y hy => (by subst hy; rcases hm with rfl | rfl | rfl <;> rfl))) ?_
      exact all0
    clear x_r1 x_r2 x_r3 x_r4 x_r6 x_r8 e_r1 e_r2 e_r3 e_r4 e_r6 e_r8
    refine ⟨M3, rfl, ⟨_, .inl (.inl e_M3)⟩, for_it (walk_list (K := K) (a := M3) (xs := [V.ref r1, V.ref r2, V.ref r3, V.ref r4, V.ref r6, V.ref r8])) (fun i st H1 => ∃ u2 u3 u4, st = [some (.ref S), some (.ref L1), u2, u3, u4] ∧ ExtN H110 H1 ∧ Tabs [(pT, madQ)] H1) ⟨_, _, _, rfl, ExtN.refl _, f110.tab⟩ (fun _ _ _ _ ⟨_, _, _, _, x, _⟩ => .inl (.inl (x _ _ e_M3 fun ps z => nomatch z))) ?_ ?_⟩
    · rintro i x st J1' J1 hi ⟨u2, u3, u4, rfl, x1, T1⟩ ⟨rfl, hx⟩
      obtain ⟨g, ga, gb⟩ := (hB x (List.mem_of_getElem? hx)).extN x1
      refine ⟨_, rfl, .w, x, g, rfl, ga, gb .w rfl, T1, fun J4 x4 T4 => ?_⟩
      exact ⟨true, rfl, iteF ⟨_, _, _, rfl, x1.trans x4, T4⟩⟩
    rintro st G2 ⟨u2, u3, u4, rfl, x1, T1⟩
    have g2 := f110.ext x1 T1
    clear hB e_M3 x1 T1
    refine ⟨_, rfl, _, _, rfl, rfl, ⟨by decide, by decide, by decide⟩, _, _, rfl, rfl, ⟨by decide, by decide, by decide⟩, by show 1 ≤ sizeLine; decide, fun v1 h_v1 => ?_⟩
    have s201 := same_new (o := (.lst [V.int 1])) (Same.refl G2) h_v1
    have e_v1 : (upd G2 v1 (.lst [V.int 1])) v1 = some (.lst [V.int 1]) := upd_same
    have n_v1 : v1 ≠ S := src_ne g2.src h_v1
    generalize upd G2 v1 (.lst [V.int 1]) = H201 at s201 e_v1 ⊢
    have f201 := g2.same s201
    have b201 : ButT S G2 H201 := (ButT.refl S G2).ext (.of s201)
    clear h_v1
    refine ⟨by show 0 ≤ sizeLine; decide, fun v2 h_v2 => ?_⟩
    have s202 := same_new (o := (.tup [])) (Same.refl H201) h_v2
    have e_v2 : (upd H201 v2 (.tup [])) v2 = some (.tup []) := upd_same
    have n_v2 : v2 ≠ S := src_ne f201.src h_v2
    generalize upd H201 v2 (.tup []) = H202 at s202 e_v2 ⊢
    have f202 := f201.same s202
    have b202 : ButT S H201 H202 := (ButT.refl S H201).ext (.of s202)
    clear h_v2
    intro v3 h_v3
    have s203 := same_new (o := .dK []) (Same.refl H202) h_v3
    have e_v3 : (upd H202 v3 (.dK [])) v3 = some (.dK []) := upd_same
    have n_v3 : v3 ≠ S := src_ne f202.src h_v3
    generalize upd H202 v3 (.dK []) = H203 at s203 e_v3 ⊢
    have f203 := f202.same s203
    have b203 : ButT S H202 H203 := (ButT.refl S H202).ext (.of s203)
    clear h_v3
    refine ⟨_, _, rfl, rfl, ⟨by decide, by decide, by decide⟩, _, rfl, by show 11 ≤ sizeLine; decide, fun M4 h_M4 => ?_⟩
    have s204 := same_new (o := (.lst [V.int (-1), V.int ((2 : Int) ^ (64 : Int).toNat), V.int ((10 : Int) ^ (30 : Int).toNat), V.non, V.bl true, V.bl false, V.str "1", V.ref v1, V.ref v2, V.ref v3, V.int (-((10 : Int) ^ (30 : Int).toNat))])) (Same.refl H203) h_M4
    have e_M4 : (upd H203 M4 (.lst [V.int (-1), V.int ((2 : Int) ^ (64 : Int).toNat), V.int ((10 : Int) ^ (30 : Int).toNat), V.non, V.bl true, V.bl false, V.str "1", V.ref v1, V.ref v2, V.ref v3, V.int (-((10 : Int) ^ (30 : Int).toNat))])) M4 = some (.lst [V.int (-1), V.int ((2 : Int) ^ (64 : Int).toNat), V.int ((10 : Int) ^ (30 : Int).toNat), V.non, V.bl true, V.bl false, V.str "1", V.ref v1, V.ref v2, V.ref v3, V.int (-((10 : Int) ^ (30 : Int).toNat))]) := upd_same
    have n_M4 : M4 ≠ S := src_ne f203.src h_M4
    generalize upd H203 M4 (.lst [V.int (-1), V.int ((2 : Int) ^ (64 : Int).toNat), V.int ((10 : Int) ^ (30 : Int).toNat), V.non, V.bl true, V.bl false, V.str "1", V.ref v1, V.ref v2, V.ref v3, V.int (-((10 : Int) ^ (30 : Int).toNat))]) = H204 at s204 e_M4 ⊢
    have f204 := f203.same s204
    have b204 : ButT S H203 H204 := (ButT.refl S H203).ext (.of s204)
    clear h_M4
    have B204 : ButT S H204 H204 := ButT.refl S H204
    have B203 : ButT S H203 H204 := b204.trans B204
    have B202 : ButT S H202 H204 := b203.trans B203
    have B201 : ButT S H201 H204 := b202.trans B202
    have x_v1 := B201 _ _ e_v1 n_v1 (fun ps z => nomatch z)
    have x_v2 := B202 _ _ e_v2 n_v2 (fun ps z => nomatch z)
    have x_v3 := B203 _ _ e_v3 n_v3 (fun ps z => nomatch z)
    have hB : ∀ x ∈ [V.int (-1), V.int ((2 : Int) ^ (64 : Int).toNat), V.int ((10 : Int) ^ (30 : Int).toNat), V.non, V.bl true, V.bl false, V.str "1", V.ref v1, V.ref v2, V.ref v3, V.int (-((10 : Int) ^ (30 : Int).toNat))], Bad K (fun y => y = .u) H204 x := by
      refine allC (bad_num (fun _ => by decide +kernel)) ?_
      refine allC (bad_num (fun _ => by decide +kernel)) ?_
      refine allC (bad_num (fun _ => by decide +kernel)) ?_
      refine allC (bad_oth (fun i z => nomatch z) (.base .non) (by simp)) ?_
      refine allC (bad_oth (fun i z => nomatch z) (.base (.bl _)) (by simp)) ?_
      refine allC (bad_oth (fun i z => nomatch z) (.base (.bl _)) (by simp)) ?_
      refine allC (bad_oth (fun i z => nomatch z) (.base (.str _)) (by simp)) ?_
      refine allC (bad_lst x_v1 (by show 1 ≤ 100000; decide) (allC it_int all0) (fun y hy => (by subst hy; rfl))) ?_
      refine allC (bad_tup x_v2 (by show 0 ≤ 100000; decide) all0 (fun y hy => (by subst hy; rfl))) ?_
      refine allC (bad_oth (fun i z => nomatch z) (.base (.dK x_v3)) (by simp)) ?_
      refine allC (bad_num (fun _ => by decide +kernel)) ?_
      exact all0
    clear x_v1 x_v2 x_v3 e_v1 e_v2 e_v3
    refine ⟨M4, rfl, ⟨_, .inl (.inl e_M4)⟩, for_it (walk_list (K := K) (a := M4) (xs := [V.int (-1), V.int ((2 : Int) ^ (64 : Int).toNat), V.int ((10 : Int) ^ (30 : Int).toNat), V.non, V.bl true, V.bl false, V.str "1", V.ref v1, V.ref v2, V.ref v3, V.int (-((10 : Int) ^ (30 : Int).toNat))])) (fun i st H1 => ∃ u2 u3 u4, st = [some (.ref S), some (.ref L1), u2, u3, u4] ∧ ExtN H204 H1 ∧ Tabs [(pT, madQ)] H1) ⟨_, _, _, rfl, ExtN.refl _, f204.tab⟩ (fun _ _ _ _ ⟨_, _, _, _, x, _⟩ => .inl (.inl (x _ _ e_M4 fun ps z => nomatch z))) ?_ ?_⟩
    · rintro i x st J1' J1 hi ⟨u2, u3, u4, rfl, x1, T1⟩ ⟨rfl, hx⟩
      obtain ⟨g, ga, gb⟩ := (hB x (List.mem_of_getElem? hx)).extN x1
      refine ⟨_, rfl, .u, x, g, rfl, ga, gb .u rfl, T1, fun J4 x4 T4 => ?_⟩
      exact ⟨true, rfl, iteF ⟨_, _, _, rfl, x1.trans x4, T4⟩⟩
    rintro st G3 ⟨u2, u3, u4, rfl, x1, T1⟩
    have g3 := f204.ext x1 T1
    clear hB e_M4 x1 T1
    refine ⟨by show 8 ≤ sizeLine; decide, fun M5 h_M5 => ?_⟩
    have s301 := same_new (o := (.lst [V.int 0, V.int 1, V.int 3, V.int 5, V.int 6, V.int 7, V.int 9, V.int 16])) (Same.refl G3) h_M5
    have e_M5 : (upd G3 M5 (.lst [V.int 0, V.int 1, V.int 3, V.int 5, V.int 6, V.int 7, V.int 9, V.int 16])) M5 = some (.lst [V.int 0, V.int 1, V.int 3, V.int 5, V.int 6, V.int 7, V.int 9, V.int 16]) := upd_same
    have n_M5 : M5 ≠ S := src_ne g3.src h_M5
    generalize upd G3 M5 (.lst [V.int 0, V.int 1, V.int 3, V.int 5, V.int 6, V.int 7, V.int 9, V.int 16]) = H301 at s301 e_M5 ⊢
    have f301 := g3.same s301
    have b301 : ButT S G3 H301 := (ButT.refl S G3).ext (.of s301)
    clear h_M5
    refine ⟨M5, rfl, ⟨_, .inl (.inl e_M5)⟩, for_it (walk_list (K := K) (a := M5) (xs := [V.int 0, V.int 1, V.int 3, V.int 5, V.int 6, V.int 7, V.int 9, V.int 16])) (fun i st H1 => ∃ u2 u3 u4, st = [some (.ref S), some (.ref L1), u2, u3, u4] ∧ ExtN H301 H1 ∧ Tabs [(pT, madQ)] H1) ⟨_, _, _, rfl, ExtN.refl _, f301.tab⟩ (fun _ _ _ _ ⟨_, _, _, _, x, _⟩ => .inl (.inl (x _ _ e_M5 fun ps z => nomatch z))) ?_ ?_⟩
    · rintro i x st J1' J1 hi ⟨u2, u3, u4, rfl, x1, T1⟩ ⟨rfl, hx⟩
      obtain ⟨m, rfl, h4, h8, h16⟩ : ∃ m : Nat, x = .int (m : Nat) ∧ m ≠ 4 ∧ m ≠ 8 ∧ m ≤ 16 := by
        have := List.mem_of_getElem? hx
        simp only [List.mem_cons, List.not_mem_nil, or_false] at this
        rcases this with rfl | rfl | rfl | rfl | rfl | rfl | rfl | rfl
        · exact ⟨0, rfl, by decide, by decide, by decide⟩
        · exact ⟨1, rfl, by decide, by decide, by decide⟩
        · exact ⟨3, rfl, by decide, by decide, by decide⟩
        · exact ⟨5, rfl, by decide, by decide, by decide⟩
        · exact ⟨6, rfl, by decide, by decide, by decide⟩
        · exact ⟨7, rfl, by decide, by decide, by decide⟩
        · exact ⟨9, rfl, by decide, by decide, by decide⟩
        · exact ⟨16, rfl, by decide, by decide, by decide⟩
      have tn : ((m : Nat) : Int).toNat = m := Int.toNat_natCast m
      have onerep : ∀ {H1 : Hp} {R : VK}, (∀ w2 H3, Same H1 H3 → H3 w2 = some (.lst (List.replicate m (V.int 1))) → R (.ref w2) H3) → ∀ w1, H1 w1 = none → rRep (.ref w1) (.int (m : Nat)) (upd H1 w1 (.lst [V.int 1])) R := fun {H1 R} h w1 hw1 => by
        refine ⟨w1, _, _, rfl, rfl, upd_same, by omega, by omega, ?_, fun w2 hw2 => ?_⟩
        · rw [tn]
          show 1 * m ≤ sizeLine
          exact Nat.le_trans (by omega : _ ≤ 16) (by decide)
        · rw [tn, flat1]
          exact h w2 _ ((same_new (Same.refl H1) hw1).trans (same_new (Same.refl _) hw2)) upd_same
      have hl : (List.replicate m (V.int 1)).length ≤ 100000 := by rw [List.length_replicate]; omega
      refine ⟨by show 1 ≤ sizeLine; decide, fun w1 hw1 => ⟨_, rfl, onerep (fun w2 J2 s2 e2 => ?_) w1 hw1⟩⟩
      have T2 := T1.ext s2
      refine ⟨.r, .ref w2, .row (List.replicate m (V.int 1)), rfl, ⟨w2, rfl, .inl (.inl (.inl e2)), hl, it_rep⟩, bad_rep h4 h8 .r (.inl rfl), T2, fun J3 x3 T3 => ⟨true, rfl, iteF ?_⟩⟩
      refine ⟨by show 1 ≤ sizeLine; decide, fun w3 hw3 => ⟨_, rfl, onerep (fun w4 J4 s4 e4 => ?_) w3 hw3⟩⟩
      have T4 := T3.ext s4
      refine ⟨w4, _, rfl, .inl ⟨.inl (.inl e4), fun w5 hw5 => ?_⟩⟩
      have s5 := same_new (o := .tup (List.replicate m (V.int 1))) (Same.refl J4) hw5
      have e5 : (upd J4 w5 (.tup (List.replicate m (V.int 1)))) w5 = some (.tup (List.replicate m (V.int 1))) := upd_same
      generalize upd J4 w5 (.tup (List.replicate m (V.int 1))) = J5 at s5 e5 ⊢
      have T5 := T4.ext s5
      refine ⟨.t, .ref w5, .row (List.replicate m (V.int 1)), rfl, ⟨w5, rfl, .inr (.inl (.inl e5)), hl, it_rep⟩, bad_rep h4 h8 .t (.inr rfl), T5, fun J6 x6 T6 => ⟨true, rfl, iteF ?_⟩⟩
      exact ⟨_, _, _, rfl, (x1.trans (.of s2)).trans (x3.trans ((ExtN.of (s4.trans s5)).trans x6)), T6⟩
    rintro st G4 ⟨u2, u3, u4, rfl, x1, T1⟩
    have g4 := f301.ext x1 T1
    clear e_M5 x1 T1
    refine ⟨by show 1 ≤ sizeLine; decide, fun z1 h_z1 => ?_⟩
    have s401 := same_new (o := (.lst [V.int 0])) (Same.refl G4) h_z1
    have e_z1 : (upd G4 z1 (.lst [V.int 0])) z1 = some (.lst [V.int 0]) := upd_same
    have n_z1 : z1 ≠ S := src_ne g4.src h_z1
    generalize upd G4 z1 (.lst [V.int 0]) = H401 at s401 e_z1 ⊢
    have f401 := g4.same s401
    have b401 : ButT S G4 H401 := (ButT.refl S G4).ext (.of s401)
    clear h_z1
    refine ⟨z1, 4, _, rfl, rfl, e_z1, by decide, by decide, by show 1 * 4 ≤ sizeLine; decide, fun z2 h_z2 => ?_⟩
    have s402 := same_new (o := (.lst (List.replicate (4 : Int).toNat [V.int 0]).flatten)) (Same.refl H401) h_z2
    have e_z2 : (upd H401 z2 (.lst (List.replicate (4 : Int).toNat [V.int 0]).flatten)) z2 = some (.lst (List.replicate (4 : Int).toNat [V.int 0]).flatten) := upd_same
    have n_z2 : z2 ≠ S := src_ne f401.src h_z2
    generalize upd H401 z2 (.lst (List.replicate (4 : Int).toNat [V.int 0]).flatten) = H402 at s402 e_z2 ⊢
    have f402 := f401.same s402
    have b402 : ButT S H401 H402 := (ButT.refl S H401).ext (.of s402)
    clear h_z2
    refine ⟨.t, .ref z2, .row _, rfl, ⟨z2, rfl, .inl (.inl (.inl e_z2)), by show 4 ≤ 100000; decide, (allC it_int (allC it_int (allC it_int (allC it_int all0))))⟩, rfl, f402.tab, fun G5 x5 T5 => ⟨true, rfl, iteT ?_⟩⟩
    have g5 := f402.ext x5 T5
    refine ⟨by show 2 ≤ sizeLine; decide, fun z3 h_z3 => ?_⟩
    have s501 := same_new (o := (.lst [V.int 0, V.int 256])) (Same.refl G5) h_z3
    have e_z3 : (upd G5 z3 (.lst [V.int 0, V.int 256])) z3 = some (.lst [V.int 0, V.int 256]) := upd_same
    have n_z3 : z3 ≠ S := src_ne g5.src h_z3
    generalize upd G5 z3 (.lst [V.int 0, V.int 256]) = H501 at s501 e_z3 ⊢
    have f501 := g5.same s501
    have b501 : ButT S G5 H501 := (ButT.refl S G5).ext (.of s501)
    clear h_z3
    refine ⟨.d, .ref z3, .row _, rfl, ⟨z3, rfl, .inl (.inl (.inl e_z3)), by show 2 ≤ 100000; decide, (allC it_int (allC it_int all0))⟩, rfl, f501.tab, fun G6 x6 T6 => ⟨true, rfl, iteT ?_⟩⟩
    have g6 := f501.ext x6 T6
    refine ⟨by show 4 ≤ sizeLine; decide, fun z4 h_z4 => ?_⟩
    have s601 := same_new (o := (.lst [V.int 0, V.int 0, V.int 0, V.int 256])) (Same.refl G6) h_z4
    have e_z4 : (upd G6 z4 (.lst [V.int 0, V.int 0, V.int 0, V.int 256])) z4 = some (.lst [V.int 0, V.int 0, V.int 0, V.int 256]) := upd_same
    have n_z4 : z4 ≠ S := src_ne g6.src h_z4
    generalize upd G6 z4 (.lst [V.int 0, V.int 0, V.int 0, V.int 256]) = H601 at s601 e_z4 ⊢
    have f601 := g6.same s601
    have b601 : ButT S G6 H601 := (ButT.refl S G6).ext (.of s601)
    clear h_z4
    refine ⟨.r, .ref z4, .row _, rfl, ⟨z4, rfl, .inl (.inl (.inl e_z4)), by show 4 ≤ 100000; decide, (allC it_int (allC it_int (allC it_int (allC it_int all0))))⟩, rfl, f601.tab, fun G7 x7 T7 => ?_⟩
    have g7 := f601.ext x7 T7
    exact k G7 g7.but g7.src g7.tab
end
end G58

set_option Elab.async false
set_option linter.all false
set_option pp.maxSteps 2500
set_option maxRecDepth 100000
set_option maxHeartbeats 4000000
/-! k01: texts of fields; what a list's change leaves. -/
namespace G58
open PySem PySem.Spec PyProof.Rows L2 LamX
theorem unts_of {y : Wy} {ns : List Int} (h : FV.ok y (.row ns)) : Unts ns := by
  have inj : ∀ {ms : List Int}, ns.map V.int = ms.map V.int → ns = ms := fun {ms} e => by
    have := congrArg (List.map fun v : V => match v with | .int n => n | _ => 0) e
    rw [List.map_map, List.map_map] at this
    have id1 : ∀ l : List Int, List.map ((fun v : V => match v with | .int n => n | _ => 0) ∘ V.int) l = l := fun l => by
      induction l with
      | nil => rfl
      | cons a r ih =>
        rw [List.map_cons, ih]
        rfl
    rw [id1, id1] at this
    exact this
  have key : ∀ {hi : Int}, hi ≤ 65535 → (ns.map V.int).all (isIn 0 hi) = true → Unts ns := fun {hi} hh e => by
    obtain ⟨ms, e1, e2⟩ := ints_of e
    have e3 := inj e1
    subst e3
    exact fun n hn => ⟨(e2 n hn).1, Int.le_trans (e2 n hn).2 hh⟩
  have g := h.1
  cases y with
  | w =>
    have g : ((ns.map V.int).all (isIn 0 65535) && !(ns.map V.int).all plainV) = true := g
    exact key (Int.le_refl _) (Bool.and_eq_true_iff.mp g).1
  | d => exact key (by decide) g
  | u => exact absurd g Bool.false_ne_true
  | r =>
    have g : ((ns.map V.int).all (isIn 0 255) && (decide ((ns.map V.int).length = 4) || decide ((ns.map V.int).length = 8))) = true := g
    exact key (by decide) (Bool.and_eq_true_iff.mp g).1
  | t =>
    have g : ((ns.map V.int).all (isIn 0 255) && decide ((ns.map V.int).length = 8)) = true := g
    exact key (by decide) (Bool.and_eq_true_iff.mp g).1
theorem log17 {n : Int} (h0 : 0 ≤ n) (h1 : n ≤ 65535) : n.natAbs.log2 < 17 := PySem.Flt.log2_lt_of (by decide) (by
  have e : (2 : Nat) ^ 17 = 131072 := by decide
  rw [e]
  omega)
theorem show_ints : ∀ {ns : List Int}, Unts ns → PyData.showableAll (ns.map .int) = true ∧ PyData.hasDictAll (ns.map .int) = false ∧ PyData.leavesShortAll 13 (ns.map .int) = true ∧ PyData.weightAll (ns.map .int) ≤ 18 * ns.length
  | [], _ => ⟨by rw [List.map_nil, PyData.showableAll], by rw [List.map_nil, PyData.hasDictAll], by rw [List.map_nil, PyData.leavesShortAll], by rw [List.map_nil, PyData.weightAll]; exact Nat.zero_le _⟩
  | n :: ns, h => by
    obtain ⟨h1, h2, h3, h4⟩ := show_ints (ns := ns) fun m hm => h m (List.mem_cons_of_mem _ hm)
    obtain ⟨n0, n1⟩ := h n List.mem_cons_self
    have lg := log17 n0 n1
    refine ⟨?_, ?_, ?_, ?_⟩
    · rw [List.map_cons, PyData.showableAll, PyData.showable, h1, decide_eq_true (by omega)]
      rfl
    · rw [List.map_cons, PyData.hasDictAll, PyData.hasDict, h2]
      rfl
    · rw [List.map_cons, PyData.leavesShortAll, PyData.leavesShort, h3, decide_eq_true (PyData.shown_int_le (by omega))]
      rfl
    · rw [List.map_cons, PyData.weightAll, List.length_cons]
      have : PyData.weight (.int n) ≤ 17 := by
        rw [PyData.weight]
        split <;> omega
      omega
theorem show_row {ns : List Int} (h : Unts ns) (l : ns.length ≤ 100) : PyData.showable (FV.row ns).dat = true ∧ PyData.hasDict (FV.row ns).dat = false ∧ PyData.depth (FV.row ns).dat ≤ 60 ∧ (PyData.shown (FV.row ns).dat).length ≤ sizeLine := by
  obtain ⟨h1, h2, h3, h4⟩ := show_ints h
  refine ⟨?_, ?_, Nat.le_trans (FV.dep _) (by decide), PyData.shown_fits (B := 13) (by decide) (by decide) ?_ ?_⟩
  · show PyData.showable (.tuple _) = true
    rw [PyData.showable]
    exact h1
  · show PyData.hasDict (.tuple _) = false
    rw [PyData.hasDict]
    exact h2
  · show PyData.leavesShort 13 (.tuple _) = true
    rw [PyData.leavesShort]
    exact h3
  · show PyData.weight (.tuple _) ≤ _
    rw [PyData.weight]
    have e : (2 : Nat) ^ 20 = 1048576 := by decide
    rw [e]
    omega
theorem log64 {n : Int} (h0 : 0 ≤ n) (h1 : n ≤ 18446744073709551615) : n.natAbs.log2 < 1920 := Nat.lt_trans (PySem.Flt.log2_lt_of (k := 65) (by decide) (by
  have e : (2 : Nat) ^ 65 = 36893488147419103232 := by decide
  rw [e]
  omega)) (by decide)
theorem num_of {y : Wy} {n : Int} (h : FV.ok y (.num n)) : 0 ≤ n ∧ n ≤ 18446744073709551615 := by
  have g := h.1
  cases y with
  | u =>
    have g : (decide (0 ≤ n) && decide (n ≤ 18446744073709551615)) = true := g
    rw [Bool.and_eq_true, decide_eq_true_eq, decide_eq_true_eq] at g
    exact g
  | _ => exact absurd g Bool.false_ne_true
section
variable {K : PySem.W.Frag} {a : Ad} {H H0 : Hp} {D S pT p t : Addr} {xs ys : List V} {o : HO} {y : Wy} {g : Arg} {v : V} {f : FV}
theorem sqT_upL (h : SqT K H t xs) (e : H D = some (.lst ys)) : SqT K (upd H D o) t xs := by
  rcases h with (h | ⟨ob, h⟩) | h
  · exact .inl (.inl (by rw [upd_ne (fun z => by rw [z, e] at h; cases h)]; exact h))
  · exact .inl (.inr ⟨ob, by rw [upd_ne (fun z => by rw [z, e] at h; cases h)]; exact h⟩)
  · exact .inr h
theorem fld_upL (h : FldAt K H v g) (e : H D = some (.lst ys)) : FldAt K (upd H D o) v g := by
  cases g with
  | num n => exact h
  | row xs =>
    obtain ⟨t, rfl, ht⟩ := h
    exact ⟨t, rfl, sqT_upL ht e⟩
  | oth => exact h
theorem th_upL (h : ThAt K a H p y g) (e : H D = some (.lst ys)) : ThAt K a (upd H D o) p y g := by
  obtain ⟨dx, v, h1, h2⟩ := h
  exact ⟨dx, v, by rw [upd_ne (fun z => by rw [z, e] at h1; cases h1)]; exact h1, fld_upL h2 e⟩
theorem st1_upL (h : St1 S pT H0 H) (e : H D = some (.lst ys)) (hD : H0 D = none) (n : D ≠ S) : St1 S pT H0 (upd H D o) := by
  obtain ⟨⟨x, y, z, h1⟩, h2, h3⟩ := h
  refine ⟨⟨x, y, z, by rw [upd_ne (Ne.symm n)]; exact h1⟩, tabs_upd h2 e, fun b o e n m => ?_⟩
  rw [upd_ne (ne_of_none e hD)]
  exact h3 _ _ e n m
theorem lst_upL (h : LstAt S H v f) (n : ∀ L, v = .ref L → L ≠ D) : LstAt S (upd H D o) v f := by
  cases f with
  | num n => exact h
  | row ns =>
    obtain ⟨L, rfl, nL, e⟩ := h
    exact ⟨L, rfl, nL, by rw [upd_ne (n L rfl)]; exact e⟩
theorem LstAt.butT {H1 : Hp} (h : LstAt S H v f) (b : ButT S H H1) : LstAt S H1 v f := by
  cases f with
  | num n => exact h
  | row ns =>
    obtain ⟨L, rfl, nL, e⟩ := h
    exact ⟨L, rfl, nL, b _ _ e nL fun ps z => nomatch z⟩
theorem sqT_bt {H1 : Hp} (h : SqT K H t xs) (hS : SrcAt H S) (b : ButT S H H1) : SqT K H1 t xs := by
  obtain ⟨x, y, z, hS⟩ := hS
  rcases h with (h | ⟨ob, h⟩) | h
  · exact .inl (.inl (b _ _ h (fun z => by rw [z, hS] at h; cases h) fun ps z => nomatch z))
  · exact .inl (.inr ⟨ob, b _ _ h (fun z => by rw [z, hS] at h; cases h) fun ps z => nomatch z⟩)
  · exact .inr h
theorem fld_bt {H1 : Hp} (h : FldAt K H v g) (hS : SrcAt H S) (b : ButT S H H1) : FldAt K H1 v g := by
  cases g with
  | num n => exact h
  | row xs =>
    obtain ⟨t, rfl, ht⟩ := h
    exact ⟨t, rfl, sqT_bt ht hS b⟩
  | oth => exact h
theorem th_bt {H1 : Hp} (h : ThAt K a H p y g) (hS : SrcAt H S) (b : ButT S H H1) : ThAt K a H1 p y g := by
  obtain ⟨dx, v, h1, h2⟩ := h
  obtain ⟨x, y', z, hS'⟩ := id hS
  exact ⟨dx, v, b _ _ h1 (fun z => by rw [z, hS'] at h1; cases h1) (fun ps z => nomatch z), fld_bt h2 hS b⟩
theorem lst_arg (h : LstAt S H v f) (k : FV.ok y f) : ArgAt K H v f.arg := by
  cases f with
  | num n => exact h
  | row ns =>
    obtain ⟨L, rfl, nL, e⟩ := h
    have l : ns.length ≤ 100 := k.2
    refine ⟨L, rfl, .inl (.inl (.inl e)), by rw [List.length_map]; omega, fun x hx => ?_⟩
    obtain ⟨m, _, rfl⟩ := List.mem_map.mp hx
    exact it_int
theorem bothB (y : Wy) (f g : FV) : (!decide (V.bl (decide (y = y ∧ f = g)) = V.bl (PyData.eqv f.dat g.dat))) = false := by
  rw [eqv_dat]
  simp
theorem neSame (f : FV) : (!PyData.eqv f.dat f.dat) = false := by
  rw [eqv_dat]
  simp
end
end G58

set_option Elab.async false
set_option linter.all false
set_option pp.maxSteps 2500
set_option maxRecDepth 100000
set_option maxHeartbeats 4000000
/-! k01: one thing of a class. -/
namespace G58
open PySem PySem.Spec PyProof.Rows L2 LamX
theorem passX0 {X : Cx} : Passes (L2.CX X.prog X.w) X E0 := fun _ _ _ _ _ _ _ ⟨_, _, _, _, _, _, _, _, _, _, _, _, h⟩ => h.elim
/-- another operand: neither a thing nor of unknown kind -/
inductive Opd (K : PySem.W.Frag) (H : Hp) : V → String → Prop
  | non : Opd K H .non "NoneType"
  | int (i : Int) : Opd K H (.int i) "int"
  | str (z : Str) : Opd K H (.str z) "str"
  | lst {a : Addr} {xs : List V} : SqL K H a xs → Opd K H (.ref a) "list"
  | tup {a : Addr} {xs : List V} : SqT K H a xs → Opd K H (.ref a) "tuple"
section
variable {P : Program} {w : World} {K : PySem.W.Frag} {mg : Str → Option Value} {base : Heap} {a : Ad}
theorem eqsA (T : Txt K mg a) (y : Wy) : PySem.W.findIn K (.ref (y.cls a)) "__eq__" = some (some (.ref a.fEq)) := by
  cases y
  · exact T.eqWide
  · exact T.eqData
  · exact T.eqUid
  · exact T.eqReal
  · exact T.eqDate
theorem nesA (T : Txt K mg a) (y : Wy) : PySem.W.findIn K (.ref (y.cls a)) "__ne__" = some (some (.builtin "object.__ne__")) := by
  cases y
  · exact T.neWide
  · exact T.neData
  · exact T.neUid
  · exact T.neReal
  · exact T.neDate
theorem hmsA (T : Txt K mg a) (y : Wy) : PySem.W.mroIn K (y.cls a) (.type "object") = some true := by
  cases y
  · exact T.hmWide
  · exact T.hmData
  · exact T.hmUid
  · exact T.hmReal
  · exact T.hmDate
theorem nfT (T : Txt K mg a) (y z : Wy) : PySem.W.notFirst K (y.cls a) (.ref (z.cls a)) = true := by
  cases y <;> cases z
  · exact T.nfWide_Wide
  · exact T.nfWide_Data
  · exact T.nfWide_Uid
  · exact T.nfWide_Real
  · exact T.nfWide_Date
  · exact T.nfData_Wide
  · exact T.nfData_Data
  · exact T.nfData_Uid
  · exact T.nfData_Real
  · exact T.nfData_Date
  · exact T.nfUid_Wide
  · exact T.nfUid_Data
  · exact T.nfUid_Uid
  · exact T.nfUid_Real
  · exact T.nfUid_Date
  · exact T.nfReal_Wide
  · exact T.nfReal_Data
  · exact T.nfReal_Uid
  · exact T.nfReal_Real
  · exact T.nfReal_Date
  · exact T.nfDate_Wide
  · exact T.nfDate_Data
  · exact T.nfDate_Uid
  · exact T.nfDate_Real
  · exact T.nfDate_Date
theorem nfO (T : Txt K mg a) (y : Wy) {H : Hp} {o : V} {n : String} (h : Opd K H o n) : PySem.W.notFirst K (y.cls a) (.type n) = true := by
  cases h <;> cases y
  · exact T.nfWide_NoneType
  · exact T.nfData_NoneType
  · exact T.nfUid_NoneType
  · exact T.nfReal_NoneType
  · exact T.nfDate_NoneType
  · exact T.nfWide_int
  · exact T.nfData_int
  · exact T.nfUid_int
  · exact T.nfReal_int
  · exact T.nfDate_int
  · exact T.nfWide_str
  · exact T.nfData_str
  · exact T.nfUid_str
  · exact T.nfReal_str
  · exact T.nfDate_str
  · exact T.nfWide_list
  · exact T.nfData_list
  · exact T.nfUid_list
  · exact T.nfReal_list
  · exact T.nfDate_list
  · exact T.nfWide_tuple
  · exact T.nfData_tuple
  · exact T.nfUid_tuple
  · exact T.nfReal_tuple
  · exact T.nfDate_tuple
theorem opd_ty {H : Hp} {o : V} {n : String} (h : Opd K H o n) : G58.TyOf K H o (.type n) := by
  cases h with
  | non => exact .non
  | int i => exact .int i
  | str z => exact .str z
  | lst h => exact .lst h
  | tup h => exact .tup h
theorem opd_oth {H : Hp} {o : V} {n : String} (h : Opd K H o n) : OthAt K a H o := by
  cases h with
  | non => exact ⟨_, .base .non, by simp⟩
  | int i => exact ⟨_, .base (.int i), by simp⟩
  | str z => exact ⟨_, .base (.str z), by simp⟩
  | lst h => exact ⟨_, sqL_ty h, by simp⟩
  | tup h => exact ⟨_, sqT_ty h, by simp⟩
theorem eq_tt (T : Txt K mg a) {H : Hp} {p q : Addr} {y z : Wy} {f g : FV} {Q : VK} {E : XK} (hp : ThAt K a H p y f.arg) (hq : ThAt K a H q z g.arg) (k : ∀ H', Same H H' → Q (.bl (decide (y = z ∧ f = g))) H') : rEqF K (fun y : Wy => y.cls a) (spEq K a) E (.ref p) (.ref q) H Q := by
  obtain ⟨dx, v, h1, h2⟩ := hp
  obtain ⟨dx', v', h1', h2'⟩ := hq
  exact ⟨y, p, dx, _, _, rfl, h1, .ins h1', nfT T y z, p, y, f, _, rfl, ⟨dx, v, h1, h2⟩, .inr ⟨q, z, g, rfl, ⟨dx', v', h1', h2'⟩, fun H' s => ⟨_, rfl, k H' s⟩⟩⟩
theorem ne_tt (T : Txt K mg a) {H : Hp} {p q : Addr} {y z : Wy} {f g : FV} {Q : VK} {E : XK} (hp : ThAt K a H p y f.arg) (hq : ThAt K a H q z g.arg) (k : ∀ H', Same H H' → Q (.bl (!decide (y = z ∧ f = g))) H') : rNeF K (fun y : Wy => y.cls a) (spEq K a) E (.ref p) (.ref q) H Q := by
  obtain ⟨dx, v, h1, h2⟩ := hp
  obtain ⟨dx', v', h1', h2'⟩ := hq
  exact ⟨y, p, dx, _, _, rfl, h1, .ins h1', nfT T y z, p, y, f, _, rfl, ⟨dx, v, h1, h2⟩, .inr ⟨q, z, g, rfl, ⟨dx', v', h1', h2'⟩, fun H' s => ⟨_, rfl, k H' s⟩⟩⟩
theorem eq_to (T : Txt K mg a) {H : Hp} {p : Addr} {y : Wy} {f : FV} {o : V} {n : String} {Q : VK} {E : XK} (hp : ThAt K a H p y f.arg) (ho : Opd K H o n) (k : Q (.bl false) H) : rEqF K (fun y : Wy => y.cls a) (spEq K a) E (.ref p) o H Q := by
  obtain ⟨dx, v, h1, h2⟩ := hp
  exact ⟨y, p, dx, _, _, rfl, h1, opd_ty ho, nfO T y ho, p, y, f, _, rfl, ⟨dx, v, h1, h2⟩, .inl ⟨opd_oth ho, _, rfl, k⟩⟩
theorem ne_to (T : Txt K mg a) {H : Hp} {p : Addr} {y : Wy} {f : FV} {o : V} {n : String} {Q : VK} {E : XK} (hp : ThAt K a H p y f.arg) (ho : Opd K H o n) (k : Q (.bl true) H) : rNeF K (fun y : Wy => y.cls a) (spEq K a) E (.ref p) o H Q := by
  obtain ⟨dx, v, h1, h2⟩ := hp
  exact ⟨y, p, dx, _, _, rfl, h1, opd_ty ho, nfO T y ho, p, y, f, _, rfl, ⟨dx, v, h1, h2⟩, .inl ⟨opd_oth ho, _, rfl, k⟩⟩
def spOne (pT : Addr) (y : Wy) : Sp := fun vs H Q _ => ∃ (S : Addr), vs = [.ref S, .int (y.num : Nat)] ∧ St1 S pT H H ∧ ∀ H', St1 S pT H H' → Q (.bl true) H'
theorem scOne : FnScope ["_law_source_here", "_law_way", "_law_some", "_law_due", "_law_handed", "_law_thing", "_law_twin", "_law_other", "_law_one"] ["_law_source_here", "_law_way"] (defScope sOne) := ⟨rfl, rfl, rfl, by decide +kernel, rfl, by decide +kernel, by decide +kernel⟩
theorem ok_one (D : Df K a) (T : Txt K mg a) {c pT : Addr} (FC : FunC K "_law_made" "_law_made" sMad a.fMad D.dMad c) (TB : TabB base mg c pT) (y : Wy) : FnG P w K mg base CX0 8 a.fOne D.dOne ["_law_source_here", "_law_way"] (spOne pT y) := by
  have GDrn : FnOk P w K mg base CX0 4 a.fDrn D.dDrn ["_law_source_here", "_law_way"] (spDrn y) := ok_drn D T y
  have GMad : FnOk P w K mg base (L2.CX P w) 7 a.fMad D.dMad ["_law_way", "_law_some", "_law_is_named"] (spMad K a pT) := ok_mad D T FC TB
  have GFld : FnOk P w K mg base CX0 1 a.fFld D.dFld ["_law_way", "_law_thing"] (spFld a y) := ok_fld D T y
  have GEq : FnOk P w K mg base CX0 2 a.fEq D.dEq ["self", "other"] (spEq K a) := ok_eq D T
  refine okG D.FOne scOne (fun vs H Q E h => ?_) (fun cdv A outer s H vs Q E hgu hr h => ?_)
  · obtain ⟨S, rfl, _⟩ := h
    rfl
  · obtain ⟨S, rfl, f0, k⟩ := h
    have hr1 : Room 1 _ := hr.mono (by decide)
    have hr2 : Room 2 _ := hr.mono (by decide)
    have hr3 : Room 3 _ := hr.mono (by decide)
    have hr4 : Room 4 _ := hr.mono (by decide)
    refine ⟨_, (pss_cons (ps_set (i := 2) scOne.nd rfl (.inl rfl) (pe_call GDrn hr4 rfl T.gDrn D.FDrn.kp D.bDrn .nil pass0 (pa_cons (pv 0) (pa_cons (pv 1) pa_nil)))) (pss_cons (ps_set (i := 3) scOne.nd rfl (.inl rfl) (pe_ifExp (pt_val (pe_callB call_isi (by rfl) T.bisinstance (by decide +kernel) (pa_cons (pv 2) (pa_cons (pe_bltn (v := .ty "list") rfl T.blist (by decide +kernel) rfl) pa_nil)))) (pe_callTy call_tupB (by rfl) T.btuple (by decide +kernel) (pa_cons (pv 2) pa_nil)) (pv 2))) (pss_cons (ps_set (i := 4) scOne.nd rfl (.inl rfl) (pe_ifExp (pt_val (pe_callB call_isi (by rfl) T.bisinstance (by decide +kernel) (pa_cons (pv 2) (pa_cons (pe_bltn (v := .ty "list") rfl T.blist (by decide +kernel) rfl) pa_nil)))) (pe_callTy call_list_of (by rfl) T.blist (by decide +kernel) (pa_cons (pv 2) pa_nil)) (pv 2))) (pss_cons (ps_asg (pe_tup (pa_cons (pe_call GMad hr rfl T.gMad D.FMad.kp D.bMad .nil passX0 (pa_cons (pv 1) (pa_cons (pv 4) (pa_cons pe_bl pa_nil)))) (pa_cons (pe_call GMad hr rfl T.gMad D.FMad.kp D.bMad .nil passX0 (pa_cons (pv 1) (pa_cons (pv 3) (pa_cons pe_bl pa_nil)))) pa_nil))) (pg_tup rfl (pgs_cons (pg_name (i := 5) scOne.nd rfl (.inr rfl)) (pgs_cons (pg_name (i := 6) scOne.nd rfl (.inl rfl)) pgs_nil)))) (pss_cons (ps_if (pt_val (pe_callB call_isi (by rfl) T.bisinstance (by decide +kernel) (pa_cons (pv 4) (pa_cons (pe_bltn (v := .ty "list") rfl T.blist (by decide +kernel) rfl) pa_nil)))) (pss_cons (ps_expr (pe_bm PySem.F.plainAttrs_list PySem.F.slot_list_append PySem.F.type_list_append mt_append (pv 4) (pa_cons pe_int pa_nil))) (pss_one (ps_expr (pe_bm PySem.F.plainAttrs_list PySem.F.slot_list_insert PySem.F.type_list_insert mt_insert (pv 4) (pa_cons pe_int (pa_cons pe_int pa_nil)))))) pss_nil) (pss_cons (ps_if (PW.pt (pw_or (pt_cmpR (op_neD hr.units) (pe_call GFld hr1 rfl T.gFld D.FFld.kp D.bFld .nil pass0 (pa_cons (pv 1) (pa_cons (pv 5) pa_nil))) (pv 3) (nomark _)) (pw_or (pt_cmpR (op_neD hr.units) (pe_call GFld hr1 rfl T.gFld D.FFld.kp D.bFld .nil pass0 (pa_cons (pv 1) (pa_cons (pv 6) pa_nil))) (pv 3) (nomark _)) (pw_or1 (pt_cmpR op_ne (pe_callB (CallR.or (call_reprD hgu hr.units) SkE.call_repr_int) (by rfl) T.brepr (by decide +kernel) (pa_cons (pe_call GFld hr1 rfl T.gFld D.FFld.kp D.bFld .nil pass0 (pa_cons (pv 1) (pa_cons (pv 5) pa_nil))) pa_nil)) (pe_callB (CallR.or (call_reprD hgu hr.units) SkE.call_repr_int) (by rfl) T.brepr (by decide +kernel) (pa_cons (pv 3) pa_nil)) (nomark _)))))) (pss_one (ps_ret pe_bl)) pss_nil) (pss_cons (ps_if (PW.pt (pw_or (pt_not (pt_cmpR (op_eqF GEq (eqsA T) T.fnEq D.bEq pass0 hr2) (pv 5) (pv 6) (nomark _))) (pw_or (pt_cmpR (op_neF GEq (hmsA T) (nesA T) (eqsA T) T.fnEq D.bEq pass0 hr3) (pv 5) (pv 6) (nomark _)) (pw_or1 (pt_not (pt_cmpR (op_eqF GEq (eqsA T) T.fnEq D.bEq pass0 hr2) (pv 6) (pv 5) (nomark _))))))) (pss_one (ps_ret pe_bl)) pss_nil) (pss_cons (ps_set (i := 7) scOne.nd rfl (.inl rfl) (pe_call GDrn hr4 rfl T.gDrn D.FDrn.kp D.bDrn .nil pass0 (pa_cons (pv 0) (pa_cons (pv 1) pa_nil)))) (pss_cons (ps_if (pt_cmpR op_ne (pe_cmpR (op_eqF GEq (eqsA T) T.fnEq D.bEq pass0 hr2) (pv 5) (pe_call GMad hr rfl T.gMad D.FMad.kp D.bMad .nil passX0 (pa_cons (pv 1) (pa_cons (pv 7) (pa_cons pe_bl pa_nil)))) (nomark _)) (pe_cmpR (op_eqD hr.units) (pv 3) (pe_ifExp (pt_val (pe_callB call_isi (by rfl) T.bisinstance (by decide +kernel) (pa_cons (pv 7) (pa_cons (pe_bltn (v := .ty "list") rfl T.blist (by decide +kernel) rfl) pa_nil)))) (pe_callTy call_tupB (by rfl) T.btuple (by decide +kernel) (pa_cons (pv 7) pa_nil)) (pv 7)) (nomark _)) (nomark _)) (pss_one (ps_ret pe_bl)) pss_nil) (pss_one (ps_ret (pe_cmpR (op_eqD hr.units) (pe_lc (tt := tOr (tTest (tOp (rEqF K (fun y : Wy => y.cls a) (spEq K a) E0) (tVar 5) (tVar 8))) (tNot (tTest (tOp (rNeF K (fun y : Wy => y.cls a) (spEq K a) E0) (tVar 5) (tVar 8))))) (own := [("_law_one", 8)]) (g := (gName 8)) rfl scOne.nd (pi_tup (pe_tup (pa_cons (pv 3) (pa_cons (pv 2) (pa_cons pe_non (pa_cons (pe_callB (CallR.or (call_reprD hgu hr.units) SkE.call_repr_int) (by rfl) T.brepr (by decide +kernel) (pa_cons (pv 3) pa_nil)) (pa_cons (pv 1) pa_nil))))))) (blkOk_by (N := ["_law_source_here", "_law_way", "_law_some", "_law_due", "_law_handed", "_law_thing", "_law_twin", "_law_other", "_law_one"]) (sc := defScope sOne) (by decide +kernel)) (fun _ _ _ _ _ => (pg_name (i := 8) scOne.nd rfl (.inl rfl))) (fun _ _ _ _ _ => pts_one (PW.pt (pw_or (pt_cmpR (op_eqF GEq (eqsA T) T.fnEq D.bEq pass0 hr2) (pv 5) (pv 8) (nomark _)) (pw_or1 (pt_not (pt_cmpR (op_neF GEq (hmsA T) (nesA T) (eqsA T) T.fnEq D.bEq pass0 hr3) (pv 5) (pv 8) (nomark _))))))) (fun _ _ _ _ _ => pe_int)) (pe_lst pa_nil) (nomark _))))))))))))), ?_⟩
    refine ⟨_, rfl, _, rfl, S, rfl, f0.src, fun f v H1 fok hv hS1 b1 => ?_⟩
    have f1 := f0.but' b1 hS1
    have ng : ∀ {A : Prop}, f.arg.good y = false → A := fun e => by rw [fok.1] at e; cases e
    cases f with
    | num n =>
      cases (show v = .int n from hv)
      have opV : ∀ H, Opd K H (.int n) "int" := fun H => .int n
      have bnd := num_of fok
      refine ⟨_, rfl, .int n, .ty "list", _, _, false, rfl, .ty _, .base (.int n), kit_ty (by decide +kernel), false, rfl, iteF ?_⟩
      refine ⟨_, rfl, ?_⟩
      refine ⟨_, rfl, .int n, .ty "list", _, _, false, rfl, .ty _, .base (.int n), kit_ty (by decide +kernel), false, rfl, iteF ?_⟩
      refine ⟨_, rfl, ?_⟩
      refine ⟨_, rfl, _, rfl, y, .int n, false, (FV.num n).arg, rfl, rfl, f1.tab, fun _ p H4 x4 T4 hp => ?_, ng⟩
      have f4 := f1.ext x4 T4
      refine ⟨_, rfl, _, rfl, y, .int n, true, (FV.num n).arg, rfl, rfl, f4.tab, fun _ q H5 x5 T5 hq => ?_, ng⟩
      have f5 := f4.ext x5 T5
      have hp := hp.extN x5
      have hD : FldAt K H5 (.int n) (FV.num n).arg := rfl
      have hL : LstAt S H5 (.int n) (.num n) := rfl
      refine ⟨by show 2 ≤ sizeLine; decide, fun tq htq => ?_⟩
      have s6 := same_new (o := .tup [V.ref p, V.ref q]) (Same.refl H5) htq
      have etq : (upd H5 tq (.tup [V.ref p, V.ref q])) tq = some (.tup [V.ref p, V.ref q]) := upd_same
      generalize upd H5 tq (.tup [V.ref p, V.ref q]) = H6 at s6 etq ⊢
      have f6 := f5.same s6
      have hp := hp.extN (.of s6)
      have hq := hq.extN (.of s6)
      have hD := hD.extN (.of s6)
      have hL := hL.butT ((ButT.refl S H5).ext (.of s6))
      refine ⟨tq, _, rfl, .inl (.inl etq), rfl, _, _, rfl, _, _, rfl, rfl, ?_⟩
      refine ⟨_, rfl, .int n, .ty "list", _, _, false, rfl, .ty _, .base (.int n), kit_ty (by decide +kernel), false, rfl, iteF ?_⟩
      obtain ⟨dxp, vp, ep, fp⟩ := id hp
      obtain ⟨dxq, vq, eq, fq⟩ := id hq
      refine ⟨_, rfl, _, rfl, p, dxp, vp, rfl, ep, _, rfl, _, _, FV.dp (f := FV.num n) fp, FV.dp (f := FV.num n) hD, FV.shp _, FV.shp _, false, congrArg V.bl (neSame _), iteF ?_⟩
      refine ⟨_, rfl, _, rfl, q, dxq, vq, rfl, eq, _, rfl, _, _, FV.dp (f := FV.num n) fq, FV.dp (f := FV.num n) hD, FV.shp _, FV.shp _, false, congrArg V.bl (neSame _), iteF ?_⟩
      refine ⟨_, rfl, _, rfl, p, dxp, vp, rfl, ep, ?_⟩
      cases (show vp = .int n from fp)
      refine .inr ⟨n, rfl, log64 bnd.1 bnd.2, _, rfl, .inr ⟨n, rfl, log64 bnd.1 bnd.2, rfl, false, congrArg V.bl (by simp), iteF ?_⟩⟩
      clear ep eq fp fq
      refine ⟨_, rfl, _, rfl, eq_tt T hp hq fun K1 t1 => ⟨true, congrArg V.bl (by simp), iteF ?_⟩⟩
      have hp := hp.extN (.of t1)
      have hq := hq.extN (.of t1)
      refine ⟨_, rfl, _, rfl, ne_tt T hp hq fun K2 t2 => ⟨false, congrArg V.bl (by simp), iteF ?_⟩⟩
      have hp := hp.extN (.of t2)
      have hq := hq.extN (.of t2)
      refine ⟨_, rfl, _, rfl, eq_tt T hq hp fun K3 t3 => ⟨true, congrArg V.bl (by simp), iteF ?_⟩⟩
      have hp := hp.extN (.of t3)
      have t13 := (t1.trans t2).trans t3
      have hD := hD.extN (.of t13)
      have hL := hL.butT ((ButT.refl S H6).ext (.of t13))
      have f9 := f6.same t13
      refine ⟨_, rfl, _, rfl, S, rfl, f9.src, fun g vO H11 gok hO hS11 b11 => ?_⟩
      have f11 := f9.but' b11 hS11
      have bt : ButT S K3 H11 := fun b o e n _ => b11 b o e n
      have hp := th_bt hp f9.src bt
      have hD := fld_bt hD f9.src bt
      have hL := hL.butT bt
      refine ⟨_, rfl, _, rfl, _, rfl, y, vO, false, g.arg, rfl, lst_arg hO gok, f11.tab, fun _ r H12 x12 T12 hr => ?_, fun e => by rw [gok.1] at e; cases e⟩
      have f12 := f11.ext x12 T12
      have hp := hp.extN x12
      have hD := hD.extN x12
      have hL := hL.butT ((ButT.refl S H11).ext x12)
      have hO := hO.butT ((ButT.refl S H11).ext x12)
      refine eq_tt T hp hr fun H13 s13 => ?_
      have f13 := f12.same s13
      have hp := hp.extN (.of s13)
      have hD := hD.extN (.of s13)
      have hL := hL.butT ((ButT.refl S H12).ext (.of s13))
      have hO := hO.butT ((ButT.refl S H12).ext (.of s13))
      cases g with
      | num m =>
        cases (show vO = .int m from hO)
        refine ⟨_, rfl, _, rfl, .int m, .ty "list", _, _, false, rfl, .ty _, .base (.int m), kit_ty (by decide +kernel), false, rfl, iteF ?_⟩
        refine ⟨_, rfl, _, _, FV.dp (f := FV.num n) hD, FV.dp (f := FV.num m) rfl, FV.shp _, FV.shp _, rfl, false, congrArg V.bl (bothB _ _ _), iteF ?_⟩
        refine ⟨_, rfl, _, rfl, _, rfl, .inr ⟨n, rfl, log64 bnd.1 bnd.2, _, rfl, by show 5 ≤ sizeLine; decide, fun q5 h5 => ?_⟩⟩
        have s15 := same_new (o := .tup [V.int n, V.int n, V.non, V.str (toString n), V.int (y.num : Nat)]) (Same.refl H13) h5
        have e5 : (upd H13 q5 (.tup [V.int n, V.int n, V.non, V.str (toString n), V.int (y.num : Nat)])) q5 = some (.tup [V.int n, V.int n, V.non, V.str (toString n), V.int (y.num : Nat)]) := upd_same
        generalize upd H13 q5 (.tup [V.int n, V.int n, V.non, V.str (toString n), V.int (y.num : Nat)]) = H15 at s15 e5 ⊢
        have f15 := f13.same s15
        have hp := hp.extN (.of s15)
        have hD := hD.extN (.of s15)
        have hL := hL.butT ((ButT.refl S H13).ext (.of s15))
        refine ⟨q5, rfl, ⟨_, .inl (.inl e5)⟩, fun DL hDL => lc_it (walk_tup (K := K) (a := q5) (xs := [V.int n, V.int n, V.non, V.str (toString n), V.int (y.num : Nat)])) (fun i H' => H' DL = some (.lst []) ∧ Same H15 H') ⟨upd_same, same_new (Same.refl H15) hDL⟩ (fun _ _ _ z => .inl (.inl (z.2 _ _ e5))) ?_ ?_⟩
        · rintro i x J1' J1 hi ⟨eDL, sJ⟩ ⟨rfl, hx⟩
          have hpJ := hp.extN (.of sJ)
          obtain ⟨nm, ox⟩ : ∃ nm, Opd K J1 x nm := by
            have := List.mem_of_getElem? hx
            simp only [List.mem_cons, List.not_mem_nil, or_false] at this
            rcases this with rfl | rfl | rfl | rfl | rfl
            · exact ⟨_, .int n⟩
            · exact ⟨_, .int n⟩
            · exact ⟨_, .non⟩
            · exact ⟨_, .str _⟩
            · exact ⟨_, .int _⟩
          refine ⟨rfl, ?_⟩
          refine ⟨_, rfl, _, rfl, eq_to T hpJ ox ⟨false, rfl, iteF ?_⟩⟩
          refine ⟨_, rfl, _, rfl, ne_to T hpJ ox ⟨true, rfl, iteF ?_⟩⟩
          exact ⟨eDL, sJ⟩
        · rintro J1 ⟨eDL, sJ⟩
          refine ⟨by show 0 ≤ sizeLine; decide, fun qe hqe => ⟨_, _, .lst (.inl (.inl (same_new (Same.refl J1) hqe _ _ eDL))) .nil, .lst (.inl (.inl upd_same)) .nil, rfl, rfl, ?_⟩⟩
          exact k _ (f15.same (sJ.trans (same_new (Same.refl J1) hqe)))
      | row ms =>
        obtain ⟨LO, rfl, nLO, eLO⟩ := hO
        refine ⟨_, rfl, _, rfl, .ref LO, .ty "list", _, _, true, rfl, .ty _, .base (.lst eLO), kit_ty (by decide +kernel), true, rfl, iteT ?_⟩
        refine ⟨_, rfl, LO, _, rfl, .inl (.inl (.inl eLO)), fun tO H14 s14 eO => ?_⟩
        have f14 := f13.same s14
        have hp := hp.extN (.of s14)
        have hD := hD.extN (.of s14)
        have hL := hL.butT ((ButT.refl S H13).ext (.of s14))
        refine ⟨_, _, FV.dp (f := FV.num n) hD, FV.dp (f := FV.row ms) ⟨tO, rfl, eO⟩, FV.shp _, FV.shp _, rfl, false, congrArg V.bl (bothB _ _ _), iteF ?_⟩
        refine ⟨_, rfl, _, rfl, _, rfl, .inr ⟨n, rfl, log64 bnd.1 bnd.2, _, rfl, by show 5 ≤ sizeLine; decide, fun q5 h5 => ?_⟩⟩
        have s15 := same_new (o := .tup [V.int n, V.int n, V.non, V.str (toString n), V.int (y.num : Nat)]) (Same.refl H14) h5
        have e5 : (upd H14 q5 (.tup [V.int n, V.int n, V.non, V.str (toString n), V.int (y.num : Nat)])) q5 = some (.tup [V.int n, V.int n, V.non, V.str (toString n), V.int (y.num : Nat)]) := upd_same
        generalize upd H14 q5 (.tup [V.int n, V.int n, V.non, V.str (toString n), V.int (y.num : Nat)]) = H15 at s15 e5 ⊢
        have f15 := f14.same s15
        have hp := hp.extN (.of s15)
        have hD := hD.extN (.of s15)
        have hL := hL.butT ((ButT.refl S H14).ext (.of s15))
        refine ⟨q5, rfl, ⟨_, .inl (.inl e5)⟩, fun DL hDL => lc_it (walk_tup (K := K) (a := q5) (xs := [V.int n, V.int n, V.non, V.str (toString n), V.int (y.num : Nat)])) (fun i H' => H' DL = some (.lst []) ∧ Same H15 H') ⟨upd_same, same_new (Same.refl H15) hDL⟩ (fun _ _ _ z => .inl (.inl (z.2 _ _ e5))) ?_ ?_⟩
        · rintro i x J1' J1 hi ⟨eDL, sJ⟩ ⟨rfl, hx⟩
          have hpJ := hp.extN (.of sJ)
          obtain ⟨nm, ox⟩ : ∃ nm, Opd K J1 x nm := by
            have := List.mem_of_getElem? hx
            simp only [List.mem_cons, List.not_mem_nil, or_false] at this
            rcases this with rfl | rfl | rfl | rfl | rfl
            · exact ⟨_, .int n⟩
            · exact ⟨_, .int n⟩
            · exact ⟨_, .non⟩
            · exact ⟨_, .str _⟩
            · exact ⟨_, .int _⟩
          refine ⟨rfl, ?_⟩
          refine ⟨_, rfl, _, rfl, eq_to T hpJ ox ⟨false, rfl, iteF ?_⟩⟩
          refine ⟨_, rfl, _, rfl, ne_to T hpJ ox ⟨true, rfl, iteF ?_⟩⟩
          exact ⟨eDL, sJ⟩
        · rintro J1 ⟨eDL, sJ⟩
          refine ⟨by show 0 ≤ sizeLine; decide, fun qe hqe => ⟨_, _, .lst (.inl (.inl (same_new (Same.refl J1) hqe _ _ eDL))) .nil, .lst (.inl (.inl upd_same)) .nil, rfl, rfl, ?_⟩⟩
          exact k _ (f15.same (sJ.trans (same_new (Same.refl J1) hqe)))
    | row ns =>
      obtain ⟨L, rfl, nL, eL⟩ := hv
      have l100 : ns.length ≤ 100 := fok.2
      have itn : ∀ H, ∀ x ∈ ns.map V.int, ItOk K H x := fun H x hx => by
        obtain ⟨m, _, rfl⟩ := List.mem_map.mp hx
        exact it_int
      have ln : (ns.map V.int).length ≤ 100000 := by rw [List.length_map]; omega
      refine ⟨_, rfl, .ref L, .ty "list", _, _, true, rfl, .ty _, .base (.lst eL), kit_ty (by decide +kernel), true, rfl, iteT ?_⟩
      refine ⟨_, rfl, L, _, rfl, .inl (.inl (.inl eL)), fun tD H2 s2 eD => ?_⟩
      have eL2 := s2 _ _ eL
      have f2 := f1.same s2
      refine ⟨_, rfl, .ref L, .ty "list", _, _, true, rfl, .ty _, .base (.lst eL2), kit_ty (by decide +kernel), true, rfl, iteT ?_⟩
      refine ⟨_, rfl, L, _, rfl, .inl (.inl (.inl eL2)), fun LH hLH => ?_⟩
      have nLH : LH ≠ S := src_ne f2.src hLH
      have nLL : L ≠ LH := ne_of_none eL2 hLH
      have hLH0 : H LH = none := by
        cases z : H LH with
        | none => rfl
        | some o =>
          have := s2 _ _ (b1 _ _ z nLH)
          rw [hLH] at this
          cases this
      have s3 := same_new (o := .lst (ns.map V.int)) (Same.refl H2) hLH
      have eLH : (upd H2 LH (.lst (ns.map V.int))) LH = some (.lst (ns.map V.int)) := upd_same
      generalize upd H2 LH (.lst (ns.map V.int)) = H3 at s3 eLH ⊢
      have f3 := f2.same s3
      have eL3 := s3 _ _ eL2
      have eD3 := Same.tup s3 eD
      refine ⟨_, rfl, _, rfl, y, .ref LH, false, (FV.row ns).arg, rfl, ⟨LH, rfl, .inl (.inl (.inl eLH)), ln, itn _⟩, f3.tab, fun _ p H4 x4 T4 hp => ?_, ng⟩
      have f4 := f3.ext x4 T4
      have eD4 := sqT_x eD3 x4
      have eL4 := x4 _ _ eL3 (fun ps z => nomatch z)
      have eLH4 := x4 _ _ eLH (fun ps z => nomatch z)
      refine ⟨_, rfl, _, rfl, y, .ref tD, true, (FV.row ns).arg, rfl, ⟨tD, rfl, .inr eD4, ln, itn _⟩, f4.tab, fun _ q H5 x5 T5 hq => ?_, ng⟩
      have f5 := f4.ext x5 T5
      have hp := hp.extN x5
      have eL5 := x5 _ _ eL4 (fun ps z => nomatch z)
      have eLH5 := x5 _ _ eLH4 (fun ps z => nomatch z)
      have hD : FldAt K H5 (.ref tD) (FV.row ns).arg := ⟨tD, rfl, sqT_x eD4 x5⟩
      have hL : LstAt S H5 (.ref L) (.row ns) := ⟨L, rfl, nL, eL5⟩
      refine ⟨by show 2 ≤ sizeLine; decide, fun tq htq => ?_⟩
      have s6 := same_new (o := .tup [V.ref p, V.ref q]) (Same.refl H5) htq
      have etq : (upd H5 tq (.tup [V.ref p, V.ref q])) tq = some (.tup [V.ref p, V.ref q]) := upd_same
      generalize upd H5 tq (.tup [V.ref p, V.ref q]) = H6 at s6 etq ⊢
      have f6 := f5.same s6
      have hp := hp.extN (.of s6)
      have hq := hq.extN (.of s6)
      have hD := hD.extN (.of s6)
      have hL := hL.butT ((ButT.refl S H5).ext (.of s6))
      refine ⟨tq, _, rfl, .inl (.inl etq), rfl, _, _, rfl, _, _, rfl, rfl, ?_⟩
      have eLH6 := s6 _ _ eLH5
      refine ⟨_, rfl, .ref LH, .ty "list", _, _, true, rfl, .ty _, .base (.lst eLH6), kit_ty (by decide +kernel), true, rfl, iteT ?_⟩
      refine ⟨_, rfl, .inl ⟨rfl, _, .inl (.inl eLH6)⟩, LH, _, _, rfl, rfl, eLH6, ?_, ?_⟩
      · rw [List.length_map]
        exact Nat.lt_of_lt_of_le (by omega : _ < 200) (by decide)
      have f7 := st1_upL (o := .lst (ns.map V.int ++ [V.int 1])) f6 eLH6 hLH0 nLH
      have hp := th_upL (o := .lst (ns.map V.int ++ [V.int 1])) hp eLH6
      have hq := th_upL (o := .lst (ns.map V.int ++ [V.int 1])) hq eLH6
      have hD := fld_upL (o := .lst (ns.map V.int ++ [V.int 1])) hD eLH6
      have hL := lst_upL (o := .lst (ns.map V.int ++ [V.int 1])) hL (D := LH) (fun M e => by cases e; exact nLL)
      have eLH7 : (upd H6 LH (.lst (ns.map V.int ++ [V.int 1]))) LH = some (.lst (ns.map V.int ++ [V.int 1])) := upd_same
      generalize upd H6 LH (.lst (ns.map V.int ++ [V.int 1])) = H7 at f7 hp hq hD hL eLH7 ⊢
      refine ⟨_, rfl, .inl ⟨rfl, _, .inl (.inl eLH7)⟩, LH, _, 0, _, rfl, rfl, eLH7, ?_, by decide, by decide, ?_⟩
      · rw [List.length_append, List.length_map]
        exact Nat.lt_of_lt_of_le (by show ns.length + 1 < 200; omega : _ < 200) (by decide)
      have f8 := st1_upL (o := (.lst (List.take (0 : Int).toNat (ns.map V.int ++ [V.int 1]) ++ [V.int 200] ++ List.drop (0 : Int).toNat (ns.map V.int ++ [V.int 1])))) f7 eLH7 hLH0 nLH
      have hp := th_upL (o := (.lst (List.take (0 : Int).toNat (ns.map V.int ++ [V.int 1]) ++ [V.int 200] ++ List.drop (0 : Int).toNat (ns.map V.int ++ [V.int 1])))) hp eLH7
      have hq := th_upL (o := (.lst (List.take (0 : Int).toNat (ns.map V.int ++ [V.int 1]) ++ [V.int 200] ++ List.drop (0 : Int).toNat (ns.map V.int ++ [V.int 1])))) hq eLH7
      have hD := fld_upL (o := (.lst (List.take (0 : Int).toNat (ns.map V.int ++ [V.int 1]) ++ [V.int 200] ++ List.drop (0 : Int).toNat (ns.map V.int ++ [V.int 1])))) hD eLH7
      have hL := lst_upL (o := (.lst (List.take (0 : Int).toNat (ns.map V.int ++ [V.int 1]) ++ [V.int 200] ++ List.drop (0 : Int).toNat (ns.map V.int ++ [V.int 1])))) hL (D := LH) (fun M e => by cases e; exact nLL)
      generalize upd H7 LH (.lst (List.take (0 : Int).toNat (ns.map V.int ++ [V.int 1]) ++ [V.int 200] ++ List.drop (0 : Int).toNat (ns.map V.int ++ [V.int 1]))) = H8 at f8 hp hq hD hL ⊢
      obtain ⟨dxp, vp, ep, fp⟩ := id hp
      obtain ⟨dxq, vq, eq, fq⟩ := id hq
      refine ⟨_, rfl, _, rfl, p, dxp, vp, rfl, ep, _, rfl, _, _, FV.dp (f := FV.row ns) fp, FV.dp (f := FV.row ns) hD, FV.shp _, FV.shp _, false, congrArg V.bl (neSame _), iteF ?_⟩
      refine ⟨_, rfl, _, rfl, q, dxq, vq, rfl, eq, _, rfl, _, _, FV.dp (f := FV.row ns) fq, FV.dp (f := FV.row ns) hD, FV.shp _, FV.shp _, false, congrArg V.bl (neSame _), iteF ?_⟩
      refine ⟨_, rfl, _, rfl, p, dxp, vp, rfl, ep, ?_⟩
      obtain ⟨sh1, sh2, sh3, sh4⟩ := show_row (unts_of fok) l100
      obtain ⟨tp, rfl, htp⟩ := id fp
      refine .inl ⟨tp, _, rfl, FV.dp (f := FV.row ns) fp, sh1, sh2, sh3, sh4, _, rfl, .inl ⟨_, _, rfl, FV.dp (f := FV.row ns) hD, sh1, sh2, sh3, sh4, rfl, false, congrArg V.bl (by simp), iteF ?_⟩⟩
      clear ep eq fp fq
      refine ⟨_, rfl, _, rfl, eq_tt T hp hq fun K1 t1 => ⟨true, congrArg V.bl (by simp), iteF ?_⟩⟩
      have hp := hp.extN (.of t1)
      have hq := hq.extN (.of t1)
      refine ⟨_, rfl, _, rfl, ne_tt T hp hq fun K2 t2 => ⟨false, congrArg V.bl (by simp), iteF ?_⟩⟩
      have hp := hp.extN (.of t2)
      have hq := hq.extN (.of t2)
      refine ⟨_, rfl, _, rfl, eq_tt T hq hp fun K3 t3 => ⟨true, congrArg V.bl (by simp), iteF ?_⟩⟩
      have hp := hp.extN (.of t3)
      have t13 := (t1.trans t2).trans t3
      have hD := hD.extN (.of t13)
      have hL := hL.butT ((ButT.refl S H8).ext (.of t13))
      have f9 := f8.same t13
      refine ⟨_, rfl, _, rfl, S, rfl, f9.src, fun g vO H11 gok hO hS11 b11 => ?_⟩
      have f11 := f9.but' b11 hS11
      have bt : ButT S K3 H11 := fun b o e n _ => b11 b o e n
      have hp := th_bt hp f9.src bt
      have hD := fld_bt hD f9.src bt
      have hL := hL.butT bt
      refine ⟨_, rfl, _, rfl, _, rfl, y, vO, false, g.arg, rfl, lst_arg hO gok, f11.tab, fun _ r H12 x12 T12 hr => ?_, fun e => by rw [gok.1] at e; cases e⟩
      have f12 := f11.ext x12 T12
      have hp := hp.extN x12
      have hD := hD.extN x12
      have hL := hL.butT ((ButT.refl S H11).ext x12)
      have hO := hO.butT ((ButT.refl S H11).ext x12)
      refine eq_tt T hp hr fun H13 s13 => ?_
      have f13 := f12.same s13
      have hp := hp.extN (.of s13)
      have hD := hD.extN (.of s13)
      have hL := hL.butT ((ButT.refl S H12).ext (.of s13))
      have hO := hO.butT ((ButT.refl S H12).ext (.of s13))
      cases g with
      | num m =>
        cases (show vO = .int m from hO)
        refine ⟨_, rfl, _, rfl, .int m, .ty "list", _, _, false, rfl, .ty _, .base (.int m), kit_ty (by decide +kernel), false, rfl, iteF ?_⟩
        refine ⟨_, rfl, _, _, FV.dp (f := FV.row ns) hD, FV.dp (f := FV.num m) rfl, FV.shp _, FV.shp _, rfl, false, congrArg V.bl (bothB _ _ _), iteF ?_⟩
        refine ⟨_, rfl, _, rfl, _, rfl, .inl ⟨tD, _, rfl, FV.dp (f := FV.row ns) hD, sh1, sh2, sh3, sh4, _, rfl, by show 5 ≤ sizeLine; decide, fun q5 h5 => ?_⟩⟩
        have s15 := same_new (o := .tup [V.ref tD, V.ref L, V.non, V.str (PyData.shown (FV.row ns).dat), V.int (y.num : Nat)]) (Same.refl H13) h5
        have e5 : (upd H13 q5 (.tup [V.ref tD, V.ref L, V.non, V.str (PyData.shown (FV.row ns).dat), V.int (y.num : Nat)])) q5 = some (.tup [V.ref tD, V.ref L, V.non, V.str (PyData.shown (FV.row ns).dat), V.int (y.num : Nat)]) := upd_same
        generalize upd H13 q5 (.tup [V.ref tD, V.ref L, V.non, V.str (PyData.shown (FV.row ns).dat), V.int (y.num : Nat)]) = H15 at s15 e5 ⊢
        have f15 := f13.same s15
        have hp := hp.extN (.of s15)
        have hD := hD.extN (.of s15)
        have hL := hL.butT ((ButT.refl S H13).ext (.of s15))
        refine ⟨q5, rfl, ⟨_, .inl (.inl e5)⟩, fun DL hDL => lc_it (walk_tup (K := K) (a := q5) (xs := [V.ref tD, V.ref L, V.non, V.str (PyData.shown (FV.row ns).dat), V.int (y.num : Nat)])) (fun i H' => H' DL = some (.lst []) ∧ Same H15 H') ⟨upd_same, same_new (Same.refl H15) hDL⟩ (fun _ _ _ z => .inl (.inl (z.2 _ _ e5))) ?_ ?_⟩
        · rintro i x J1' J1 hi ⟨eDL, sJ⟩ ⟨rfl, hx⟩
          have hpJ := hp.extN (.of sJ)
          obtain ⟨nm, ox⟩ : ∃ nm, Opd K J1 x nm := by
            obtain ⟨_, e0, oD⟩ := hD.extN (.of sJ)
            cases e0
            obtain ⟨_, e0, _, oL⟩ := hL.butT ((ButT.refl S H15).ext (.of sJ))
            cases e0
            have := List.mem_of_getElem? hx
            simp only [List.mem_cons, List.not_mem_nil, or_false] at this
            rcases this with rfl | rfl | rfl | rfl | rfl
            · exact ⟨_, .tup oD⟩
            · exact ⟨_, .lst (.inl (.inl oL))⟩
            · exact ⟨_, .non⟩
            · exact ⟨_, .str _⟩
            · exact ⟨_, .int _⟩
          refine ⟨rfl, ?_⟩
          refine ⟨_, rfl, _, rfl, eq_to T hpJ ox ⟨false, rfl, iteF ?_⟩⟩
          refine ⟨_, rfl, _, rfl, ne_to T hpJ ox ⟨true, rfl, iteF ?_⟩⟩
          exact ⟨eDL, sJ⟩
        · rintro J1 ⟨eDL, sJ⟩
          refine ⟨by show 0 ≤ sizeLine; decide, fun qe hqe => ⟨_, _, .lst (.inl (.inl (same_new (Same.refl J1) hqe _ _ eDL))) .nil, .lst (.inl (.inl upd_same)) .nil, rfl, rfl, ?_⟩⟩
          exact k _ (f15.same (sJ.trans (same_new (Same.refl J1) hqe)))
      | row ms =>
        obtain ⟨LO, rfl, nLO, eLO⟩ := hO
        refine ⟨_, rfl, _, rfl, .ref LO, .ty "list", _, _, true, rfl, .ty _, .base (.lst eLO), kit_ty (by decide +kernel), true, rfl, iteT ?_⟩
        refine ⟨_, rfl, LO, _, rfl, .inl (.inl (.inl eLO)), fun tO H14 s14 eO => ?_⟩
        have f14 := f13.same s14
        have hp := hp.extN (.of s14)
        have hD := hD.extN (.of s14)
        have hL := hL.butT ((ButT.refl S H13).ext (.of s14))
        refine ⟨_, _, FV.dp (f := FV.row ns) hD, FV.dp (f := FV.row ms) ⟨tO, rfl, eO⟩, FV.shp _, FV.shp _, rfl, false, congrArg V.bl (bothB _ _ _), iteF ?_⟩
        refine ⟨_, rfl, _, rfl, _, rfl, .inl ⟨tD, _, rfl, FV.dp (f := FV.row ns) hD, sh1, sh2, sh3, sh4, _, rfl, by show 5 ≤ sizeLine; decide, fun q5 h5 => ?_⟩⟩
        have s15 := same_new (o := .tup [V.ref tD, V.ref L, V.non, V.str (PyData.shown (FV.row ns).dat), V.int (y.num : Nat)]) (Same.refl H14) h5
        have e5 : (upd H14 q5 (.tup [V.ref tD, V.ref L, V.non, V.str (PyData.shown (FV.row ns).dat), V.int (y.num : Nat)])) q5 = some (.tup [V.ref tD, V.ref L, V.non, V.str (PyData.shown (FV.row ns).dat), V.int (y.num : Nat)]) := upd_same
        generalize upd H14 q5 (.tup [V.ref tD, V.ref L, V.non, V.str (PyData.shown (FV.row ns).dat), V.int (y.num : Nat)]) = H15 at s15 e5 ⊢
        have f15 := f14.same s15
        have hp := hp.extN (.of s15)
        have hD := hD.extN (.of s15)
        have hL := hL.butT ((ButT.refl S H14).ext (.of s15))
        refine ⟨q5, rfl, ⟨_, .inl (.inl e5)⟩, fun DL hDL => lc_it (walk_tup (K := K) (a := q5) (xs := [V.ref tD, V.ref L, V.non, V.str (PyData.shown (FV.row ns).dat), V.int (y.num : Nat)])) (fun i H' => H' DL = some (.lst []) ∧ Same H15 H') ⟨upd_same, same_new (Same.refl H15) hDL⟩ (fun _ _ _ z => .inl (.inl (z.2 _ _ e5))) ?_ ?_⟩
        · rintro i x J1' J1 hi ⟨eDL, sJ⟩ ⟨rfl, hx⟩
          have hpJ := hp.extN (.of sJ)
          obtain ⟨nm, ox⟩ : ∃ nm, Opd K J1 x nm := by
            obtain ⟨_, e0, oD⟩ := hD.extN (.of sJ)
            cases e0
            obtain ⟨_, e0, _, oL⟩ := hL.butT ((ButT.refl S H15).ext (.of sJ))
            cases e0
            have := List.mem_of_getElem? hx
            simp only [List.mem_cons, List.not_mem_nil, or_false] at this
            rcases this with rfl | rfl | rfl | rfl | rfl
            · exact ⟨_, .tup oD⟩
            · exact ⟨_, .lst (.inl (.inl oL))⟩
            · exact ⟨_, .non⟩
            · exact ⟨_, .str _⟩
            · exact ⟨_, .int _⟩
          refine ⟨rfl, ?_⟩
          refine ⟨_, rfl, _, rfl, eq_to T hpJ ox ⟨false, rfl, iteF ?_⟩⟩
          refine ⟨_, rfl, _, rfl, ne_to T hpJ ox ⟨true, rfl, iteF ?_⟩⟩
          exact ⟨eDL, sJ⟩
        · rintro J1 ⟨eDL, sJ⟩
          refine ⟨by show 0 ≤ sizeLine; decide, fun qe hqe => ⟨_, _, .lst (.inl (.inl (same_new (Same.refl J1) hqe _ _ eDL))) .nil, .lst (.inl (.inl upd_same)) .nil, rfl, rfl, ?_⟩⟩
          exact k _ (f15.same (sJ.trans (same_new (Same.refl J1) hqe)))
end
end G58

set_option Elab.async false
set_option linter.all false
set_option pp.maxSteps 2500
set_option maxRecDepth 100000
set_option maxHeartbeats 4000000
/-! k01: things of all classes. -/
namespace G58
open PySem PySem.Spec PyProof.Rows L2 LamX
theorem FnG.ex {P : Program} {w : World} {K : PySem.W.Frag} {mg : Str → Option Value} {base : Heap} {CX : CXT} {k : Nat} {f : Addr} {fd : FuncData} {ps : List Str} {ι : Type} {sp : ι → Sp} (F : ∀ i, FnG P w K mg base CX k f fd ps (sp i)) : FnG P w K mg base CX k f fd ps (fun vs H Q E => ∃ i, sp i vs H Q E) :=
  ⟨fun vs H Q E ⟨i, h⟩ => (F i).len vs H Q E h, fun A outer s H args us vs Q E hg hr e0 hb r ⟨i, h⟩ => (F i).run A outer s H args us vs Q E hg hr e0 hb r h⟩
def k7 (E F W U : FV) : Nat → Wy × FV
  | 0 => (.d, E)
  | 1 => (.r, E)
  | 2 => (.t, E)
  | 3 => (.w, W)
  | 4 => (.u, U)
  | 5 => (.d, F)
  | _ => (.r, F)
theorem key7 {E F W U : FV} (h : E ≠ F) {i j : Nat} (hi : i < 7) (hj : j < 7) : decide ((k7 E F W U i).1 = (k7 E F W U j).1 ∧ (k7 E F W U i).2 = (k7 E F W U j).2) = decide (i = j) := by
  have h' := Ne.symm h
  have ci : i = 0 ∨ i = 1 ∨ i = 2 ∨ i = 3 ∨ i = 4 ∨ i = 5 ∨ i = 6 := by omega
  have cj : j = 0 ∨ j = 1 ∨ j = 2 ∨ j = 3 ∨ j = 4 ∨ j = 5 ∨ j = 6 := by omega
  rcases ci with rfl | rfl | rfl | rfl | rfl | rfl | rfl <;> rcases cj with rfl | rfl | rfl | rfl | rfl | rfl | rfl <;> simp [k7, h, h']
def p7 (a0 a1 a2 a3 a4 a5 a6 : Addr) : Nat → Addr
  | 0 => a0
  | 1 => a1
  | 2 => a2
  | 3 => a3
  | 4 => a4
  | 5 => a5
  | _ => a6
def x7 (a0 a1 a2 a3 a4 a5 a6 : Addr) : List V := [.ref a0, .ref a1, .ref a2, .ref a3, .ref a4, .ref a5, .ref a6]
theorem x7_at {a0 a1 a2 a3 a4 a5 a6 : Addr} {i : Nat} (hi : i < 7) : (x7 a0 a1 a2 a3 a4 a5 a6)[i]? = some (.ref (p7 a0 a1 a2 a3 a4 a5 a6 i)) := by
  have ci : i = 0 ∨ i = 1 ∨ i = 2 ∨ i = 3 ∨ i = 4 ∨ i = 5 ∨ i = 6 := by omega
  rcases ci with rfl | rfl | rfl | rfl | rfl | rfl | rfl <;> rfl
theorem St1.trans {S pT : Addr} {A B C : Hp} (x : St1 S pT A B) (y : St1 S pT B C) : St1 S pT A C := ⟨y.src, y.tab, x.but.trans y.but⟩
theorem St1.self {S pT : Addr} {A B : Hp} (x : St1 S pT A B) : St1 S pT B B := ⟨x.src, x.tab, ButT.refl S B⟩
theorem th_same {K : PySem.W.Frag} {a : Ad} {H H1 : Hp} {p : Addr} {y : Wy} {g : Arg} (h : ThAt K a H p y g) (s : Same H H1) : ThAt K a H1 p y g := h.extN (.of s)
theorem init_same {H H' : Hp} {x dx C : Addr} (hx : H x = none) (hd : H dx = none) (n : dx ≠ x) (b : ButX x (upd (upd H dx (.own x)) x (.ins C dx [])) H') : Same H H' := fun b' o e => b _ _ (make_same (C := C) hx hd n _ _ e) (ne_of_none e hx)
theorem num_arg {K : PySem.W.Frag} {H : Hp} {n : Int} : ArgAt K H (.int n) (FV.num n).arg := rfl
theorem row_arg {K : PySem.W.Frag} {H : Hp} {L : Addr} {ns : List Int} (e : H L = some (.lst (ns.map V.int))) (l : ns.length ≤ 100) : ArgAt K H (.ref L) (FV.row ns).arg :=
  ⟨L, rfl, .inl (.inl (.inl e)), by rw [List.length_map]; omega, fun x hx => by
    obtain ⟨m, _, rfl⟩ := List.mem_map.mp hx
    exact it_int⟩
def spRgt (pT : Addr) : Sp := fun vs H Q _ => ∃ (S : Addr), vs = [.ref S] ∧ St1 S pT H H ∧ ∀ H', St1 S pT H H' → Q (.bl true) H'
section
variable {P : Program} {w : World} {K : PySem.W.Frag} {mg : Str → Option Value} {base : Heap} {a : Ad}
theorem ok_oneA (D : Df K a) (T : Txt K mg a) {c pT : Addr} (FC : FunC K "_law_made" "_law_made" sMad a.fMad D.dMad c) (TB : TabB base mg c pT) : FnG P w K mg base CX0 8 a.fOne D.dOne ["_law_source_here", "_law_way"] (fun vs H Q E => ∃ y, spOne pT y vs H Q E) := FnG.ex fun y => ok_one D T FC TB y
theorem scRgt : FnScope ["_law_source_here", "_law_way", "_law_turn", "_law_eight", "_law_some", "_law_k", "_law_one", "_law_j"] ["_law_source_here"] (defScope sRgt) := ⟨rfl, rfl, rfl, by decide +kernel, rfl, by decide +kernel, by decide +kernel⟩
theorem ok_rgt (D : Df K a) (T : Txt K mg a) {c pT : Addr} (FC : FunC K "_law_made" "_law_made" sMad a.fMad D.dMad c) (TB : TabB base mg c pT) : FnG P w K mg base CX0 10 a.fRgt D.dRgt ["_law_source_here"] (spRgt pT) := by
  have GOne : FnG P w K mg base CX0 8 a.fOne D.dOne ["_law_source_here", "_law_way"] (fun vs H Q E => ∃ y, spOne pT y vs H Q E) := ok_oneA D T FC TB
  have GOct : FnOk P w K mg base CX0 3 a.fOct D.dOct ["_law_source_here", "_law_many"] spOct := ok_oct D T
  have GOdd : FnOk P w K mg base CX0 9 a.fOdd D.dOdd ["_law_source_here"] (spOdd pT) := ok_odd D T FC TB
  have GEq : FnOk P w K mg base CX0 2 a.fEq D.dEq ["self", "other"] (spEq K a) := ok_eq D T
  have GiW : FnOk P w K mg base (L2.CX P w) 4 a.fiW D.diW ["self", "units"] (spInit K a .w) := ok_iW D T
  have GiD : FnOk P w K mg base (L2.CX P w) 4 a.fiD D.diD ["self", "octets"] (spInit K a .d) := ok_iD D T
  have GiU : FnOk P w K mg base (L2.CX P w) 4 a.fiU D.diU ["self", "number"] (spInit K a .u) := ok_iU D T
  have GiR : FnOk P w K mg base (L2.CX P w) 4 a.fiR D.diR ["self", "octets"] (spInit K a .r) := ok_iR D T
  have GiT : FnOk P w K mg base (L2.CX P w) 4 a.fiT D.diT ["self", "octets"] (spInit K a .t) := ok_iT D T
  refine okG D.FRgt scRgt (fun vs H Q E h => ?_) (fun cdv A outer s H vs Q E hgu hr h => ?_)
  · obtain ⟨S, rfl, _⟩ := h
    rfl
  · obtain ⟨S, rfl, f0, k⟩ := h
    have hr2 : Room 2 _ := hr.mono (by decide)
    have hr3 : Room 3 _ := hr.mono (by decide)
    have hr5 : Room 5 _ := hr.mono (by decide)
    have hr8 : Room 8 _ := hr.mono (by decide)
    refine ⟨_, (pss_cons (ps_for PassesOwn.never rfl (pi_tup (pe_tup (pa_cons pe_int (pa_cons pe_int (pa_cons pe_int (pa_cons pe_int (pa_cons pe_int pa_nil))))))) (pg_name (i := 1) scRgt.nd rfl (.inl rfl)) (pss_one (ps_for PassesOwn.never rfl (pi_range1 (by rfl) T.brange (pa_cons pe_int pa_nil)) (pg_name (i := 2) scRgt.nd rfl (.inl rfl)) (pss_one (ps_if (pt_not (pt_val (pe_callG hgu GOne hr8 rfl T.gOne D.FOne.kp D.bOne .nil pass0 (pa_cons (pv 0) (pa_cons (pv 1) pa_nil))))) (pss_one (ps_ret pe_bl)) pss_nil))))) (pss_cons (ps_set (i := 3) scRgt.nd rfl (.inl rfl) (pe_call GOct hr3 rfl T.gOct D.FOct.kp D.bOct .nil pass0 (pa_cons (pv 0) (pa_cons pe_int pa_nil)))) (pss_cons (ps_set (i := 4) scRgt.nd rfl (.inr rfl) (pe_lst (pa_cons (pe_make T.mkData GiD hr5 rfl T.gcData D.biD .nil passX0 (pa_cons (pv 3) pa_nil)) (pa_cons (pe_make T.mkReal GiR hr5 rfl T.gcReal D.biR .nil passX0 (pa_cons (pv 3) pa_nil)) (pa_cons (pe_make T.mkDate GiT hr5 rfl T.gcDate D.biT .nil passX0 (pa_cons (pv 3) pa_nil)) (pa_cons (pe_make T.mkWide GiW hr5 rfl T.gcWide D.biW .nil passX0 (pa_cons (pe_op op_cat (pv 3) (pe_lst (pa_cons pe_int pa_nil))) pa_nil)) (pa_cons (pe_make T.mkUid GiU hr5 rfl T.gcUid D.biU .nil passX0 (pa_cons (pe_ix ix_list (pv 3) pe_int (fun _ _ => rfl)) pa_nil)) (pa_cons (pe_make T.mkData GiD hr5 rfl T.gcData D.biD .nil passX0 (pa_cons (pe_slice sl_list (pv 3) po_none (po_some pe_int)) pa_nil)) (pa_cons (pe_make T.mkReal GiR hr5 rfl T.gcReal D.biR .nil passX0 (pa_cons (pe_slice sl_list (pv 3) po_none (po_some pe_int)) pa_nil)) pa_nil))))))))) (pss_cons (ps_for PassesOwn.never rfl (pi_enum (by rfl) T.benumerate (pa_cons (pv 4) pa_nil)) (pg_tup rfl (pgs_cons (pg_name (i := 5) scRgt.nd rfl (.inl rfl)) (pgs_cons (pg_name (i := 6) scRgt.nd rfl (.inr rfl)) pgs_nil))) (pss_one (ps_if (pt_cmpR (op_neD hr.units) (pe_lc (tt := tTest (tOp (rEqF K (fun y : Wy => y.cls a) (spEq K a) E0) (tVar 6) (tOp (rIxL K) (tVar 4) (tVar 7)))) (own := [("_law_j", 7)]) (g := (gName 7)) rfl scRgt.nd (pi_range1 (by rfl) T.brange (pa_cons (pe_callB call_len_seq (by rfl) T.blen PySem.boot_len (pa_cons (pv 4) pa_nil)) pa_nil)) (blkOk_by (N := ["_law_source_here", "_law_way", "_law_turn", "_law_eight", "_law_some", "_law_k", "_law_one", "_law_j"]) (sc := defScope sRgt) (by decide +kernel)) (fun _ _ _ _ _ => (pg_name (i := 7) scRgt.nd rfl (.inl rfl))) (fun _ _ _ _ _ => pts_one (pt_cmpR (op_eqF GEq (eqsA T) T.fnEq D.bEq pass0 hr2) (pv 6) (pe_ix ix_list (pv 4) (pv 7) (fun _ _ => rfl)) (nomark _))) (fun _ _ _ _ _ => (pv 7))) (pe_lst (pa_cons (pv 5) pa_nil)) (nomark _)) (pss_one (ps_ret pe_bl)) pss_nil))) (pss_one (ps_ret (pe_call GOdd hr rfl T.gOdd D.FOdd.kp D.bOdd .nil pass0 (pa_cons (pv 0) pa_nil)))))))), ?_⟩
    refine ⟨by show 5 ≤ sizeLine; decide, fun q hq => ?_⟩
    have s0 := same_new (o := .tup [V.int 0, V.int 1, V.int 2, V.int 3, V.int 4]) (Same.refl H) hq
    have e0 : (upd H q (.tup [V.int 0, V.int 1, V.int 2, V.int 3, V.int 4])) q = some (.tup [V.int 0, V.int 1, V.int 2, V.int 3, V.int 4]) := upd_same
    have nq : q ≠ S := src_ne f0.src hq
    generalize upd H q (.tup [V.int 0, V.int 1, V.int 2, V.int 3, V.int 4]) = G0 at s0 e0 ⊢
    have g0 := f0.same s0
    refine ⟨q, rfl, ⟨_, .inl (.inl e0)⟩, for_it (walk_tup (K := K) (a := q) (xs := [V.int 0, V.int 1, V.int 2, V.int 3, V.int 4])) (fun t st H1 => ∃ u1 u2 u3 u4 u5 u6 u7, st = [some (.ref S), u1, u2, u3, u4, u5, u6, u7] ∧ St1 S pT G0 H1) ⟨_, _, _, _, _, _, _, rfl, g0.self⟩ (fun _ _ _ _ ⟨_, _, _, _, _, _, _, _, x⟩ => .inl (.inl (x.but _ _ e0 nq fun ps z => nomatch z))) ?_ ?_⟩
    · rintro t z st H1' H1 ht ⟨u1, u2, u3, u4, u5, u6, u7, rfl, x1⟩ ⟨rfl, hz⟩
      obtain ⟨y, rfl⟩ : ∃ y : Wy, z = .int (y.num : Nat) := by
        have := List.mem_of_getElem? hz
        simp only [List.mem_cons, List.not_mem_nil, or_false] at this
        rcases this with rfl | rfl | rfl | rfl | rfl
        · exact ⟨.w, rfl⟩
        · exact ⟨.d, rfl⟩
        · exact ⟨.u, rfl⟩
        · exact ⟨.r, rfl⟩
        · exact ⟨.t, rfl⟩
      refine ⟨(3 : Int), rfl, by decide, by decide, for_it walk_range (fun t st H2 => ∃ u2 u3 u4 u5 u6 u7, st = [some (.ref S), some (.int (y.num : Nat)), u2, u3, u4, u5, u6, u7] ∧ St1 S pT G0 H2) ⟨_, _, _, _, _, _, rfl, x1⟩ (fun _ _ _ _ _ => True.intro) ?_ ?_⟩
      · rintro t2 z2 st2 H2' H2 ht2 ⟨u2, u3, u4, u5, u6, u7, rfl, x2⟩ ⟨rfl, rfl⟩
        refine ⟨_, rfl, _, rfl, y, S, rfl, x2.self, fun H3 x3 => ⟨true, rfl, iteF ?_⟩⟩
        exact ⟨_, _, _, _, _, _, rfl, x2.trans x3⟩
      · rintro st2 H2 ⟨u2, u3, u4, u5, u6, u7, rfl, x2⟩
        exact ⟨_, _, _, _, _, _, _, rfl, x2⟩
    rintro st G1 ⟨u1, u2, u3, u4, u5, u6, u7, rfl, x1⟩
    have g1 := g0.trans x1
    clear x1 e0
    refine ⟨_, rfl, S, 8, rfl, g1.src, by decide, fun ns L G2 ln hb nL eL hS2 b2 => ?_⟩
    have g2 := g1.but' b2 hS2
    obtain ⟨c0, c1, c2, c3, c4, c5, c6, c7, rfl⟩ : ∃ c0 c1 c2 c3 c4 c5 c6 c7, ns = [c0, c1, c2, c3, c4, c5, c6, c7] := by
      match ns, ln with
      | [c0, c1, c2, c3, c4, c5, c6, c7], _ => exact ⟨_, _, _, _, _, _, _, _, rfl⟩
    have hE : FV.ok .d (.row [c0, c1, c2, c3, c4, c5, c6, c7]) := ⟨byts_all hb, by show 8 ≤ 100; decide⟩
    refine ⟨_, rfl, fun p3 dx3 hx3 hd3 nd3 => ⟨p3, dx3, _, (FV.row [c0, c1, c2, c3, c4, c5, c6, c7]).arg, rfl, upd_same, (row_arg eL (by show 8 ≤ 100; decide)).extN (.of (make_same hx3 hd3 nd3)), fun _ G3 v3 bx3 ea3 eb3 => ⟨rfl, ?_⟩, fun e => by rw [show Arg.good .d (FV.row [c0, c1, c2, c3, c4, c5, c6, c7]).arg = true from byts_all hb] at e; cases e⟩⟩
    have s3 : Same G2 G3 := init_same hx3 hd3 nd3 bx3
    have h3 : ThAt K a G3 p3 .d (FV.row [c0, c1, c2, c3, c4, c5, c6, c7]).arg := ⟨dx3, v3, ea3, eb3⟩
    clear hx3 hd3 nd3 bx3 ea3 eb3
    have g3 := g2.same s3
    have eL := s3 _ _ eL
    refine ⟨_, rfl, fun p4 dx4 hx4 hd4 nd4 => ⟨p4, dx4, _, (FV.row [c0, c1, c2, c3, c4, c5, c6, c7]).arg, rfl, upd_same, (row_arg eL (by show 8 ≤ 100; decide)).extN (.of (make_same hx4 hd4 nd4)), fun _ G4 v4 bx4 ea4 eb4 => ⟨rfl, ?_⟩, fun e => by rw [show Arg.good .r (FV.row [c0, c1, c2, c3, c4, c5, c6, c7]).arg = true from (by show ((List.map V.int [c0, c1, c2, c3, c4, c5, c6, c7]).all (isIn 0 255) && (decide ((List.map V.int [c0, c1, c2, c3, c4, c5, c6, c7]).length = 4) || decide ((List.map V.int [c0, c1, c2, c3, c4, c5, c6, c7]).length = 8))) = true; rw [byts_all hb]; rfl)] at e; cases e⟩⟩
    have s4 : Same G3 G4 := init_same hx4 hd4 nd4 bx4
    have h4 : ThAt K a G4 p4 .r (FV.row [c0, c1, c2, c3, c4, c5, c6, c7]).arg := ⟨dx4, v4, ea4, eb4⟩
    clear hx4 hd4 nd4 bx4 ea4 eb4
    have g4 := g3.same s4
    have h3 := th_same h3 s4
    have eL := s4 _ _ eL
    refine ⟨_, rfl, fun p5 dx5 hx5 hd5 nd5 => ⟨p5, dx5, _, (FV.row [c0, c1, c2, c3, c4, c5, c6, c7]).arg, rfl, upd_same, (row_arg eL (by show 8 ≤ 100; decide)).extN (.of (make_same hx5 hd5 nd5)), fun _ G5 v5 bx5 ea5 eb5 => ⟨rfl, ?_⟩, fun e => by rw [show Arg.good .t (FV.row [c0, c1, c2, c3, c4, c5, c6, c7]).arg = true from (by show ((List.map V.int [c0, c1, c2, c3, c4, c5, c6, c7]).all (isIn 0 255) && decide ((List.map V.int [c0, c1, c2, c3, c4, c5, c6, c7]).length = 8)) = true; rw [byts_all hb]; rfl)] at e; cases e⟩⟩
    have s5 : Same G4 G5 := init_same hx5 hd5 nd5 bx5
    have h5 : ThAt K a G5 p5 .t (FV.row [c0, c1, c2, c3, c4, c5, c6, c7]).arg := ⟨dx5, v5, ea5, eb5⟩
    clear hx5 hd5 nd5 bx5 ea5 eb5
    have g5 := g4.same s5
    have h3 := th_same h3 s5
    have h4 := th_same h4 s5
    have eL := s5 _ _ eL
    refine ⟨_, rfl, by show 1 ≤ sizeLine; decide, fun qa hh6 => ?_⟩
    have s6 := same_new (o := (.lst [V.int 300])) (Same.refl G5) hh6
    have e_qa : (upd G5 qa (.lst [V.int 300])) qa = some (.lst [V.int 300]) := upd_same
    generalize upd G5 qa (.lst [V.int 300]) = G6 at s6 e_qa ⊢
    have g6 := g5.same s6
    have eL := s6 _ _ eL
    have h3 := th_same h3 s6
    have h4 := th_same h4 s6
    have h5 := th_same h5 s6
    refine ⟨L, qa, _, _, rfl, rfl, eL, e_qa, by show 8 + 1 ≤ sizeLine; decide, fun qb hh7 => ?_⟩
    have s7 := same_new (o := (.lst (List.map V.int [c0, c1, c2, c3, c4, c5, c6, c7] ++ [V.int 300]))) (Same.refl G6) hh7
    have e_qb : (upd G6 qb (.lst (List.map V.int [c0, c1, c2, c3, c4, c5, c6, c7] ++ [V.int 300]))) qb = some (.lst (List.map V.int [c0, c1, c2, c3, c4, c5, c6, c7] ++ [V.int 300])) := upd_same
    generalize upd G6 qb (.lst (List.map V.int [c0, c1, c2, c3, c4, c5, c6, c7] ++ [V.int 300])) = G7 at s7 e_qb ⊢
    have g7 := g6.same s7
    have eL := s7 _ _ eL
    have h3 := th_same h3 s7
    have h4 := th_same h4 s7
    have h5 := th_same h5 s7
    have u9 : Unts [c0, c1, c2, c3, c4, c5, c6, c7, 300] := fun m hm => by
      have : m ∈ [c0, c1, c2, c3, c4, c5, c6, c7] ++ [300] := hm
      rcases List.mem_append.mp this with hm | hm
      · exact ⟨(hb m hm).1, Int.le_trans (hb m hm).2 (by decide)⟩
      · rw [List.mem_singleton.mp hm]
        decide
    have p9 : List.all [c0, c1, c2, c3, c4, c5, c6, c7, 300] plainI = false := by
      show List.all ([c0, c1, c2, c3, c4, c5, c6, c7] ++ [300]) plainI = false
      rw [List.all_append]
      exact Bool.and_false _
    refine fun p8 dx8 hx8 hd8 nd8 => ⟨p8, dx8, _, (FV.row [c0, c1, c2, c3, c4, c5, c6, c7, 300]).arg, rfl, upd_same, (row_arg (ns := [c0, c1, c2, c3, c4, c5, c6, c7, 300]) e_qb (by show 9 ≤ 100; decide)).extN (.of (make_same hx8 hd8 nd8)), fun _ G8 v8 bx8 ea8 eb8 => ⟨rfl, ?_⟩, fun e => by rw [show Arg.good .w (FV.row [c0, c1, c2, c3, c4, c5, c6, c7, 300]).arg = true from good_units u9 p9] at e; cases e⟩
    have s8 : Same G7 G8 := init_same hx8 hd8 nd8 bx8
    have h8 : ThAt K a G8 p8 .w (FV.row [c0, c1, c2, c3, c4, c5, c6, c7, 300]).arg := ⟨dx8, v8, ea8, eb8⟩
    clear hx8 hd8 nd8 bx8 ea8 eb8
    have g8 := g7.same s8
    have h3 := th_same h3 s8
    have h4 := th_same h4 s8
    have h5 := th_same h5 s8
    have eL := s8 _ _ eL
    have hb0 := hb c0 List.mem_cons_self
    refine ⟨_, rfl, L, _, 0, .int c0, rfl, rfl, .inl (.inl eL), rfl, fun p9 dx9 hx9 hd9 nd9 => ⟨p9, dx9, _, (FV.num c0).arg, rfl, upd_same, (num_arg (n := c0)).extN (.of (make_same hx9 hd9 nd9)), fun _ G9 v9 bx9 ea9 eb9 => ⟨rfl, ?_⟩, fun e => by rw [show Arg.good .u (FV.num c0).arg = true from (by show (decide (0 ≤ c0) && decide (c0 ≤ 18446744073709551615)) = true; rw [decide_eq_true hb0.1, decide_eq_true (Int.le_trans hb0.2 (by decide))]; rfl)] at e; cases e⟩⟩
    have s9 : Same G8 G9 := init_same hx9 hd9 nd9 bx9
    have h9 : ThAt K a G9 p9 .u (FV.num c0).arg := ⟨dx9, v9, ea9, eb9⟩
    clear hx9 hd9 nd9 bx9 ea9 eb9
    have g9 := g8.same s9
    have h3 := th_same h3 s9
    have h4 := th_same h4 s9
    have h5 := th_same h5 s9
    have h8 := th_same h8 s9
    have eL := s9 _ _ eL
    have hb4 : Byts [c0, c1, c2, c3] := fun m hm => hb m (List.mem_append_left [c4, c5, c6, c7] hm)
    have cut4 : cutV (List.map V.int [c0, c1, c2, c3, c4, c5, c6, c7]) none (some 4) = List.map V.int [c0, c1, c2, c3] := rfl
    refine ⟨_, rfl, 4, rfl, L, _, rfl, .inl (.inl eL), fun qc hh10 => ?_⟩
    have s10 := same_new (o := (.lst (cutV (List.map V.int [c0, c1, c2, c3, c4, c5, c6, c7]) none (some 4)))) (Same.refl G9) hh10
    have e_qc : (upd G9 qc (.lst (cutV (List.map V.int [c0, c1, c2, c3, c4, c5, c6, c7]) none (some 4)))) qc = some (.lst (cutV (List.map V.int [c0, c1, c2, c3, c4, c5, c6, c7]) none (some 4))) := upd_same
    generalize upd G9 qc (.lst (cutV (List.map V.int [c0, c1, c2, c3, c4, c5, c6, c7]) none (some 4))) = G10 at s10 e_qc ⊢
    have g10 := g9.same s10
    have eL := s10 _ _ eL
    have h3 := th_same h3 s10
    have h4 := th_same h4 s10
    have h5 := th_same h5 s10
    have h8 := th_same h8 s10
    have h9 := th_same h9 s10
    rw [cut4] at e_qc
    refine fun p11 dx11 hx11 hd11 nd11 => ⟨p11, dx11, _, (FV.row [c0, c1, c2, c3]).arg, rfl, upd_same, (row_arg (ns := [c0, c1, c2, c3]) e_qc (by show 4 ≤ 100; decide)).extN (.of (make_same hx11 hd11 nd11)), fun _ G11 v11 bx11 ea11 eb11 => ⟨rfl, ?_⟩, fun e => by rw [show Arg.good .d (FV.row [c0, c1, c2, c3]).arg = true from byts_all hb4] at e; cases e⟩
    have s11 : Same G10 G11 := init_same hx11 hd11 nd11 bx11
    have h11 : ThAt K a G11 p11 .d (FV.row [c0, c1, c2, c3]).arg := ⟨dx11, v11, ea11, eb11⟩
    clear hx11 hd11 nd11 bx11 ea11 eb11
    have g11 := g10.same s11
    have h3 := th_same h3 s11
    have h4 := th_same h4 s11
    have h5 := th_same h5 s11
    have h8 := th_same h8 s11
    have h9 := th_same h9 s11
    have eL := s11 _ _ eL
    refine ⟨_, rfl, 4, rfl, L, _, rfl, .inl (.inl eL), fun qd hh12 => ?_⟩
    have s12 := same_new (o := (.lst (cutV (List.map V.int [c0, c1, c2, c3, c4, c5, c6, c7]) none (some 4)))) (Same.refl G11) hh12
    have e_qd : (upd G11 qd (.lst (cutV (List.map V.int [c0, c1, c2, c3, c4, c5, c6, c7]) none (some 4)))) qd = some (.lst (cutV (List.map V.int [c0, c1, c2, c3, c4, c5, c6, c7]) none (some 4))) := upd_same
    generalize upd G11 qd (.lst (cutV (List.map V.int [c0, c1, c2, c3, c4, c5, c6, c7]) none (some 4))) = G12 at s12 e_qd ⊢
    have g12 := g11.same s12
    have eL := s12 _ _ eL
    have h3 := th_same h3 s12
    have h4 := th_same h4 s12
    have h5 := th_same h5 s12
    have h8 := th_same h8 s12
    have h9 := th_same h9 s12
    have h11 := th_same h11 s12
    rw [cut4] at e_qd
    refine fun p13 dx13 hx13 hd13 nd13 => ⟨p13, dx13, _, (FV.row [c0, c1, c2, c3]).arg, rfl, upd_same, (row_arg (ns := [c0, c1, c2, c3]) e_qd (by show 4 ≤ 100; decide)).extN (.of (make_same hx13 hd13 nd13)), fun _ G13 v13 bx13 ea13 eb13 => ⟨rfl, ?_⟩, fun e => by rw [show Arg.good .r (FV.row [c0, c1, c2, c3]).arg = true from (by show ((List.map V.int [c0, c1, c2, c3]).all (isIn 0 255) && (decide ((List.map V.int [c0, c1, c2, c3]).length = 4) || decide ((List.map V.int [c0, c1, c2, c3]).length = 8))) = true; rw [byts_all hb4]; rfl)] at e; cases e⟩
    have s13 : Same G12 G13 := init_same hx13 hd13 nd13 bx13
    have h13 : ThAt K a G13 p13 .r (FV.row [c0, c1, c2, c3]).arg := ⟨dx13, v13, ea13, eb13⟩
    clear hx13 hd13 nd13 bx13 ea13 eb13
    have g13 := g12.same s13
    have h3 := th_same h3 s13
    have h4 := th_same h4 s13
    have h5 := th_same h5 s13
    have h8 := th_same h8 s13
    have h9 := th_same h9 s13
    have h11 := th_same h11 s13
    have eL := s13 _ _ eL
    refine ⟨by show 7 ≤ sizeLine; decide, fun L7 hh14 => ?_⟩
    have s14 := same_new (o := (.lst [V.ref p3, V.ref p4, V.ref p5, V.ref p8, V.ref p9, V.ref p11, V.ref p13])) (Same.refl G13) hh14
    have e_L7 : (upd G13 L7 (.lst [V.ref p3, V.ref p4, V.ref p5, V.ref p8, V.ref p9, V.ref p11, V.ref p13])) L7 = some (.lst [V.ref p3, V.ref p4, V.ref p5, V.ref p8, V.ref p9, V.ref p11, V.ref p13]) := upd_same
    generalize upd G13 L7 (.lst [V.ref p3, V.ref p4, V.ref p5, V.ref p8, V.ref p9, V.ref p11, V.ref p13]) = G14 at s14 e_L7 ⊢
    have g14 := g13.same s14
    have eL := s14 _ _ eL
    have h3 := th_same h3 s14
    have h4 := th_same h4 s14
    have h5 := th_same h5 s14
    have h8 := th_same h8 s14
    have h9 := th_same h9 s14
    have h11 := th_same h11 s14
    have h13 := th_same h13 s14
    have e_L7 : G14 L7 = some (.lst (x7 p3 p4 p5 p8 p9 p11 p13)) := e_L7
    have hEF : FV.row [c0, c1, c2, c3, c4, c5, c6, c7] ≠ FV.row [c0, c1, c2, c3] := fun h => by
      have := FV.row.inj h
      have := congrArg List.length this
      exact absurd (show (8 : Nat) = 4 from this) (by decide)
    have hT : ∀ i, i < 7 → ThAt K a G14 (p7 p3 p4 p5 p8 p9 p11 p13 i) (k7 (FV.row [c0, c1, c2, c3, c4, c5, c6, c7]) (FV.row [c0, c1, c2, c3]) (FV.row [c0, c1, c2, c3, c4, c5, c6, c7, 300]) (FV.num c0) i).1 (k7 (FV.row [c0, c1, c2, c3, c4, c5, c6, c7]) (FV.row [c0, c1, c2, c3]) (FV.row [c0, c1, c2, c3, c4, c5, c6, c7, 300]) (FV.num c0) i).2.arg := fun i hi => by
      have ci : i = 0 ∨ i = 1 ∨ i = 2 ∨ i = 3 ∨ i = 4 ∨ i = 5 ∨ i = 6 := by omega
      rcases ci with rfl | rfl | rfl | rfl | rfl | rfl | rfl
      · exact h3
      · exact h4
      · exact h5
      · exact h8
      · exact h9
      · exact h11
      · exact h13
    refine ⟨_, rfl, L7, x7 p3 p4 p5 p8 p9 p11 p13, rfl, .inl (.inl e_L7), for_it (walk_enum (K := K) (a := L7) (xs := x7 p3 p4 p5 p8 p9 p11 p13)) (fun i st H1 => ∃ u5 u6 u7, st = [some (.ref S), u1, u2, some (.ref L), some (.ref L7), u5, u6, u7] ∧ Same G14 H1) ⟨_, _, _, rfl, Same.refl _⟩ (fun _ _ _ _ ⟨_, _, _, _, x⟩ => .inl (.inl (x _ _ e_L7))) ?_ ?_⟩
    · rintro i z st Ha Hb hi ⟨u5, u6, u7, rfl, x1⟩ ⟨Tp, x, y, rfl, hTp, rfl, ex, ey⟩
      have hi : i < 7 := hi
      have s2 := same_new (o := .tup [x, y]) (Same.refl Ha) hTp
      have eTp : (upd Ha Tp (.tup [x, y])) Tp = some (.tup [x, y]) := upd_same
      generalize upd Ha Tp (.tup [x, y]) = Hb at s2 eTp ⊢
      have x2 := x1.trans s2
      cases (show x = .int (i : Nat) from (Option.some.inj ex).symm)
      have ey : (x7 p3 p4 p5 p8 p9 p11 p13)[i]? = some y := ey
      rw [x7_at hi] at ey
      cases ey
      refine ⟨Tp, _, rfl, .inl (.inl eTp), rfl, _, _, rfl, _, _, rfl, rfl, ?_⟩
      refine ⟨_, rfl, L7, x7 p3 p4 p5 p8 p9 p11 p13, rfl, .inl (.inl (.inl (x2 _ _ e_L7))), (7 : Int), rfl, by decide, by decide, fun DL hDL => lc_it walk_range (fun j H' => H' DL = some (.lst (if i < j then [V.int (i : Nat)] else [])) ∧ Same Hb H') ⟨upd_same, same_new (Same.refl Hb) hDL⟩ (fun _ _ _ _ => True.intro) ?_ ?_⟩
      · rintro j z J1' J1 hj ⟨eDL, sJ⟩ ⟨rfl, rfl⟩
        have hj : j < 7 := hj
        have x3 := x2.trans sJ
        refine ⟨rfl, ?_⟩
        refine ⟨_, rfl, _, rfl, _, rfl, L7, _, _, _, rfl, rfl, .inl (.inl (x3 _ _ e_L7)), at_of (j := j) (by omega) (x7_at hj), eq_tt T (th_same (hT i hi) x3) (th_same (hT j hj) x3) fun J2 s4 => ⟨decide (i = j), congrArg V.bl (key7 hEF hi hj), ?_⟩⟩
        by_cases c : i = j
        · subst c
          rw [if_neg (Nat.lt_irrefl i)] at eDL
          rw [decide_eq_true rfl]
          refine iteT ⟨_, rfl, _, s4 _ _ eDL, by show 0 < sizeLine; decide, ?_, fun b o e => ?_⟩
          · rw [upd_same, if_pos (Nat.lt_succ_self i)]
            show some (HO.lst [V.int (0 + ((i : Nat) : Int))]) = _
            rw [show (0 : Int) + ((i : Nat) : Int) = ((i : Nat) : Int) by omega]
          · rw [upd_ne (ne_of_none e hDL)]
            exact s4 _ _ (sJ _ _ e)
        · rw [decide_eq_false c]
          refine iteF ⟨?_, sJ.trans s4⟩
          have e := s4 _ _ eDL
          by_cases d : i < j
          · rw [if_pos d] at e
            rw [if_pos (by omega)]
            exact e
          · rw [if_neg d] at e
            rw [if_neg (by omega)]
            exact e
      · rintro J1 ⟨eDL, sJ⟩
        rw [if_pos (show i < Int.toNat 7 from hi)] at eDL
        refine ⟨_, rfl, by show 1 ≤ sizeLine; decide, fun qk hqk => ?_⟩
        have s5 := same_new (o := .lst [V.int (i : Nat)]) (Same.refl J1) hqk
        have sh : SeqAt.shaped (.list [.int ((i : Nat) : Int)]) = true := rfl
        refine ⟨_, _, .lst (.inl (.inl (s5 _ _ eDL))) (.cons (.int _) .nil), .lst (.inl (.inl upd_same)) (.cons (.int _) .nil), sh, sh, false, congrArg V.bl (by rw [SeqAt.eqv_refl _ (SeqAt.canLay_of_shaped sh)]; rfl), iteF ?_⟩
        exact ⟨_, _, _, rfl, (x2.trans sJ).trans s5⟩
    rintro st Hz ⟨u5, u6, u7, rfl, xz⟩
    have gz := g14.same xz
    refine ⟨_, rfl, S, rfl, gz.src, gz.tab, fun H' b s t => ?_⟩
    exact k H' ⟨s, t, gz.but.trans b⟩
end
end G58

set_option Elab.async false
set_option linter.all false
set_option pp.maxSteps 2500
set_option maxRecDepth 100000
set_option maxHeartbeats 4000000
/-! k01: the law. -/
namespace G58
open PySem PySem.Spec PyProof.Rows L2 LamX
/-- xs + ys, each a list that is to be read -/
def rCatS (K : PySem.W.Frag) : R2 := fun x y H Q => ∃ l b xs zs, x = .ref l ∧ y = .ref b ∧ SqL K H l xs ∧ SqL K H b zs ∧ xs.length + zs.length ≤ sizeLine ∧ ∀ p, H p = none → Q (.ref p) (upd H p (.lst (xs ++ zs)))
theorem op_catS {X : Cx} : OpR X (binaryOp .Add) (rCatS X.K) := by
  intro pins s st H x y v u Q Iv rx ry h
  obtain ⟨l, b, xs, zs, rfl, rfl, hl, hb, hz, q⟩ := h
  cases rx
  cases ry
  obtain ⟨its, r, pl, _⟩ := Iv.list hl
  obtain ⟨its2, r2, pl2, _⟩ := Iv.list hb
  have e1 := r.length
  have e2 := r2.length
  obtain ⟨⟨cls, dd, data, sl⟩, ho, hc, n, hd⟩ := id pl.isList
  obtain ⟨⟨cls2, dd2, data2, sl2⟩, ho2, hc2, n2, hd2⟩ := id pl2.isList
  simp only at hc hd hc2 hd2
  subst hc hd hc2 hd2
  refine concat_meets ⟨_, ho, rfl⟩ ⟨_, ho2, rfl⟩ noFill_list_add seq_list_add PySem.F.slot_list_add PySem.F.entry_list_add (PySem.F.args_list_add_2 _ _)
    (list_addW l b its.toArray its2.toArray n n2 dd dd2 sl sl2 (by rw [List.size_toArray, List.size_toArray]; omega)) ⟨ho, ho2, ?_⟩
  rw [show its.toArray ++ its2.toArray = (its ++ its2).toArray from by simp]
  exact ⟨.ref _, _, Iv.lnew (t' := s.toks) (r.append r2) (by rw [List.length_append]; omega), rfl, q _ Iv.fresh⟩
theorem mem_cutV {xs : List V} {lo hi : Option Int} {x : V} (h : x ∈ cutV xs lo hi) : x ∈ xs := by
  unfold cutV at h
  exact List.mem_of_mem_drop (List.mem_of_mem_take h)
def spLaw (K : PySem.W.Frag) (pT : Addr) : Sp := fun vs H Q _ => ∃ (p : Addr) (ns : List Int), vs = [.ref p] ∧ SqL K H p (ns.map V.int) ∧ ns.length ≤ 63 ∧ H pT = some (.tbl #[]) ∧ ∀ H', Q (.bl true) H'
section
variable {P : Program} {w : World} {K : PySem.W.Frag} {mg : Str → Option Value} {base : Heap} {a : Ad}
theorem scLaw : FnScope ["_law_script", "_law_cell", "_law_source_here"] ["_law_script"] (defScope sLaw) := ⟨rfl, rfl, rfl, by decide +kernel, rfl, by decide +kernel, by decide +kernel⟩
theorem ok_law {f : Addr} {fd : FuncData} (F : Fun K "law" "law" sLaw f fd) (D : Df K a) (T : Txt K mg a) {c pT : Addr} (FC : FunC K "_law_made" "_law_made" sMad a.fMad D.dMad c) (TB : TabB base mg c pT) : FnG P w K mg base CX0 11 f fd ["_law_script"] (spLaw K pT) := by
  have GSrc : FnOk P w K mg base CX0 1 a.fSrc D.dSrc ["_law_cell"] spSrc := ok_src D T
  have GRgt : FnG P w K mg base CX0 10 a.fRgt D.dRgt ["_law_source_here"] (spRgt pT) := ok_rgt D T FC TB
  refine okG F scLaw (fun vs H Q E h => ?_) (fun cdv A outer s H vs Q E hgu hr h => ?_)
  · obtain ⟨p, ns, rfl, _⟩ := h
    rfl
  · obtain ⟨p, ns, rfl, hp, hl, hT, k⟩ := h
    have hr1 : Room 1 _ := hr.mono (by decide)
    refine ⟨_, (pss_cons (ps_for PassesOwn.never rfl (pi_list (pe_slice sl_list (pe_op op_catS (pv 0) (pe_lst (pa_cons pe_int pa_nil))) po_none (po_some pe_int))) (pg_name (i := 1) scLaw.nd rfl (.inl rfl)) (pss_cons (ps_set (i := 2) scLaw.nd rfl (.inl rfl) (pe_call GSrc hr1 rfl T.gSrc D.FSrc.kp D.bSrc .nil pass0 (pa_cons (pv 1) pa_nil))) (pss_one (ps_if (pt_not (pt_val (pe_callG hgu GRgt hr rfl T.gRgt D.FRgt.kp D.bRgt .nil pass0 (pa_cons (pv 2) pa_nil)))) (pss_one (ps_ret pe_bl)) pss_nil)))) (pss_one (ps_ret pe_bl))), ?_⟩
    refine ⟨_, rfl, by show 1 ≤ sizeLine; decide, fun l0 hl0 => ?_⟩
    have s0 : Same H (upd H l0 (.lst [.int 0])) := same_new (Same.refl H) hl0
    have t0 : Tabs [(pT, madQ)] H := fun q hq => by
      rw [List.mem_singleton.mp hq]
      exact TabS.nil hT
    refine ⟨p, l0, _, _, rfl, rfl, s0.seq hp, .inl (.inl upd_same), ?_, fun c1 hc1 => ⟨4, rfl, c1, _, rfl, .inl (.inl upd_same), fun s1 hs1 => ⟨s1, rfl, ⟨_, .inl (.inl upd_same)⟩, for_it (walk_list (K := K) (a := s1) (xs := cutV (ns.map V.int ++ [.int 0]) none (some 4)))
      (fun i st H1 => ∃ u1 u2, st = [some (.ref p), u1, u2] ∧ Tabs [(pT, madQ)] H1 ∧ H1 s1 = some (.lst (cutV (ns.map V.int ++ [.int 0]) none (some 4)))) ⟨_, _, rfl, ((t0.ext s0).ext (same_new (Same.refl _) hc1)).ext (same_new (Same.refl _) hs1), upd_same⟩ (fun i st H1 _ q => by
        obtain ⟨_, _, _, _, q⟩ := q
        exact .inl (.inl q)) ?_ ?_⟩⟩⟩
    · rw [List.length_map]
      show _ + 1 ≤ sizeLine
      exact Nat.le_trans (by omega : _ ≤ 100) (by decide)
    · rintro i x st H1' H1 hi ⟨u1, u2, rfl, t1, h1⟩ ⟨rfl, hx⟩
      obtain ⟨z, rfl⟩ : ∃ z, x = .int z := by
        rcases List.mem_append.mp (mem_cutV (List.mem_of_getElem? hx)) with m | m
        · obtain ⟨z, _, e⟩ := List.mem_map.mp m
          exact ⟨z, e.symm⟩
        · exact ⟨0, List.mem_singleton.mp m⟩
      refine ⟨_, rfl, z, rfl, fun S H2 hS0 s2 hS2 => ?_⟩
      exact ⟨_, rfl, S, rfl, ⟨hS2, t1.ext s2, ButT.refl S H2⟩, fun H3 f3 => ⟨true, rfl, iteF ⟨_, _, rfl, f3.tab, f3.but _ _ (s2 _ _ h1) (ne_of_none h1 hS0) fun ps z => nomatch z⟩⟩⟩
    · rintro st H0 ⟨u1, u2, rfl, -⟩
      exact k _
end
end G58

set_option Elab.async false
set_option linter.all false
set_option maxRecDepth 100000
set_option maxHeartbeats 8000000
/-! What the top has written. -/
namespace G58
open PySem PySem.Spec PyProof.Rows L2
theorem exm_sub {K : PySem.W.Frag} {E S : Addr} {b : Bool} (h1 : PySem.W.subIn K (.ref S) (.type "BaseException") = some true) (h2 : PySem.W.isClsIn K S = true) (h3 : PySem.W.typeIn K (.ref S) = some (.type "type")) (h4 : PySem.W.subIn K (.ref E) (.ref S) = some b) :
    PySem.W.exmOne K (.ref E) (.ref S) = some b := by
  have q2 : ((PySem.W.clsIn K S).isSome && PySem.W.typeIn K (.ref S) == some (.type "type")) = true := by
    have z : (PySem.W.clsIn K S).isSome = true := h2
    rw [z, h3]
    rfl
  have q1 : (PySem.W.subIn K (.ref S) (.type "BaseException") == some true) = true := by
    rw [h1]
    rfl
  show (if (PySem.W.subIn K (.ref S) (.type "BaseException") == some true) = true then (if ((PySem.W.clsIn K S).isSome && PySem.W.typeIn K (.ref S) == some (.type "type")) = true then PySem.W.subIn K (.ref E) (.ref S) else none) else none) = some b
  rw [if_pos q1, if_pos q2]
  exact h4
theorem all_mk {l : PySem.W.OpenLaw} {w : World} {K : PySem.W.Frag} {h : Heap} {mg : Str → Option Value} {fa : Addr} (X : K.In h) (G : h.Ns mainGlobals mg) (hfa : mg "law" = some (.ref fa))
    {cNoValue cWide cData cUid cReal cDate cThing cNestError : Addr}
    {f_iV : Addr}
    {f_Eq : Addr}
    {f_Isi : Addr}
    {f_Isb : Addr}
    {f_Arb : Addr}
    {f_Arp : Addr}
    {f_Ref : Addr}
    {f_iW : Addr}
    {f_CnW : Addr}
    {f_FaW : Addr}
    {f_iD : Addr}
    {f_CnD : Addr}
    {f_FaD : Addr}
    {f_iU : Addr}
    {f_CnU : Addr}
    {f_FaU : Addr}
    {f_iR : Addr}
    {f_CnR : Addr}
    {f_FaR : Addr}
    {f_iT : Addr}
    {f_CnT : Addr}
    {f_FaT : Addr}
    {f_Src : Addr}
    {f_Drw : Addr}
    {f_Pik : Addr}
    {f_Oct : Addr}
    {f_Uni : Addr}
    {f_Mad : Addr}
    {f_Fld : Addr}
    {f_Drn : Addr}
    {f_Rfd : Addr}
    {f_Odd : Addr}
    {f_One : Addr}
    {f_Rgt : Addr}
    {f_Law : Addr}
    (aC_NoValue : PySem.W.nsIn K mainGlobals "NoValue" = some (some (.ref cNoValue)))
    (aC_Wide : PySem.W.nsIn K mainGlobals "Wide" = some (some (.ref cWide)))
    (aC_Data : PySem.W.nsIn K mainGlobals "Data" = some (some (.ref cData)))
    (aC_Uid : PySem.W.nsIn K mainGlobals "Uid" = some (some (.ref cUid)))
    (aC_Real : PySem.W.nsIn K mainGlobals "Real" = some (some (.ref cReal)))
    (aC_Date : PySem.W.nsIn K mainGlobals "Date" = some (some (.ref cDate)))
    (aC_Thing : PySem.W.nsIn K mainGlobals "Thing" = some (some (.ref cThing)))
    (aC_NestError : PySem.W.nsIn K mainGlobals "NestError" = some (some (.ref cNestError)))
    (x_NoValue : OexC K cNoValue)
    (f_NoValue : XfC K cNoValue)
    (no_NoValue_path : PySem.W.findIn K (.ref cNoValue) "path" = some none)
    (iC_NoValue_NoValue : PySem.W.isClsIn K cNoValue = true)
    (s_NoValue_NoValue : PySem.W.subIn K (.ref cNoValue) (.ref cNoValue) = some true)
    (mk_Wide : PySem.W.makesIn K cWide = true)
    (kC_Wide : PySem.W.keepIn K (.ref cWide) = true)
    (pg_Wide : PySem.W.plainGet K cWide Str.empty = true)
    (hd_Wide : PySem.W.hasDictIn K cWide = true)
    (po_Wide : PySem.W.plainOver K cWide = true)
    (sa_Wide : PySem.W.findIn K (.ref cWide) "__setattr__" = some (some (.builtin "object.__setattr__")))
    (n_Wide_units : PySem.W.findIn K (.ref cWide) "units" = some none)
    (mk_Data : PySem.W.makesIn K cData = true)
    (kC_Data : PySem.W.keepIn K (.ref cData) = true)
    (pg_Data : PySem.W.plainGet K cData Str.empty = true)
    (hd_Data : PySem.W.hasDictIn K cData = true)
    (po_Data : PySem.W.plainOver K cData = true)
    (sa_Data : PySem.W.findIn K (.ref cData) "__setattr__" = some (some (.builtin "object.__setattr__")))
    (n_Data_octets : PySem.W.findIn K (.ref cData) "octets" = some none)
    (mk_Uid : PySem.W.makesIn K cUid = true)
    (kC_Uid : PySem.W.keepIn K (.ref cUid) = true)
    (pg_Uid : PySem.W.plainGet K cUid Str.empty = true)
    (hd_Uid : PySem.W.hasDictIn K cUid = true)
    (po_Uid : PySem.W.plainOver K cUid = true)
    (sa_Uid : PySem.W.findIn K (.ref cUid) "__setattr__" = some (some (.builtin "object.__setattr__")))
    (n_Uid_number : PySem.W.findIn K (.ref cUid) "number" = some none)
    (mk_Real : PySem.W.makesIn K cReal = true)
    (kC_Real : PySem.W.keepIn K (.ref cReal) = true)
    (pg_Real : PySem.W.plainGet K cReal Str.empty = true)
    (hd_Real : PySem.W.hasDictIn K cReal = true)
    (po_Real : PySem.W.plainOver K cReal = true)
    (sa_Real : PySem.W.findIn K (.ref cReal) "__setattr__" = some (some (.builtin "object.__setattr__")))
    (n_Real_octets : PySem.W.findIn K (.ref cReal) "octets" = some none)
    (mk_Date : PySem.W.makesIn K cDate = true)
    (kC_Date : PySem.W.keepIn K (.ref cDate) = true)
    (pg_Date : PySem.W.plainGet K cDate Str.empty = true)
    (hd_Date : PySem.W.hasDictIn K cDate = true)
    (po_Date : PySem.W.plainOver K cDate = true)
    (sa_Date : PySem.W.findIn K (.ref cDate) "__setattr__" = some (some (.builtin "object.__setattr__")))
    (n_Date_octets : PySem.W.findIn K (.ref cDate) "octets" = some none)
    (a_iV : PySem.W.findIn K (.ref cNoValue) "__init__" = some (some (.ref f_iV)))
    (t_iV : PySem.W.typeIn K (.ref f_iV) = some (.type "function"))
    (E_iV : ∃ fd, Fun K "__init__" "NoValue.__init__" siV f_iV fd)
    (a_Eq : PySem.W.findIn K (.ref cThing) "__eq__" = some (some (.ref f_Eq)))
    (i_Eq : PySem.W.isFn K (.ref f_Eq) = true)
    (E_Eq : ∃ fd, Fun K "__eq__" "Thing.__eq__" sEq f_Eq fd)
    (a_Isi : PySem.W.nsIn K mainGlobals "is_integer" = some (some (.ref f_Isi)))
    (E_Isi : ∃ fd, Fun K "is_integer" "is_integer" sIsi f_Isi fd)
    (a_Isb : PySem.W.nsIn K mainGlobals "is_between" = some (some (.ref f_Isb)))
    (E_Isb : ∃ fd, Fun K "is_between" "is_between" sIsb f_Isb fd)
    (a_Arb : PySem.W.nsIn K mainGlobals "are_between" = some (some (.ref f_Arb)))
    (E_Arb : ∃ fd, Fun K "are_between" "are_between" sArb f_Arb fd)
    (a_Arp : PySem.W.nsIn K mainGlobals "are_plain" = some (some (.ref f_Arp)))
    (E_Arp : ∃ fd, Fun K "are_plain" "are_plain" sArp f_Arp fd)
    (a_Ref : PySem.W.nsIn K mainGlobals "refuse" = some (some (.ref f_Ref)))
    (E_Ref : ∃ fd, Fun K "refuse" "refuse" sRef f_Ref fd)
    (a_iW : PySem.W.findIn K (.ref cWide) "__init__" = some (some (.ref f_iW)))
    (i_iW : PySem.W.isFn K (.ref f_iW) = true)
    (E_iW : ∃ fd, Fun K "__init__" "Wide.__init__" siW f_iW fd)
    (a_CnW : PySem.W.findIn K (.ref cWide) "class_name" = some (some (.ref f_CnW)))
    (i_CnW : PySem.W.isFn K (.ref f_CnW) = true)
    (E_CnW : ∃ fd, Fun K "class_name" "Wide.class_name" sCnW f_CnW fd)
    (a_FaW : PySem.W.findIn K (.ref cWide) "facts" = some (some (.ref f_FaW)))
    (i_FaW : PySem.W.isFn K (.ref f_FaW) = true)
    (E_FaW : ∃ fd, Fun K "facts" "Wide.facts" sFaW f_FaW fd)
    (a_iD : PySem.W.findIn K (.ref cData) "__init__" = some (some (.ref f_iD)))
    (i_iD : PySem.W.isFn K (.ref f_iD) = true)
    (E_iD : ∃ fd, Fun K "__init__" "Data.__init__" siD f_iD fd)
    (a_CnD : PySem.W.findIn K (.ref cData) "class_name" = some (some (.ref f_CnD)))
    (i_CnD : PySem.W.isFn K (.ref f_CnD) = true)
    (E_CnD : ∃ fd, Fun K "class_name" "Data.class_name" sCnD f_CnD fd)
    (a_FaD : PySem.W.findIn K (.ref cData) "facts" = some (some (.ref f_FaD)))
    (i_FaD : PySem.W.isFn K (.ref f_FaD) = true)
    (E_FaD : ∃ fd, Fun K "facts" "Data.facts" sFaD f_FaD fd)
    (a_iU : PySem.W.findIn K (.ref cUid) "__init__" = some (some (.ref f_iU)))
    (i_iU : PySem.W.isFn K (.ref f_iU) = true)
    (E_iU : ∃ fd, Fun K "__init__" "Uid.__init__" siU f_iU fd)
    (a_CnU : PySem.W.findIn K (.ref cUid) "class_name" = some (some (.ref f_CnU)))
    (i_CnU : PySem.W.isFn K (.ref f_CnU) = true)
    (E_CnU : ∃ fd, Fun K "class_name" "Uid.class_name" sCnU f_CnU fd)
    (a_FaU : PySem.W.findIn K (.ref cUid) "facts" = some (some (.ref f_FaU)))
    (i_FaU : PySem.W.isFn K (.ref f_FaU) = true)
    (E_FaU : ∃ fd, Fun K "facts" "Uid.facts" sFaU f_FaU fd)
    (a_iR : PySem.W.findIn K (.ref cReal) "__init__" = some (some (.ref f_iR)))
    (i_iR : PySem.W.isFn K (.ref f_iR) = true)
    (E_iR : ∃ fd, Fun K "__init__" "Real.__init__" siR f_iR fd)
    (a_CnR : PySem.W.findIn K (.ref cReal) "class_name" = some (some (.ref f_CnR)))
    (i_CnR : PySem.W.isFn K (.ref f_CnR) = true)
    (E_CnR : ∃ fd, Fun K "class_name" "Real.class_name" sCnR f_CnR fd)
    (a_FaR : PySem.W.findIn K (.ref cReal) "facts" = some (some (.ref f_FaR)))
    (i_FaR : PySem.W.isFn K (.ref f_FaR) = true)
    (E_FaR : ∃ fd, Fun K "facts" "Real.facts" sFaR f_FaR fd)
    (a_iT : PySem.W.findIn K (.ref cDate) "__init__" = some (some (.ref f_iT)))
    (i_iT : PySem.W.isFn K (.ref f_iT) = true)
    (E_iT : ∃ fd, Fun K "__init__" "Date.__init__" siT f_iT fd)
    (a_CnT : PySem.W.findIn K (.ref cDate) "class_name" = some (some (.ref f_CnT)))
    (i_CnT : PySem.W.isFn K (.ref f_CnT) = true)
    (E_CnT : ∃ fd, Fun K "class_name" "Date.class_name" sCnT f_CnT fd)
    (a_FaT : PySem.W.findIn K (.ref cDate) "facts" = some (some (.ref f_FaT)))
    (i_FaT : PySem.W.isFn K (.ref f_FaT) = true)
    (E_FaT : ∃ fd, Fun K "facts" "Date.facts" sFaT f_FaT fd)
    (a_Src : PySem.W.nsIn K mainGlobals "_law_source" = some (some (.ref f_Src)))
    (E_Src : ∃ fd, Fun K "_law_source" "_law_source" sSrc f_Src fd)
    (a_Drw : PySem.W.nsIn K mainGlobals "_law_draw" = some (some (.ref f_Drw)))
    (E_Drw : ∃ fd, Fun K "_law_draw" "_law_draw" sDrw f_Drw fd)
    (a_Pik : PySem.W.nsIn K mainGlobals "_law_pick" = some (some (.ref f_Pik)))
    (E_Pik : ∃ fd, Fun K "_law_pick" "_law_pick" sPik f_Pik fd)
    (a_Oct : PySem.W.nsIn K mainGlobals "_law_octets" = some (some (.ref f_Oct)))
    (E_Oct : ∃ fd, Fun K "_law_octets" "_law_octets" sOct f_Oct fd)
    (a_Uni : PySem.W.nsIn K mainGlobals "_law_units" = some (some (.ref f_Uni)))
    (E_Uni : ∃ fd, Fun K "_law_units" "_law_units" sUni f_Uni fd)
    (a_Mad : PySem.W.nsIn K mainGlobals "_law_made" = some (some (.ref f_Mad)))
    (E_Mad : ∃ fd, Fun K "_law_made" "_law_made" sMad f_Mad fd)
    (a_Fld : PySem.W.nsIn K mainGlobals "_law_field" = some (some (.ref f_Fld)))
    (E_Fld : ∃ fd, Fun K "_law_field" "_law_field" sFld f_Fld fd)
    (a_Drn : PySem.W.nsIn K mainGlobals "_law_drawn" = some (some (.ref f_Drn)))
    (E_Drn : ∃ fd, Fun K "_law_drawn" "_law_drawn" sDrn f_Drn fd)
    (a_Rfd : PySem.W.nsIn K mainGlobals "_law_refused" = some (some (.ref f_Rfd)))
    (E_Rfd : ∃ fd, Fun K "_law_refused" "_law_refused" sRfd f_Rfd fd)
    (a_Odd : PySem.W.nsIn K mainGlobals "_law_odd_right" = some (some (.ref f_Odd)))
    (E_Odd : ∃ fd, Fun K "_law_odd_right" "_law_odd_right" sOdd f_Odd fd)
    (a_One : PySem.W.nsIn K mainGlobals "_law_one_right" = some (some (.ref f_One)))
    (E_One : ∃ fd, Fun K "_law_one_right" "_law_one_right" sOne f_One fd)
    (a_Rgt : PySem.W.nsIn K mainGlobals "_law_right" = some (some (.ref f_Rgt)))
    (E_Rgt : ∃ fd, Fun K "_law_right" "_law_right" sRgt f_Rgt fd)
    (a_Law : PySem.W.nsIn K mainGlobals "law" = some (some (.ref f_Law)))
    (E_Law : ∃ fd, Fun K "law" "law" sLaw f_Law fd)
    (z_len : PySem.W.nsIn K mainGlobals "len" = some none)
    (z_isinstance : PySem.W.nsIn K mainGlobals "isinstance" = some none)
    (z_str : PySem.W.nsIn K mainGlobals "str" = some none)
    (z_int : PySem.W.nsIn K mainGlobals "int" = some none)
    (z_bool : PySem.W.nsIn K mainGlobals "bool" = some none)
    (z_abs : PySem.W.nsIn K mainGlobals "abs" = some none)
    (z_range : PySem.W.nsIn K mainGlobals "range" = some none)
    (z_list : PySem.W.nsIn K mainGlobals "list" = some none)
    (z_tuple : PySem.W.nsIn K mainGlobals "tuple" = some none)
    (z_all : PySem.W.nsIn K mainGlobals "all" = some none)
    (z_repr : PySem.W.nsIn K mainGlobals "repr" = some none)
    (z_enumerate : PySem.W.nsIn K mainGlobals "enumerate" = some none)
    (q_GREATEST : ∃ t, PySem.W.nsIn K mainGlobals "GREATEST" = some (some (.int 18446744073709551615 t)))
    (e_hn : PySem.W.specialIn K (.builtin "object.__class__") "__get__" = some (some (.builtin "getset_descriptor.__get__")))
    (e_htk : PySem.W.takesIn K (.builtin "object.__class__") = some true)
    (e_fnEq : PySem.W.isFn K (.ref f_Eq) = true)
    (e_th_NoneType : PySem.W.kitOne K (.type "NoneType") (.ref cThing) = some false)
    (e_th_int : PySem.W.kitOne K (.type "int") (.ref cThing) = some false)
    (e_th_str : PySem.W.kitOne K (.type "str") (.ref cThing) = some false)
    (e_th_list : PySem.W.kitOne K (.type "list") (.ref cThing) = some false)
    (e_th_tuple : PySem.W.kitOne K (.type "tuple") (.ref cThing) = some false)
    (e_eqWide : PySem.W.findIn K (.ref cWide) "__eq__" = some (some (.ref f_Eq)))
    (e_neWide : PySem.W.findIn K (.ref cWide) "__ne__" = some (some (.builtin "object.__ne__")))
    (e_haWide : PySem.W.findIn K (.ref cWide) "__class__" = some (some (.builtin "object.__class__")))
    (e_hmWide : PySem.W.mroIn K cWide (.type "object") = some true)
    (e_thWide : PySem.W.kitOne K (.ref cWide) (.ref cThing) = some true)
    (e_nfWide_NoneType : PySem.W.notFirst K cWide (.type "NoneType") = true)
    (e_nfWide_int : PySem.W.notFirst K cWide (.type "int") = true)
    (e_nfWide_str : PySem.W.notFirst K cWide (.type "str") = true)
    (e_nfWide_list : PySem.W.notFirst K cWide (.type "list") = true)
    (e_nfWide_tuple : PySem.W.notFirst K cWide (.type "tuple") = true)
    (e_nfWide_Wide : PySem.W.notFirst K cWide (.ref cWide) = true)
    (e_nfWide_Data : PySem.W.notFirst K cWide (.ref cData) = true)
    (e_nfWide_Uid : PySem.W.notFirst K cWide (.ref cUid) = true)
    (e_nfWide_Real : PySem.W.notFirst K cWide (.ref cReal) = true)
    (e_nfWide_Date : PySem.W.notFirst K cWide (.ref cDate) = true)
    (e_eqData : PySem.W.findIn K (.ref cData) "__eq__" = some (some (.ref f_Eq)))
    (e_neData : PySem.W.findIn K (.ref cData) "__ne__" = some (some (.builtin "object.__ne__")))
    (e_haData : PySem.W.findIn K (.ref cData) "__class__" = some (some (.builtin "object.__class__")))
    (e_hmData : PySem.W.mroIn K cData (.type "object") = some true)
    (e_thData : PySem.W.kitOne K (.ref cData) (.ref cThing) = some true)
    (e_nfData_NoneType : PySem.W.notFirst K cData (.type "NoneType") = true)
    (e_nfData_int : PySem.W.notFirst K cData (.type "int") = true)
    (e_nfData_str : PySem.W.notFirst K cData (.type "str") = true)
    (e_nfData_list : PySem.W.notFirst K cData (.type "list") = true)
    (e_nfData_tuple : PySem.W.notFirst K cData (.type "tuple") = true)
    (e_nfData_Wide : PySem.W.notFirst K cData (.ref cWide) = true)
    (e_nfData_Data : PySem.W.notFirst K cData (.ref cData) = true)
    (e_nfData_Uid : PySem.W.notFirst K cData (.ref cUid) = true)
    (e_nfData_Real : PySem.W.notFirst K cData (.ref cReal) = true)
    (e_nfData_Date : PySem.W.notFirst K cData (.ref cDate) = true)
    (e_eqUid : PySem.W.findIn K (.ref cUid) "__eq__" = some (some (.ref f_Eq)))
    (e_neUid : PySem.W.findIn K (.ref cUid) "__ne__" = some (some (.builtin "object.__ne__")))
    (e_haUid : PySem.W.findIn K (.ref cUid) "__class__" = some (some (.builtin "object.__class__")))
    (e_hmUid : PySem.W.mroIn K cUid (.type "object") = some true)
    (e_thUid : PySem.W.kitOne K (.ref cUid) (.ref cThing) = some true)
    (e_nfUid_NoneType : PySem.W.notFirst K cUid (.type "NoneType") = true)
    (e_nfUid_int : PySem.W.notFirst K cUid (.type "int") = true)
    (e_nfUid_str : PySem.W.notFirst K cUid (.type "str") = true)
    (e_nfUid_list : PySem.W.notFirst K cUid (.type "list") = true)
    (e_nfUid_tuple : PySem.W.notFirst K cUid (.type "tuple") = true)
    (e_nfUid_Wide : PySem.W.notFirst K cUid (.ref cWide) = true)
    (e_nfUid_Data : PySem.W.notFirst K cUid (.ref cData) = true)
    (e_nfUid_Uid : PySem.W.notFirst K cUid (.ref cUid) = true)
    (e_nfUid_Real : PySem.W.notFirst K cUid (.ref cReal) = true)
    (e_nfUid_Date : PySem.W.notFirst K cUid (.ref cDate) = true)
    (e_eqReal : PySem.W.findIn K (.ref cReal) "__eq__" = some (some (.ref f_Eq)))
    (e_neReal : PySem.W.findIn K (.ref cReal) "__ne__" = some (some (.builtin "object.__ne__")))
    (e_haReal : PySem.W.findIn K (.ref cReal) "__class__" = some (some (.builtin "object.__class__")))
    (e_hmReal : PySem.W.mroIn K cReal (.type "object") = some true)
    (e_thReal : PySem.W.kitOne K (.ref cReal) (.ref cThing) = some true)
    (e_nfReal_NoneType : PySem.W.notFirst K cReal (.type "NoneType") = true)
    (e_nfReal_int : PySem.W.notFirst K cReal (.type "int") = true)
    (e_nfReal_str : PySem.W.notFirst K cReal (.type "str") = true)
    (e_nfReal_list : PySem.W.notFirst K cReal (.type "list") = true)
    (e_nfReal_tuple : PySem.W.notFirst K cReal (.type "tuple") = true)
    (e_nfReal_Wide : PySem.W.notFirst K cReal (.ref cWide) = true)
    (e_nfReal_Data : PySem.W.notFirst K cReal (.ref cData) = true)
    (e_nfReal_Uid : PySem.W.notFirst K cReal (.ref cUid) = true)
    (e_nfReal_Real : PySem.W.notFirst K cReal (.ref cReal) = true)
    (e_nfReal_Date : PySem.W.notFirst K cReal (.ref cDate) = true)
    (e_eqDate : PySem.W.findIn K (.ref cDate) "__eq__" = some (some (.ref f_Eq)))
    (e_neDate : PySem.W.findIn K (.ref cDate) "__ne__" = some (some (.builtin "object.__ne__")))
    (e_haDate : PySem.W.findIn K (.ref cDate) "__class__" = some (some (.builtin "object.__class__")))
    (e_hmDate : PySem.W.mroIn K cDate (.type "object") = some true)
    (e_thDate : PySem.W.kitOne K (.ref cDate) (.ref cThing) = some true)
    (e_nfDate_NoneType : PySem.W.notFirst K cDate (.type "NoneType") = true)
    (e_nfDate_int : PySem.W.notFirst K cDate (.type "int") = true)
    (e_nfDate_str : PySem.W.notFirst K cDate (.type "str") = true)
    (e_nfDate_list : PySem.W.notFirst K cDate (.type "list") = true)
    (e_nfDate_tuple : PySem.W.notFirst K cDate (.type "tuple") = true)
    (e_nfDate_Wide : PySem.W.notFirst K cDate (.ref cWide) = true)
    (e_nfDate_Data : PySem.W.notFirst K cDate (.ref cData) = true)
    (e_nfDate_Uid : PySem.W.notFirst K cDate (.ref cUid) = true)
    (e_nfDate_Real : PySem.W.notFirst K cDate (.ref cReal) = true)
    (e_nfDate_Date : PySem.W.notFirst K cDate (.ref cDate) = true)
    (tab_at : He.fAd K ("_law_made", none) = f_Mad) (tab_hd : PySem.W.codeHdIn K (He.cT K ("_law_made", none)).1 (He.cT K ("_law_made", none)).2 = true) (tab_out : K.lookup (He.cT K ("_law_made", none)).2 = none)
    (tab_empty : h.get? (He.cT K ("_law_made", none)).2 = some { cls := .none, data := .fields #[] }) :
    LawGT l w K 11 63 "_law_script" mg fa h := by
  have e := hfa.symm.trans (PySem.W.mg_of X G a_Law)
  cases e
  obtain ⟨d_iV, F_iV⟩ := E_iV
  have b_iV := F_iV.binds (ps := ["self", "path"]) fun _ _ _ _ _ _ us hl => match us, hl with | [_, _], _ => rfl
  obtain ⟨d_Eq, F_Eq⟩ := E_Eq
  have b_Eq := F_Eq.binds (ps := ["self", "other"]) fun _ _ _ _ _ _ us hl => match us, hl with | [_, _], _ => rfl
  obtain ⟨d_Isi, F_Isi⟩ := E_Isi
  have b_Isi := F_Isi.binds (ps := ["thing"]) fun _ _ _ _ _ _ us hl => match us, hl with | [_], _ => rfl
  obtain ⟨d_Isb, F_Isb⟩ := E_Isb
  have b_Isb := F_Isb.binds (ps := ["thing", "least", "most"]) fun _ _ _ _ _ _ us hl => match us, hl with | [_, _, _], _ => rfl
  obtain ⟨d_Arb, F_Arb⟩ := E_Arb
  have b_Arb := F_Arb.binds (ps := ["things", "least", "most"]) fun _ _ _ _ _ _ us hl => match us, hl with | [_, _, _], _ => rfl
  obtain ⟨d_Arp, F_Arp⟩ := E_Arp
  have b_Arp := F_Arp.binds (ps := ["units"]) fun _ _ _ _ _ _ us hl => match us, hl with | [_], _ => rfl
  obtain ⟨d_Ref, F_Ref⟩ := E_Ref
  have b_Ref := F_Ref.binds (ps := ["is_good"]) fun _ _ _ _ _ _ us hl => match us, hl with | [_], _ => rfl
  obtain ⟨d_iW, F_iW⟩ := E_iW
  have b_iW := F_iW.binds (ps := ["self", "units"]) fun _ _ _ _ _ _ us hl => match us, hl with | [_, _], _ => rfl
  obtain ⟨d_CnW, F_CnW⟩ := E_CnW
  have b_CnW := F_CnW.binds (ps := ["self"]) fun _ _ _ _ _ _ us hl => match us, hl with | [_], _ => rfl
  obtain ⟨d_FaW, F_FaW⟩ := E_FaW
  have b_FaW := F_FaW.binds (ps := ["self"]) fun _ _ _ _ _ _ us hl => match us, hl with | [_], _ => rfl
  obtain ⟨d_iD, F_iD⟩ := E_iD
  have b_iD := F_iD.binds (ps := ["self", "octets"]) fun _ _ _ _ _ _ us hl => match us, hl with | [_, _], _ => rfl
  obtain ⟨d_CnD, F_CnD⟩ := E_CnD
  have b_CnD := F_CnD.binds (ps := ["self"]) fun _ _ _ _ _ _ us hl => match us, hl with | [_], _ => rfl
  obtain ⟨d_FaD, F_FaD⟩ := E_FaD
  have b_FaD := F_FaD.binds (ps := ["self"]) fun _ _ _ _ _ _ us hl => match us, hl with | [_], _ => rfl
  obtain ⟨d_iU, F_iU⟩ := E_iU
  have b_iU := F_iU.binds (ps := ["self", "number"]) fun _ _ _ _ _ _ us hl => match us, hl with | [_, _], _ => rfl
  obtain ⟨d_CnU, F_CnU⟩ := E_CnU
  have b_CnU := F_CnU.binds (ps := ["self"]) fun _ _ _ _ _ _ us hl => match us, hl with | [_], _ => rfl
  obtain ⟨d_FaU, F_FaU⟩ := E_FaU
  have b_FaU := F_FaU.binds (ps := ["self"]) fun _ _ _ _ _ _ us hl => match us, hl with | [_], _ => rfl
  obtain ⟨d_iR, F_iR⟩ := E_iR
  have b_iR := F_iR.binds (ps := ["self", "octets"]) fun _ _ _ _ _ _ us hl => match us, hl with | [_, _], _ => rfl
  obtain ⟨d_CnR, F_CnR⟩ := E_CnR
  have b_CnR := F_CnR.binds (ps := ["self"]) fun _ _ _ _ _ _ us hl => match us, hl with | [_], _ => rfl
  obtain ⟨d_FaR, F_FaR⟩ := E_FaR
  have b_FaR := F_FaR.binds (ps := ["self"]) fun _ _ _ _ _ _ us hl => match us, hl with | [_], _ => rfl
  obtain ⟨d_iT, F_iT⟩ := E_iT
  have b_iT := F_iT.binds (ps := ["self", "octets"]) fun _ _ _ _ _ _ us hl => match us, hl with | [_, _], _ => rfl
  obtain ⟨d_CnT, F_CnT⟩ := E_CnT
  have b_CnT := F_CnT.binds (ps := ["self"]) fun _ _ _ _ _ _ us hl => match us, hl with | [_], _ => rfl
  obtain ⟨d_FaT, F_FaT⟩ := E_FaT
  have b_FaT := F_FaT.binds (ps := ["self"]) fun _ _ _ _ _ _ us hl => match us, hl with | [_], _ => rfl
  obtain ⟨d_Src, F_Src⟩ := E_Src
  have b_Src := F_Src.binds (ps := ["_law_cell"]) fun _ _ _ _ _ _ us hl => match us, hl with | [_], _ => rfl
  obtain ⟨d_Drw, F_Drw⟩ := E_Drw
  have b_Drw := F_Drw.binds (ps := ["_law_source_here", "_law_many"]) fun _ _ _ _ _ _ us hl => match us, hl with | [_, _], _ => rfl
  obtain ⟨d_Pik, F_Pik⟩ := E_Pik
  have b_Pik := F_Pik.binds (ps := ["_law_source_here", "_law_items"]) fun _ _ _ _ _ _ us hl => match us, hl with | [_, _], _ => rfl
  obtain ⟨d_Oct, F_Oct⟩ := E_Oct
  have b_Oct := F_Oct.binds (ps := ["_law_source_here", "_law_many"]) fun _ _ _ _ _ _ us hl => match us, hl with | [_, _], _ => rfl
  obtain ⟨d_Uni, F_Uni⟩ := E_Uni
  have b_Uni := F_Uni.binds (ps := ["_law_source_here"]) fun _ _ _ _ _ _ us hl => match us, hl with | [_], _ => rfl
  obtain ⟨d_Mad, F_Mad⟩ := E_Mad
  have b_Mad := F_Mad.binds (ps := ["_law_way", "_law_some", "_law_is_named"]) fun _ _ _ _ _ _ us hl => match us, hl with | [_, _, _], _ => rfl
  obtain ⟨d_Fld, F_Fld⟩ := E_Fld
  have b_Fld := F_Fld.binds (ps := ["_law_way", "_law_thing"]) fun _ _ _ _ _ _ us hl => match us, hl with | [_, _], _ => rfl
  obtain ⟨d_Drn, F_Drn⟩ := E_Drn
  have b_Drn := F_Drn.binds (ps := ["_law_source_here", "_law_way"]) fun _ _ _ _ _ _ us hl => match us, hl with | [_, _], _ => rfl
  obtain ⟨d_Rfd, F_Rfd⟩ := E_Rfd
  have b_Rfd := F_Rfd.binds (ps := ["_law_way", "_law_some"]) fun _ _ _ _ _ _ us hl => match us, hl with | [_, _], _ => rfl
  obtain ⟨d_Odd, F_Odd⟩ := E_Odd
  have b_Odd := F_Odd.binds (ps := ["_law_source_here"]) fun _ _ _ _ _ _ us hl => match us, hl with | [_], _ => rfl
  obtain ⟨d_One, F_One⟩ := E_One
  have b_One := F_One.binds (ps := ["_law_source_here", "_law_way"]) fun _ _ _ _ _ _ us hl => match us, hl with | [_, _], _ => rfl
  obtain ⟨d_Rgt, F_Rgt⟩ := E_Rgt
  have b_Rgt := F_Rgt.binds (ps := ["_law_source_here"]) fun _ _ _ _ _ _ us hl => match us, hl with | [_], _ => rfl
  obtain ⟨d_Law, F_Law⟩ := E_Law
  obtain ⟨tq_GREATEST, q_GREATEST⟩ := q_GREATEST
  have M := fun {n : Str} {v : Value} (q : PySem.W.nsIn K mainGlobals n = some (some v)) => PySem.W.mg_of X G q
  have M0 := fun {n : Str} (q : PySem.W.nsIn K mainGlobals n = some none) => PySem.W.mg_none_of X G q
  let a : Ad := ⟨cNoValue, cWide, cData, cUid, cReal, cDate, cThing, cNestError, f_iV, f_Eq, f_Isi, f_Isb, f_Arb, f_Arp, f_Ref, f_iW, f_CnW, f_FaW, f_iD, f_CnD, f_FaD, f_iU, f_CnU, f_FaU, f_iR, f_CnR, f_FaR, f_iT, f_CnT, f_FaT, f_Src, f_Drw, f_Pik, f_Oct, f_Uni, f_Mad, f_Fld, f_Drn, f_Rfd, f_Odd, f_One, f_Rgt⟩
  have T : Txt K mg a := ⟨⟨x_NoValue, f_NoValue, a_iV, t_iV⟩, no_NoValue_path, ⟨mk_Wide, a_iW, i_iW, kC_Wide⟩, ⟨pg_Wide, hd_Wide, po_Wide, sa_Wide⟩, n_Wide_units, ⟨a_CnW, i_CnW, F_CnW.kp⟩, ⟨a_FaW, i_FaW, F_FaW.kp⟩, ⟨mk_Data, a_iD, i_iD, kC_Data⟩, ⟨pg_Data, hd_Data, po_Data, sa_Data⟩, n_Data_octets, ⟨a_CnD, i_CnD, F_CnD.kp⟩, ⟨a_FaD, i_FaD, F_FaD.kp⟩, ⟨mk_Uid, a_iU, i_iU, kC_Uid⟩, ⟨pg_Uid, hd_Uid, po_Uid, sa_Uid⟩, n_Uid_number, ⟨a_CnU, i_CnU, F_CnU.kp⟩, ⟨a_FaU, i_FaU, F_FaU.kp⟩, ⟨mk_Real, a_iR, i_iR, kC_Real⟩, ⟨pg_Real, hd_Real, po_Real, sa_Real⟩, n_Real_octets, ⟨a_CnR, i_CnR, F_CnR.kp⟩, ⟨a_FaR, i_FaR, F_FaR.kp⟩, ⟨mk_Date, a_iT, i_iT, kC_Date⟩, ⟨pg_Date, hd_Date, po_Date, sa_Date⟩, n_Date_octets, ⟨a_CnT, i_CnT, F_CnT.kp⟩, ⟨a_FaT, i_FaT, F_FaT.kp⟩, M aC_NoValue, M aC_Wide, M aC_Data, M aC_Uid, M aC_Real, M aC_Date, M aC_Thing, M aC_NestError, M a_Isi, M a_Isb, M a_Arb, M a_Arp, M a_Ref, M a_Src, M a_Drw, M a_Pik, M a_Oct, M a_Uni, M a_Mad, M a_Fld, M a_Drn, M a_Rfd, M a_Odd, M a_One, M a_Rgt, ⟨_, M q_GREATEST⟩, M0 z_len, M0 z_isinstance, M0 z_str, M0 z_int, M0 z_bool, M0 z_abs, M0 z_range, M0 z_list, M0 z_tuple, M0 z_all, M0 z_repr, M0 z_enumerate, exm_sub x_NoValue.exC iC_NoValue_NoValue x_NoValue.tyC s_NoValue_NoValue, e_hn, e_htk, e_fnEq, e_th_NoneType, e_th_int, e_th_str, e_th_list, e_th_tuple, e_eqWide, e_neWide, e_haWide, e_hmWide, e_thWide, e_nfWide_NoneType, e_nfWide_int, e_nfWide_str, e_nfWide_list, e_nfWide_tuple, e_nfWide_Wide, e_nfWide_Data, e_nfWide_Uid, e_nfWide_Real, e_nfWide_Date, e_eqData, e_neData, e_haData, e_hmData, e_thData, e_nfData_NoneType, e_nfData_int, e_nfData_str, e_nfData_list, e_nfData_tuple, e_nfData_Wide, e_nfData_Data, e_nfData_Uid, e_nfData_Real, e_nfData_Date, e_eqUid, e_neUid, e_haUid, e_hmUid, e_thUid, e_nfUid_NoneType, e_nfUid_int, e_nfUid_str, e_nfUid_list, e_nfUid_tuple, e_nfUid_Wide, e_nfUid_Data, e_nfUid_Uid, e_nfUid_Real, e_nfUid_Date, e_eqReal, e_neReal, e_haReal, e_hmReal, e_thReal, e_nfReal_NoneType, e_nfReal_int, e_nfReal_str, e_nfReal_list, e_nfReal_tuple, e_nfReal_Wide, e_nfReal_Data, e_nfReal_Uid, e_nfReal_Real, e_nfReal_Date, e_eqDate, e_neDate, e_haDate, e_hmDate, e_thDate, e_nfDate_NoneType, e_nfDate_int, e_nfDate_str, e_nfDate_list, e_nfDate_tuple, e_nfDate_Wide, e_nfDate_Data, e_nfDate_Uid, e_nfDate_Real, e_nfDate_Date⟩
  let D : Df K a := ⟨_, _, _, _, _, _, _, _, _, _, _, _, _, _, _, _, _, _, _, _, _, _, _, _, _, _, _, _, _, _, _, _, _, _, F_iV, b_iV, F_Eq, b_Eq, F_Isi, b_Isi, F_Isb, b_Isb, F_Arb, b_Arb, F_Arp, b_Arp, F_Ref, b_Ref, F_iW, b_iW, F_CnW, b_CnW, F_FaW, b_FaW, F_iD, b_iD, F_CnD, b_CnD, F_FaD, b_FaD, F_iU, b_iU, F_CnU, b_CnU, F_FaU, b_FaU, F_iR, b_iR, F_CnR, b_CnR, F_FaR, b_FaR, F_iT, b_iT, F_CnT, b_CnT, F_FaT, b_FaT, F_Src, b_Src, F_Drw, b_Drw, F_Pik, b_Pik, F_Oct, b_Oct, F_Uni, b_Uni, F_Mad, b_Mad, F_Fld, b_Fld, F_Drn, b_Drn, F_Rfd, b_Rfd, F_Odd, b_Odd, F_One, b_One, F_Rgt, b_Rgt⟩
  obtain ⟨oc, od, kV, doc, pm, an, cdv, ct, osl, eL, lkL, cdL⟩ := F_Law.ex
  obtain ⟨oc2, od2, kV2, doc2, pm2, an2, cdv2, ct2, osl2, eM, lkM, cdM⟩ := id F_Mad.ex
  obtain ⟨cc, ecc⟩ := He.codeIn_ref cdM
  subst ecc
  have FC : FunC K "_law_made" "_law_made" sMad f_Mad d_Mad cc := ⟨oc2, od2, kV2, doc2, pm2, an2, ct2, osl2, eM, lkM, cdM⟩
  have ec : He.codeOf K ("_law_made", none) = cc := by
    subst eM
    exact He.codeOf_eq (by rw [tab_at]; exact lkM) rfl
  obtain ⟨pT, epT⟩ : ∃ pT, pT = He.tabOf K cc := ⟨_, rfl⟩
  have ecT : He.cT K ("_law_made", none) = (cc, pT) := by
    show (He.codeOf K ("_law_made", none), He.tabOf K (He.codeOf K ("_law_made", none))) = _
    rw [ec, epT]
  rw [ecT] at tab_hd tab_out tab_empty
  refine ⟨d_Law, cc, pT, spLaw K pT, tab_empty, tab_out, PySem.W.codeHd_of_K X tab_hd, fun s v => ?_, fun H p ns hl hT hS => ⟨p, ns, rfl, hS, hl, hT, fun _ => rfl⟩, fun base _ _ TB => ?_⟩
  · rw [eL]
    exact .of_eq rfl
  exact ok_law F_Law D T FC TB
end G58

set_option Elab.async false
set_option linter.all false
set_option maxRecDepth 100000
set_option maxHeartbeats 8000000
/-! The end. -/
namespace HeadS
open PySem PySem.Spec PyProof.Rows L2 He
theorem facts {w : World} {K : PySem.W.Frag} {h : Heap} {mg : Str → Option Value} {f : Addr} (X : K.In h) (G : h.Ns mainGlobals mg) (hfa : mg ("law" : Str) = some (.ref f)) (b : HdT.SaysB fa fn tf ex h K) :
    G58.LawGT PySem.Challenge.rw_nestfile_k01_things_of_the_package w K 11 63 "_law_script" mg f h := by
  have c := b.k
  have tm : (("_law_made", none) : He.Defn) ∈ tf := List.mem_cons_self
  exact G58.all_mk X G hfa
      (aC_NoValue := HdK.nsg (c.d.fact 0 (f := .glo "NoValue") rfl))
      (aC_Wide := HdK.nsg (c.d.fact 1 (f := .glo "Wide") rfl))
      (aC_Data := HdK.nsg (c.d.fact 2 (f := .glo "Data") rfl))
      (aC_Uid := HdK.nsg (c.d.fact 3 (f := .glo "Uid") rfl))
      (aC_Real := HdK.nsg (c.d.fact 4 (f := .glo "Real") rfl))
      (aC_Date := HdK.nsg (c.d.fact 5 (f := .glo "Date") rfl))
      (aC_Thing := HdK.nsg (c.d.fact 6 (f := .glo "Thing") rfl))
      (aC_NestError := HdK.nsg (c.d.fact 7 (f := .glo "NestError") rfl))
      (x_NoValue := HdK.oexB_ok (c.at 0))
      (f_NoValue := xfB_ok (c.at 1))
      (no_NoValue_path := of_decide_eq_true (c.at 2))
      (iC_NoValue_NoValue := c.at 3)
      (s_NoValue_NoValue := of_decide_eq_true (c.at 4))
      (mk_Wide := c.at 5)
      (kC_Wide := c.at 6)
      (pg_Wide := c.at 7)
      (hd_Wide := c.at 8)
      (po_Wide := c.at 9)
      (sa_Wide := of_decide_eq_true (c.at 10))
      (n_Wide_units := of_decide_eq_true (c.at 11))
      (mk_Data := c.at 12)
      (kC_Data := c.at 13)
      (pg_Data := c.at 14)
      (hd_Data := c.at 15)
      (po_Data := c.at 16)
      (sa_Data := of_decide_eq_true (c.at 17))
      (n_Data_octets := of_decide_eq_true (c.at 18))
      (mk_Uid := c.at 19)
      (kC_Uid := c.at 20)
      (pg_Uid := c.at 21)
      (hd_Uid := c.at 22)
      (po_Uid := c.at 23)
      (sa_Uid := of_decide_eq_true (c.at 24))
      (n_Uid_number := of_decide_eq_true (c.at 25))
      (mk_Real := c.at 26)
      (kC_Real := c.at 27)
      (pg_Real := c.at 28)
      (hd_Real := c.at 29)
      (po_Real := c.at 30)
      (sa_Real := of_decide_eq_true (c.at 31))
      (n_Real_octets := of_decide_eq_true (c.at 32))
      (mk_Date := c.at 33)
      (kC_Date := c.at 34)
      (pg_Date := c.at 35)
      (hd_Date := c.at 36)
      (po_Date := c.at 37)
      (sa_Date := of_decide_eq_true (c.at 38))
      (n_Date_octets := of_decide_eq_true (c.at 39))
      (a_iV := of_decide_eq_true (c.at 40))
      (t_iV := of_decide_eq_true (c.at 41))
      (E_iV := HdK.fun0 (c.d.def_ 0 (d := d0) rfl))
      (a_Eq := of_decide_eq_true (c.at 42))
      (i_Eq := c.at 43)
      (E_Eq := HdK.fun0 (c.d.def_ 1 (d := d1) rfl))
      (a_Isi := HdK.nsg (c.d.fact 8 (f := .glo "is_integer") rfl))
      (E_Isi := HdK.fun0 (c.d.def_ 2 (d := d2) rfl))
      (a_Isb := HdK.nsg (c.d.fact 9 (f := .glo "is_between") rfl))
      (E_Isb := HdK.fun0 (c.d.def_ 3 (d := d3) rfl))
      (a_Arb := HdK.nsg (c.d.fact 10 (f := .glo "are_between") rfl))
      (E_Arb := HdK.fun0 (c.d.def_ 4 (d := d4) rfl))
      (a_Arp := HdK.nsg (c.d.fact 11 (f := .glo "are_plain") rfl))
      (E_Arp := HdK.fun0 (c.d.def_ 5 (d := d5) rfl))
      (a_Ref := HdK.nsg (c.d.fact 12 (f := .glo "refuse") rfl))
      (E_Ref := HdK.fun0 (c.d.def_ 6 (d := d6) rfl))
      (a_iW := of_decide_eq_true (c.at 44))
      (i_iW := c.at 45)
      (E_iW := HdK.fun0 (c.d.def_ 7 (d := d7) rfl))
      (a_CnW := of_decide_eq_true (c.at 46))
      (i_CnW := c.at 47)
      (E_CnW := HdK.fun0 (c.d.def_ 8 (d := d8) rfl))
      (a_FaW := of_decide_eq_true (c.at 48))
      (i_FaW := c.at 49)
      (E_FaW := HdK.fun0 (c.d.def_ 9 (d := d9) rfl))
      (a_iD := of_decide_eq_true (c.at 50))
      (i_iD := c.at 51)
      (E_iD := HdK.fun0 (c.d.def_ 10 (d := d10) rfl))
      (a_CnD := of_decide_eq_true (c.at 52))
      (i_CnD := c.at 53)
      (E_CnD := HdK.fun0 (c.d.def_ 11 (d := d11) rfl))
      (a_FaD := of_decide_eq_true (c.at 54))
      (i_FaD := c.at 55)
      (E_FaD := HdK.fun0 (c.d.def_ 12 (d := d12) rfl))
      (a_iU := of_decide_eq_true (c.at 56))
      (i_iU := c.at 57)
      (E_iU := HdK.fun0 (c.d.def_ 13 (d := d13) rfl))
      (a_CnU := of_decide_eq_true (c.at 58))
      (i_CnU := c.at 59)
      (E_CnU := HdK.fun0 (c.d.def_ 14 (d := d14) rfl))
      (a_FaU := of_decide_eq_true (c.at 60))
      (i_FaU := c.at 61)
      (E_FaU := HdK.fun0 (c.d.def_ 15 (d := d15) rfl))
      (a_iR := of_decide_eq_true (c.at 62))
      (i_iR := c.at 63)
      (E_iR := HdK.fun0 (c.d.def_ 16 (d := d16) rfl))
      (a_CnR := of_decide_eq_true (c.at 64))
      (i_CnR := c.at 65)
      (E_CnR := HdK.fun0 (c.d.def_ 17 (d := d17) rfl))
      (a_FaR := of_decide_eq_true (c.at 66))
      (i_FaR := c.at 67)
      (E_FaR := HdK.fun0 (c.d.def_ 18 (d := d18) rfl))
      (a_iT := of_decide_eq_true (c.at 68))
      (i_iT := c.at 69)
      (E_iT := HdK.fun0 (c.d.def_ 19 (d := d19) rfl))
      (a_CnT := of_decide_eq_true (c.at 70))
      (i_CnT := c.at 71)
      (E_CnT := HdK.fun0 (c.d.def_ 20 (d := d20) rfl))
      (a_FaT := of_decide_eq_true (c.at 72))
      (i_FaT := c.at 73)
      (E_FaT := HdK.fun0 (c.d.def_ 21 (d := d21) rfl))
      (a_Src := HdK.nsg (c.d.fact 13 (f := .glo "_law_source") rfl))
      (E_Src := HdK.fun0 (c.d.def_ 22 (d := d22) rfl))
      (a_Drw := HdK.nsg (c.d.fact 14 (f := .glo "_law_draw") rfl))
      (E_Drw := HdK.fun0 (c.d.def_ 23 (d := d23) rfl))
      (a_Pik := HdK.nsg (c.d.fact 15 (f := .glo "_law_pick") rfl))
      (E_Pik := HdK.fun0 (c.d.def_ 24 (d := d24) rfl))
      (a_Oct := HdK.nsg (c.d.fact 16 (f := .glo "_law_octets") rfl))
      (E_Oct := HdK.fun0 (c.d.def_ 25 (d := d25) rfl))
      (a_Uni := HdK.nsg (c.d.fact 17 (f := .glo "_law_units") rfl))
      (E_Uni := HdK.fun0 (c.d.def_ 26 (d := d26) rfl))
      (a_Mad := HdK.nsg (c.d.fact 18 (f := .glo "_law_made") rfl))
      (E_Mad := HdK.fun0 (c.d.def_ 27 (d := d27) rfl))
      (a_Fld := HdK.nsg (c.d.fact 19 (f := .glo "_law_field") rfl))
      (E_Fld := HdK.fun0 (c.d.def_ 28 (d := d28) rfl))
      (a_Drn := HdK.nsg (c.d.fact 20 (f := .glo "_law_drawn") rfl))
      (E_Drn := HdK.fun0 (c.d.def_ 29 (d := d29) rfl))
      (a_Rfd := HdK.nsg (c.d.fact 21 (f := .glo "_law_refused") rfl))
      (E_Rfd := HdK.fun0 (c.d.def_ 30 (d := d30) rfl))
      (a_Odd := HdK.nsg (c.d.fact 22 (f := .glo "_law_odd_right") rfl))
      (E_Odd := HdK.fun0 (c.d.def_ 31 (d := d31) rfl))
      (a_One := HdK.nsg (c.d.fact 23 (f := .glo "_law_one_right") rfl))
      (E_One := HdK.fun0 (c.d.def_ 32 (d := d32) rfl))
      (a_Rgt := HdK.nsg (c.d.fact 24 (f := .glo "_law_right") rfl))
      (E_Rgt := HdK.fun0 (c.d.def_ 33 (d := d33) rfl))
      (a_Law := HdK.nsg (c.d.fact 25 (f := .glo "law") rfl))
      (E_Law := HdK.fun0 (c.d.def_ 34 (d := d34) rfl))
      (z_len := HdK.nsf (c.d.fact 26 (f := .free "len") rfl))
      (z_isinstance := HdK.nsf (c.d.fact 27 (f := .free "isinstance") rfl))
      (z_str := HdK.nsf (c.d.fact 28 (f := .free "str") rfl))
      (z_int := HdK.nsf (c.d.fact 29 (f := .free "int") rfl))
      (z_bool := HdK.nsf (c.d.fact 30 (f := .free "bool") rfl))
      (z_abs := HdK.nsf (c.d.fact 31 (f := .free "abs") rfl))
      (z_range := HdK.nsf (c.d.fact 32 (f := .free "range") rfl))
      (z_list := HdK.nsf (c.d.fact 33 (f := .free "list") rfl))
      (z_tuple := HdK.nsf (c.d.fact 34 (f := .free "tuple") rfl))
      (z_all := HdK.nsf (c.d.fact 35 (f := .free "all") rfl))
      (z_repr := HdK.nsf (c.d.fact 36 (f := .free "repr") rfl))
      (z_enumerate := HdK.nsf (c.d.fact 37 (f := .free "enumerate") rfl))
      (q_GREATEST := HdK.nsi (c.d.fact 38 (f := .int "GREATEST" 18446744073709551615) rfl))
      (e_hn := of_decide_eq_true (c.at 74))
      (e_htk := of_decide_eq_true (c.at 75))
      (e_fnEq := c.at 76)
      (e_th_NoneType := of_decide_eq_true (c.at 77))
      (e_th_int := of_decide_eq_true (c.at 78))
      (e_th_str := of_decide_eq_true (c.at 79))
      (e_th_list := of_decide_eq_true (c.at 80))
      (e_th_tuple := of_decide_eq_true (c.at 81))
      (e_eqWide := of_decide_eq_true (c.at 82))
      (e_neWide := of_decide_eq_true (c.at 83))
      (e_haWide := of_decide_eq_true (c.at 84))
      (e_hmWide := of_decide_eq_true (c.at 85))
      (e_thWide := of_decide_eq_true (c.at 86))
      (e_nfWide_NoneType := c.at 87)
      (e_nfWide_int := c.at 88)
      (e_nfWide_str := c.at 89)
      (e_nfWide_list := c.at 90)
      (e_nfWide_tuple := c.at 91)
      (e_nfWide_Wide := c.at 92)
      (e_nfWide_Data := c.at 93)
      (e_nfWide_Uid := c.at 94)
      (e_nfWide_Real := c.at 95)
      (e_nfWide_Date := c.at 96)
      (e_eqData := of_decide_eq_true (c.at 97))
      (e_neData := of_decide_eq_true (c.at 98))
      (e_haData := of_decide_eq_true (c.at 99))
      (e_hmData := of_decide_eq_true (c.at 100))
      (e_thData := of_decide_eq_true (c.at 101))
      (e_nfData_NoneType := c.at 102)
      (e_nfData_int := c.at 103)
      (e_nfData_str := c.at 104)
      (e_nfData_list := c.at 105)
      (e_nfData_tuple := c.at 106)
      (e_nfData_Wide := c.at 107)
      (e_nfData_Data := c.at 108)
      (e_nfData_Uid := c.at 109)
      (e_nfData_Real := c.at 110)
      (e_nfData_Date := c.at 111)
      (e_eqUid := of_decide_eq_true (c.at 112))
      (e_neUid := of_decide_eq_true (c.at 113))
      (e_haUid := of_decide_eq_true (c.at 114))
      (e_hmUid := of_decide_eq_true (c.at 115))
      (e_thUid := of_decide_eq_true (c.at 116))
      (e_nfUid_NoneType := c.at 117)
      (e_nfUid_int := c.at 118)
      (e_nfUid_str := c.at 119)
      (e_nfUid_list := c.at 120)
      (e_nfUid_tuple := c.at 121)
      (e_nfUid_Wide := c.at 122)
      (e_nfUid_Data := c.at 123)
      (e_nfUid_Uid := c.at 124)
      (e_nfUid_Real := c.at 125)
      (e_nfUid_Date := c.at 126)
      (e_eqReal := of_decide_eq_true (c.at 127))
      (e_neReal := of_decide_eq_true (c.at 128))
      (e_haReal := of_decide_eq_true (c.at 129))
      (e_hmReal := of_decide_eq_true (c.at 130))
      (e_thReal := of_decide_eq_true (c.at 131))
      (e_nfReal_NoneType := c.at 132)
      (e_nfReal_int := c.at 133)
      (e_nfReal_str := c.at 134)
      (e_nfReal_list := c.at 135)
      (e_nfReal_tuple := c.at 136)
      (e_nfReal_Wide := c.at 137)
      (e_nfReal_Data := c.at 138)
      (e_nfReal_Uid := c.at 139)
      (e_nfReal_Real := c.at 140)
      (e_nfReal_Date := c.at 141)
      (e_eqDate := of_decide_eq_true (c.at 142))
      (e_neDate := of_decide_eq_true (c.at 143))
      (e_haDate := of_decide_eq_true (c.at 144))
      (e_hmDate := of_decide_eq_true (c.at 145))
      (e_thDate := of_decide_eq_true (c.at 146))
      (e_nfDate_NoneType := c.at 147)
      (e_nfDate_int := c.at 148)
      (e_nfDate_str := c.at 149)
      (e_nfDate_list := c.at 150)
      (e_nfDate_tuple := c.at 151)
      (e_nfDate_Wide := c.at 152)
      (e_nfDate_Data := c.at 153)
      (e_nfDate_Uid := c.at 154)
      (e_nfDate_Real := c.at 155)
      (e_nfDate_Date := c.at 156)
      (tab_at := rfl) (tab_hd := b.hd _ tm) (tab_out := b.out _ tm) (tab_empty := b.empty _ tm)
end HeadS
open PySem PySem.W PySem.Calls PyProof.Rows
theorem PySem.Challenge.cw_nestfile_k01_things_of_the_package_holds : PySem.Challenge.rw_nestfile_k01_things_of_the_package.Holds := by
  w_on; o_law
  refine HandSHeadRun.head_any (r := OpenLaw.row PySem.Challenge.rw_nestfile_k01_things_of_the_package) (q := view (OpenLaw.row PySem.Challenge.rw_nestfile_k01_things_of_the_package).prog [30]) (H := HeadS.hk) (ob := HeadS.ob) (M := 20000) (loose := HeadS.nms) (d := HandSHeadRun.topDef (OpenLaw.row PySem.Challenge.rw_nestfile_k01_things_of_the_package).prog 30) (kwd := []) HeadS.ob_eq
    (by kernel_rfl) (fun s => by kernel_rfl) HeadS.run (by kernel_rfl) (by kernel_rfl) (by kernel_rfl) (by rfl) (by first | assumption | decide +kernel) (by decide +kernel) ⟨rfl, rfl, rfl, rfl, rfl, by decide +kernel⟩ ?hw ?hc
  case hw => w_witness2
  case hc =>
    refine G58.walk_GTE (l := PySem.Challenge.rw_nestfile_k01_things_of_the_package) (n := 63) (k := 11) (x := "_law_script") rfl (by decide) (by kernel_rfl) ⟨rfl, by decide, by decide⟩ ?F
    intro w mg fa h Y G hmg0
    obtain ⟨K, KX, c⟩ := Y
    have hmg : mg ("law" : PySem.Str) = some (.ref fa) := by
      have e : (HandSHeadRun.topDef (OpenLaw.row PySem.Challenge.rw_nestfile_k01_things_of_the_package).prog 30).name = ("law" : PySem.Str) := by kernel_rfl
      rw [← e]
      exact hmg0
    exact ⟨K, KX, HeadS.facts KX G hmg c⟩
#print axioms PySem.Challenge.cw_nestfile_k01_things_of_the_package_holds
