import PyProof.Rows.All
import Wide.All
import OpenK.AllK
import Wide.FinOn
import KE.KStateDown
import HandS.Base
import HandS.Call
import HandS.Words
import HandS.Defaults
import HandS.ExcInit
import HandS.ExcField
import HandS.Head0
import HandS.Head1
import HandS.Head2
import HandS.HeadHook1
import HandS.HeadHook2
import Wide.Once
import KE.GoesNew
import HandS.ForMost
import HandS.ForExc
import HandS.Walk
import HandS.IsInst
import HandS.Lambda
import HandS.EndTab
import HandS.StrMore
import HandS.Zip
import HandS.DictTup
import KE.KeyNested
import KE.KDictKeyed
import HandS.Style
import HandS.Conv
import HandS.TupAny
import PyProof.ReprRoads
import PyProof.ReprLen
import HandS.Codes
import HandS.Text
import HandS.Replace
import HandS.ReplaceLit
import HandS.ReplaceList
import HandS.Iter
import HandS.RaiseMore
import OpenK.KMake
import HandS.OwnEq
import HandS.More
import HandS.SortInts
import HandS.Sort
import HandS.SortOrd
import HandS.SortRule
import KE.IntTextLaws
import HandS.Wide
import PyProof.StrBlock2
import KE.KIntText
import PyProof.ReprRoom
import PyProof.StrLawsRepr
import PyProof.FitsInt
import HandS.HeadWalk
import PySem.Challenge.RW_nestfile_k72_texts_of_values_and_of_none
set_option Elab.async false
set_option linter.all false
set_option maxRecDepth 100000
set_option maxHeartbeats 8000000
/-! The facts of a large top by one run: which objects are looked at, further checks. -/
namespace HdK
open PySem PySem.Spec PyProof.Rows L2 He
def valsOf (o : Obj) : List Addr := match o.data with
  | .dict es _ => es.toList.flatMap fun e => refV e.val
  | _ => []
def partsOf (o : Obj) : List Addr := match o.data with
  | .cls cd => cd.ns :: cd.mro.flatMap refV
  | .func fd => refV fd.code ++ (refV fd.defaults ++ refV fd.kwdefaults)
  | _ => []
def viaG (g : Addr → Option Obj) (f : Obj → List Addr) (as : List Addr) : List Addr := as.flatMap fun a => match g a with
  | some o => f o
  | none => []
def asK (g : Addr → Option Obj) : List Addr :=
  mainGlobals :: (viaG g valsOf [mainGlobals] ++ (viaG g partsOf (viaG g valsOf [mainGlobals]) ++ (viaG g valsOf (viaG g partsOf (viaG g valsOf [mainGlobals])) ++ viaG g partsOf (viaG g valsOf (viaG g partsOf (viaG g valsOf [mainGlobals]))))))
abbrev AlK : Type := AlD × Bool
def obsK (fa : List Fa) (fn : List DefD) (ex : List (PySem.W.Frag → Bool)) (K : PySem.W.Frag) : AlK := (obsD fa fn K, ex.all fun e => e K)
def valK (fn : List DefD) : AlK := (valD fn, true)
def obsKG (fa : List Fa) (fn : List DefD) (ex : List (PySem.W.Frag → Bool)) (g : Addr → Option Obj) : AlK := obsK fa fn ex (frG g (asK g))
structure SaysK (fa : List Fa) (fn : List DefD) (ex : List (PySem.W.Frag → Bool)) (K : PySem.W.Frag) : Prop where
  d : SaysD fa fn K
  m : (ex.all fun e => e K) = true
def hookK (fa : List Fa) (fn : List DefD) (ex : List (PySem.W.Frag → Bool)) : PySem.W.Hook where
  α := AlK
  obs := fun s => obsKG fa fn ex s.heap.get?
  val := fun _ => valK fn
  says := fun _ h => ∃ K : PySem.W.Frag, K.In h ∧ SaysK fa fn ex K
  of := fun _ _ e => ⟨_, frG_in, congrArg (fun z : AlK => z.1) e, congrArg (fun z : AlK => z.2) e⟩
  keeps := fun _ _ _ ⟨K, hK, c⟩ k => ⟨K, PySem.W.Frag.In.keeps hK k, c⟩
theorem obsKG_eq {fa : List Fa} {fn : List DefD} {ex : List (PySem.W.Frag → Bool)} {g : Addr → Option Obj} {s : Shared} (h : ∀ a, g a = s.heap.get? a) : obsKG fa fn ex g = (hookK fa fn ex).obs s := by
  have e : g = s.heap.get? := funext h
  rw [e] <;> rfl
theorem SaysK.at {fa : List Fa} {fn : List DefD} {ex : List (PySem.W.Frag → Bool)} {K : PySem.W.Frag} (c : SaysK fa fn ex K) (i : Nat) {e : PySem.W.Frag → Bool} (h : ex[i]? = some e := by rfl) : e K = true :=
  List.all_eq_true.mp c.m e (List.mem_of_getElem? h)
/-! ### single checks -/
theorem nsg {K : PySem.W.Frag} {x : Str} (c : (Fa.glo x).ok K = true) : PySem.W.nsIn K mainGlobals x = some (some (.ref (ga K x))) := eqO_ok c
theorem nsf {K : PySem.W.Frag} {x : Str} (c : (Fa.free x).ok K = true) : PySem.W.nsIn K mainGlobals x = some none := eqO_ok c
theorem nsi {K : PySem.W.Frag} {x : Str} {i : Int} (c : (Fa.int x i).ok K = true) : ∃ t, PySem.W.nsIn K mainGlobals x = some (some (.int i t)) := by
  have c2 : (match PySem.W.nsIn K mainGlobals x with
    | some (some (.int j _)) => decide (j = i)
    | _ => false) = true := c
  cases e : PySem.W.nsIn K mainGlobals x with
  | none =>
    rw [e] at c2
    cases c2
  | some o =>
    rw [e] at c2
    cases o with
    | none => cases c2
    | some v =>
      cases v with
      | int j t =>
        have ej : j = i := of_decide_eq_true c2
        exact ⟨t, by rw [ej]⟩
      | _ => cases c2
theorem nss {K : PySem.W.Frag} {x z : Str} (c : (Fa.str x z).ok K = true) : ∃ t, PySem.W.nsIn K mainGlobals x = some (some (.str z t)) := by
  have c2 : (match PySem.W.nsIn K mainGlobals x with
    | some (some (.str y _)) => decide (y = z)
    | _ => false) = true := c
  cases e : PySem.W.nsIn K mainGlobals x with
  | none =>
    rw [e] at c2
    cases c2
  | some o =>
    rw [e] at c2
    cases o with
    | none => cases c2
    | some v =>
      cases v with
      | str j t =>
        have ej : j = z := of_decide_eq_true c2
        exact ⟨t, by rw [ej]⟩
      | _ => cases c2
/-- a def without defaults, as the walks want it -/
theorem fun0 {K : PySem.W.Frag} {x qual : Str} {st : Stmt} {f : Addr} (h : ∃ fd, FunD K x qual (defArgs st) (defBody st) (defScope st) [] [] f fd) : ∃ fd, Fun K x qual st f fd := by
  obtain ⟨fd, F⟩ := h
  obtain ⟨oc, od, dV, kV, doc, pm, an, cdv, ct, osl, e, lk, cd, hd, _⟩ := F.ex
  rcases hd with ⟨_, hd⟩ | ⟨hd, _⟩
  · rw [hd] at e
    exact ⟨fd, ⟨oc, od, kV, doc, pm, an, cdv, ct, osl, e, lk, cd⟩, F.kp⟩
  · exact absurd rfl hd
/-- an own class of errors -/
def excB (K : PySem.W.Frag) (C : Addr) : Bool := match K.lookup C with
  | some ⟨.type c, _, .cls cd, sl⟩ => (match cd.mro, sl.toList with
    | .ref D :: bm, [_, _, _, _, some (.builtin n), _] => decide (c = "type") && (decide (D = C) && (decide (n = "ValueError.__new__") && (!cd.hasDel && (cd.hasDict && PySem.HandSPX.refsVE bm))))
    | _, _ => false)
  | _ => false
theorem excB_ok {K : PySem.W.Frag} {C : Addr} (q : excB K C = true) : ∃ nm q N bs bm sn sub ab col dd k0 k1 k2 k3 k5, K.lookup C = some (excClassObj nm q C N bs bm true sn sub ab col dd k0 k1 k2 k3 k5 "ValueError.__new__") ∧ PySem.HandSPX.refsVE bm = true := by
  unfold excB at q
  split at q
  · rename_i c dd cd sl ho
    split at q
    · rename_i D bm k0 k1 k2 k3 n k5 hm hs
      simp only [Bool.and_eq_true, decide_eq_true_eq, Bool.not_eq_true'] at q
      obtain ⟨e1, e2, e3, hdel, hdic, hv⟩ := q
      subst e1 e2 e3
      obtain ⟨nm, bs, mro, ns, qn, hd, sn, sub, ab, col, del⟩ := cd
      dsimp only at hm hdel hdic
      subst hm hdel hdic
      have hsl : sl = #[k0, k1, k2, k3, some (.builtin "ValueError.__new__"), k5] := by
        obtain ⟨l⟩ := sl
        simp only at hs
        rw [hs]
      subst hsl
      exact ⟨nm, qn, ns, bs, bm, sn, sub, ab, col, dd, k0, k1, k2, k3, k5, ho, hv⟩
    · cases q
  · cases q
def oexB (K : PySem.W.Frag) (C : Addr) : Bool := excB K C && (decide (PySem.W.findIn K (.ref C) "__setattr__" = some (some (.builtin "object.__setattr__"))) && (decide (PySem.W.subIn K (.ref C) (.type "BaseException") = some true) && (decide (PySem.W.typeIn K (.ref C) = some (.type "type")) && PySem.W.keepIn K (.ref C))))
theorem oexB_ok {K : PySem.W.Frag} {C : Addr} (q : oexB K C = true) : OexC K C := by
  obtain ⟨h1, h⟩ := Bool.and_eq_true_iff.mp q
  obtain ⟨h2, h⟩ := Bool.and_eq_true_iff.mp h
  obtain ⟨h3, h⟩ := Bool.and_eq_true_iff.mp h
  obtain ⟨h4, h5⟩ := Bool.and_eq_true_iff.mp h
  exact ⟨excB_ok h1, of_decide_eq_true h2, of_decide_eq_true h3, of_decide_eq_true h4, h5⟩
/-- a dict of integers and texts, as it stands -/
def entB : List DictEntry → List (Int × Str) → Bool
  | [], [] => true
  | ⟨h, .int i _, .str s _⟩ :: r, (j, z) :: q => decide (h = j) && (decide (i = j) && (decide (s = z) && entB r q))
  | _, _ => false
theorem entB_nil {es : List DictEntry} (h : entB es [] = true) : es = [] := by
  cases es with
  | nil => rfl
  | cons e r =>
    obtain ⟨hh, k, v⟩ := e
    cases k <;> cases v <;> cases h
theorem entB_cons {es : List DictEntry} {j : Int} {z : Str} {q : List (Int × Str)} (h : entB es ((j, z) :: q) = true) : ∃ t u r, es = ⟨j, .int j t, .str z u⟩ :: r ∧ entB r q = true := by
  cases es with
  | nil => cases h
  | cons e r =>
    obtain ⟨hh, k, v⟩ := e
    cases k with
    | int i t =>
      cases v with
      | str s u =>
        obtain ⟨h1, g1⟩ := Bool.and_eq_true_iff.mp (show (decide (hh = j) && (decide (i = j) && (decide (s = z) && entB r q))) = true from h)
        obtain ⟨h2, g2⟩ := Bool.and_eq_true_iff.mp g1
        obtain ⟨h3, g3⟩ := Bool.and_eq_true_iff.mp g2
        have e1 := of_decide_eq_true h1
        have e2 := of_decide_eq_true h2
        have e3 := of_decide_eq_true h3
        subst e1 e2 e3
        exact ⟨t, u, r, rfl, g3⟩
      | _ => cases h
    | _ => cases v <;> cases h
def dicB (K : PySem.W.Frag) (a : Addr) (l : List (Int × Str)) : Bool := match K.lookup a with
  | some ⟨.type c, none, .dict es _, sl⟩ => decide (c = "dict") && (sl.isEmpty && entB es.toList l)
  | _ => false
theorem dicB_ok {K : PySem.W.Frag} {a : Addr} {l : List (Int × Str)} (h : dicB K a l = true) : ∃ es n, K.lookup a = some ⟨.type "dict", none, .dict es n, #[]⟩ ∧ entB es.toList l = true := by
  unfold dicB at h
  split at h
  · rename_i c es n sl ho
    obtain ⟨h1, h⟩ := Bool.and_eq_true_iff.mp h
    obtain ⟨h2, h⟩ := Bool.and_eq_true_iff.mp h
    have e1 := of_decide_eq_true h1
    subst e1
    have e2 := Array.isEmpty_iff.mp h2
    subst e2
    exact ⟨es, n, ho, h⟩
  · cases h
theorem dic5_ok {K : PySem.W.Frag} {a : Addr} {j1 j2 j3 j4 j5 : Int} {z1 z2 z3 z4 z5 : Str} (h : dicB K a [(j1, z1), (j2, z2), (j3, z3), (j4, z4), (j5, z5)] = true) :
    ∃ t1 t2 t3 t4 t5 u1 u2 u3 u4 u5 n, K.lookup a = some ⟨.type "dict", none, .dict #[⟨j1, .int j1 t1, .str z1 u1⟩, ⟨j2, .int j2 t2, .str z2 u2⟩, ⟨j3, .int j3 t3, .str z3 u3⟩, ⟨j4, .int j4 t4, .str z4 u4⟩, ⟨j5, .int j5 t5, .str z5 u5⟩] n, #[]⟩ := by
  obtain ⟨es, n, ho, h⟩ := dicB_ok h
  obtain ⟨t1, u1, r1, e1, h⟩ := entB_cons h
  obtain ⟨t2, u2, r2, e2, h⟩ := entB_cons h
  obtain ⟨t3, u3, r3, e3, h⟩ := entB_cons h
  obtain ⟨t4, u4, r4, e4, h⟩ := entB_cons h
  obtain ⟨t5, u5, r5, e5, h⟩ := entB_cons h
  have e6 := entB_nil h
  subst e6 e5 e4 e3 e2
  obtain ⟨es⟩ := es
  have e1' : es = _ := e1
  subst e1'
  exact ⟨t1, t2, t3, t4, t5, u1, u2, u3, u4, u5, n, ho⟩
end HdK

set_option Elab.async false
set_option linter.all false
set_option maxRecDepth 100000
set_option maxHeartbeats 8000000
/-! The top by one run of the kernel, with the checks that the facts want. -/
namespace HeadS
open PySem PySem.Spec PyProof.Rows L2 He
abbrev R : PySem.W.OpenRow := PySem.W.OpenLaw.row PySem.Challenge.rw_nestfile_k72_texts_of_values_and_of_none
def tp (i : Nat) : Stmt := PySem.Challenge.pw_nestfile_k72_texts_of_values_and_of_none.main.body.getD i (.Pass ⟨0, 0, 0, 0⟩)
def nms0' : List PySem.Str := [("NestError" : PySem.Str), ("NoValue" : PySem.Str), ("Large" : PySem.Str), ("BadText" : PySem.Str), ("LEAST_INTEGER" : PySem.Str), ("GREATEST" : PySem.Str), ("MOST_DEPTH" : PySem.Str), ("MOST_PARTS" : PySem.Str), ("Thing" : PySem.Str), ("is_integer" : PySem.Str), ("is_between" : PySem.Str), ("are_between" : PySem.Str), ("are_plain" : PySem.Str), ("refuse" : PySem.Str), ("Wide" : PySem.Str), ("Data" : PySem.Str), ("Uid" : PySem.Str), ("Real" : PySem.Str), ("Date" : PySem.Str), ("is_string" : PySem.Str), ("is_leaf" : PySem.Str), ("wrong_path" : PySem.Str), ("inside" : PySem.Str), ("depth_of" : PySem.Str), ("parts_of" : PySem.Str), ("check" : PySem.Str), ("FIGURES" : PySem.Str), ("HEX" : PySem.Str), ("MOST_FIGURES" : PySem.Str), ("Unfit" : PySem.Str)]
def nms1' : List PySem.Str := [("Scanner" : PySem.Str), ("read_value" : PySem.Str), ("_law_source" : PySem.Str), ("_law_draw" : PySem.Str), ("_law_pick" : PySem.Str), ("_law_hex" : PySem.Str), ("_law_quoted" : PySem.Str), ("_law_written" : PySem.Str), ("_law_bytes" : PySem.Str), ("_law_integer" : PySem.Str), ("_law_string" : PySem.Str), ("_law_wide" : PySem.Str), ("_law_leaf" : PySem.Str), ("_law_unfit" : PySem.Str), ("_law_tree" : PySem.Str), ("_law_text" : PySem.Str), ("_law_due" : PySem.Str), ("_law_said" : PySem.Str), ("_law_numbers_right" : PySem.Str), ("_law_right" : PySem.Str)]
def nms : List PySem.Str := nms0' ++ nms1'
def fa0' : List He.Fa := [.free "len", .free "isinstance", .free "str", .free "int", .free "bool", .free "abs", .free "range", .free "list", .free "tuple", .free "dict", .free "all", .free "enumerate", .free "sorted", .free "ord", .free "max", .free "min", .free "sum", .free "repr", .free "zip", .int "LEAST_INTEGER" (-9223372036854775808), .int "GREATEST" 18446744073709551615, .int "MOST_DEPTH" 100, .int "MOST_PARTS" 20000, .int "MOST_FIGURES" 20, .str "FIGURES" "0123456789", .str "HEX" "0123456789abcdef", .glo "NoValue", .glo "Large", .glo "BadText", .glo "Wide"]
def fa1' : List He.Fa := [.glo "Data", .glo "Uid", .glo "Real", .glo "Date", .glo "Scanner", .glo "NestError", .glo "Unfit", .glo "is_integer", .glo "is_between", .glo "are_between", .glo "are_plain", .glo "refuse", .glo "is_string", .glo "is_leaf", .glo "wrong_path", .glo "inside", .glo "depth_of", .glo "parts_of", .glo "check", .glo "read_value", .glo "_law_source", .glo "_law_draw", .glo "_law_pick", .glo "_law_bytes", .glo "_law_integer", .glo "_law_string", .glo "_law_wide", .glo "_law_leaf", .glo "_law_hex", .glo "_law_quoted"]
def fa2' : List He.Fa := [.glo "_law_written", .glo "_law_unfit", .glo "_law_tree", .glo "_law_text", .glo "_law_due", .glo "_law_said", .glo "_law_numbers_right", .glo "_law_right", .glo "law"]
def fa : List He.Fa := fa0' ++ fa1' ++ fa2'
def d0 : He.DefD := ⟨("NoValue", some "__init__"), "__init__", "NoValue.__init__", defArgs (inClass (tp 2) 0), defBody (inClass (tp 2) 0), defScope (inClass (tp 2) 0), [], []⟩
def d1 : He.DefD := ⟨("Large", some "__init__"), "__init__", "Large.__init__", defArgs (inClass (tp 3) 0), defBody (inClass (tp 3) 0), defScope (inClass (tp 3) 0), [], []⟩
def d2 : He.DefD := ⟨("BadText", some "__init__"), "__init__", "BadText.__init__", defArgs (inClass (tp 4) 0), defBody (inClass (tp 4) 0), defScope (inClass (tp 4) 0), [], []⟩
def d3 : He.DefD := ⟨("is_integer", none), "is_integer", "is_integer", defArgs (tp 11), defBody (tp 11), defScope (tp 11), [], []⟩
def d4 : He.DefD := ⟨("is_between", none), "is_between", "is_between", defArgs (tp 12), defBody (tp 12), defScope (tp 12), [], []⟩
def d5 : He.DefD := ⟨("are_between", none), "are_between", "are_between", defArgs (tp 13), defBody (tp 13), defScope (tp 13), [], []⟩
def d6 : He.DefD := ⟨("are_plain", none), "are_plain", "are_plain", defArgs (tp 14), defBody (tp 14), defScope (tp 14), [], []⟩
def d7 : He.DefD := ⟨("refuse", none), "refuse", "refuse", defArgs (tp 15), defBody (tp 15), defScope (tp 15), [], []⟩
def d8 : He.DefD := ⟨("Wide", some "__init__"), "__init__", "Wide.__init__", defArgs (inClass (tp 16) 0), defBody (inClass (tp 16) 0), defScope (inClass (tp 16) 0), [], []⟩
def d9 : He.DefD := ⟨("Wide", some "class_name"), "class_name", "Wide.class_name", defArgs (inClass (tp 16) 1), defBody (inClass (tp 16) 1), defScope (inClass (tp 16) 1), [], []⟩
def d10 : He.DefD := ⟨("Wide", some "facts"), "facts", "Wide.facts", defArgs (inClass (tp 16) 2), defBody (inClass (tp 16) 2), defScope (inClass (tp 16) 2), [], []⟩
def d11 : He.DefD := ⟨("Data", some "__init__"), "__init__", "Data.__init__", defArgs (inClass (tp 17) 0), defBody (inClass (tp 17) 0), defScope (inClass (tp 17) 0), [], []⟩
def d12 : He.DefD := ⟨("Data", some "class_name"), "class_name", "Data.class_name", defArgs (inClass (tp 17) 1), defBody (inClass (tp 17) 1), defScope (inClass (tp 17) 1), [], []⟩
def d13 : He.DefD := ⟨("Data", some "facts"), "facts", "Data.facts", defArgs (inClass (tp 17) 2), defBody (inClass (tp 17) 2), defScope (inClass (tp 17) 2), [], []⟩
def d14 : He.DefD := ⟨("Uid", some "__init__"), "__init__", "Uid.__init__", defArgs (inClass (tp 18) 0), defBody (inClass (tp 18) 0), defScope (inClass (tp 18) 0), [], []⟩
def d15 : He.DefD := ⟨("Uid", some "class_name"), "class_name", "Uid.class_name", defArgs (inClass (tp 18) 1), defBody (inClass (tp 18) 1), defScope (inClass (tp 18) 1), [], []⟩
def d16 : He.DefD := ⟨("Uid", some "facts"), "facts", "Uid.facts", defArgs (inClass (tp 18) 2), defBody (inClass (tp 18) 2), defScope (inClass (tp 18) 2), [], []⟩
def d17 : He.DefD := ⟨("Real", some "__init__"), "__init__", "Real.__init__", defArgs (inClass (tp 19) 0), defBody (inClass (tp 19) 0), defScope (inClass (tp 19) 0), [], []⟩
def d18 : He.DefD := ⟨("Real", some "class_name"), "class_name", "Real.class_name", defArgs (inClass (tp 19) 1), defBody (inClass (tp 19) 1), defScope (inClass (tp 19) 1), [], []⟩
def d19 : He.DefD := ⟨("Real", some "facts"), "facts", "Real.facts", defArgs (inClass (tp 19) 2), defBody (inClass (tp 19) 2), defScope (inClass (tp 19) 2), [], []⟩
def d20 : He.DefD := ⟨("Date", some "__init__"), "__init__", "Date.__init__", defArgs (inClass (tp 20) 0), defBody (inClass (tp 20) 0), defScope (inClass (tp 20) 0), [], []⟩
def d21 : He.DefD := ⟨("Date", some "class_name"), "class_name", "Date.class_name", defArgs (inClass (tp 20) 1), defBody (inClass (tp 20) 1), defScope (inClass (tp 20) 1), [], []⟩
def d22 : He.DefD := ⟨("Date", some "facts"), "facts", "Date.facts", defArgs (inClass (tp 20) 2), defBody (inClass (tp 20) 2), defScope (inClass (tp 20) 2), [], []⟩
def d23 : He.DefD := ⟨("is_string", none), "is_string", "is_string", defArgs (tp 21), defBody (tp 21), defScope (tp 21), [], []⟩
def d24 : He.DefD := ⟨("is_leaf", none), "is_leaf", "is_leaf", defArgs (tp 22), defBody (tp 22), defScope (tp 22), [], []⟩
def d25 : He.DefD := ⟨("wrong_path", none), "wrong_path", "wrong_path", defArgs (tp 23), defBody (tp 23), defScope (tp 23), [], []⟩
def d26 : He.DefD := ⟨("inside", none), "inside", "inside", defArgs (tp 24), defBody (tp 24), defScope (tp 24), [], []⟩
def d27 : He.DefD := ⟨("depth_of", none), "depth_of", "depth_of", defArgs (tp 25), defBody (tp 25), defScope (tp 25), [], []⟩
def d28 : He.DefD := ⟨("parts_of", none), "parts_of", "parts_of", defArgs (tp 26), defBody (tp 26), defScope (tp 26), [], []⟩
def d29 : He.DefD := ⟨("check", none), "check", "check", defArgs (tp 27), defBody (tp 27), defScope (tp 27), [], []⟩
def d30 : He.DefD := ⟨("Scanner", some "__init__"), "__init__", "Scanner.__init__", defArgs (inClass (tp 33) 0), defBody (inClass (tp 33) 0), defScope (inClass (tp 33) 0), [], []⟩
def d31 : He.DefD := ⟨("Scanner", some "sign"), "sign", "Scanner.sign", defArgs (inClass (tp 33) 1), defBody (inClass (tp 33) 1), defScope (inClass (tp 33) 1), [], []⟩
def d32 : He.DefD := ⟨("Scanner", some "is_at"), "is_at", "Scanner.is_at", defArgs (inClass (tp 33) 2), defBody (inClass (tp 33) 2), defScope (inClass (tp 33) 2), [], []⟩
def d33 : He.DefD := ⟨("Scanner", some "refuse"), "refuse", "Scanner.refuse", defArgs (inClass (tp 33) 3), defBody (inClass (tp 33) 3), defScope (inClass (tp 33) 3), [], []⟩
def d34 : He.DefD := ⟨("Scanner", some "expect"), "expect", "Scanner.expect", defArgs (inClass (tp 33) 4), defBody (inClass (tp 33) 4), defScope (inClass (tp 33) 4), [], []⟩
def d35 : He.DefD := ⟨("Scanner", some "finish"), "finish", "Scanner.finish", defArgs (inClass (tp 33) 5), defBody (inClass (tp 33) 5), defScope (inClass (tp 33) 5), [], []⟩
def d36 : He.DefD := ⟨("Scanner", some "figures_here"), "figures_here", "Scanner.figures_here", defArgs (inClass (tp 33) 6), defBody (inClass (tp 33) 6), defScope (inClass (tp 33) 6), [], []⟩
def d37 : He.DefD := ⟨("Scanner", some "integer"), "integer", "Scanner.integer", defArgs (inClass (tp 33) 7), defBody (inClass (tp 33) 7), defScope (inClass (tp 33) 7), [], []⟩
def d38 : He.DefD := ⟨("Scanner", some "hex_number"), "hex_number", "Scanner.hex_number", defArgs (inClass (tp 33) 8), defBody (inClass (tp 33) 8), defScope (inClass (tp 33) 8), [], []⟩
def d39 : He.DefD := ⟨("Scanner", some "octet_run"), "octet_run", "Scanner.octet_run", defArgs (inClass (tp 33) 9), defBody (inClass (tp 33) 9), defScope (inClass (tp 33) 9), [], []⟩
def d40 : He.DefD := ⟨("Scanner", some "units_here"), "units_here", "Scanner.units_here", defArgs (inClass (tp 33) 10), defBody (inClass (tp 33) 10), defScope (inClass (tp 33) 10), [], []⟩
def d41 : He.DefD := ⟨("Scanner", some "real_here"), "real_here", "Scanner.real_here", defArgs (inClass (tp 33) 11), defBody (inClass (tp 33) 11), defScope (inClass (tp 33) 11), [], []⟩
def d42 : He.DefD := ⟨("Scanner", some "lettered"), "lettered", "Scanner.lettered", defArgs (inClass (tp 33) 12), defBody (inClass (tp 33) 12), defScope (inClass (tp 33) 12), [], []⟩
def d43 : He.DefD := ⟨("Scanner", some "string"), "string", "Scanner.string", defArgs (inClass (tp 33) 13), defBody (inClass (tp 33) 13), defScope (inClass (tp 33) 13), [], []⟩
def d44 : He.DefD := ⟨("Scanner", some "meaning"), "meaning", "Scanner.meaning", defArgs (inClass (tp 33) 14), defBody (inClass (tp 33) 14), defScope (inClass (tp 33) 14), [], []⟩
def d45 : He.DefD := ⟨("Scanner", some "goes_on"), "goes_on", "Scanner.goes_on", defArgs (inClass (tp 33) 15), defBody (inClass (tp 33) 15), defScope (inClass (tp 33) 15), [], []⟩
def d46 : He.DefD := ⟨("Scanner", some "list_here"), "list_here", "Scanner.list_here", defArgs (inClass (tp 33) 16), defBody (inClass (tp 33) 16), defScope (inClass (tp 33) 16), [], []⟩
def d47 : He.DefD := ⟨("Scanner", some "add_member"), "add_member", "Scanner.add_member", defArgs (inClass (tp 33) 17), defBody (inClass (tp 33) 17), defScope (inClass (tp 33) 17), [], []⟩
def d48 : He.DefD := ⟨("Scanner", some "dictionary_here"), "dictionary_here", "Scanner.dictionary_here", defArgs (inClass (tp 33) 18), defBody (inClass (tp 33) 18), defScope (inClass (tp 33) 18), [], []⟩
def d49 : He.DefD := ⟨("Scanner", some "value"), "value", "Scanner.value", defArgs (inClass (tp 33) 19), defBody (inClass (tp 33) 19), defScope (inClass (tp 33) 19), [], []⟩
def d50 : He.DefD := ⟨("read_value", none), "read_value", "read_value", defArgs (tp 34), defBody (tp 34), defScope (tp 34), [], []⟩
def d51 : He.DefD := ⟨("_law_source", none), "_law_source", "_law_source", defArgs (tp 36), defBody (tp 36), defScope (tp 36), [], []⟩
def d52 : He.DefD := ⟨("_law_draw", none), "_law_draw", "_law_draw", defArgs (tp 37), defBody (tp 37), defScope (tp 37), [], []⟩
def d53 : He.DefD := ⟨("_law_pick", none), "_law_pick", "_law_pick", defArgs (tp 38), defBody (tp 38), defScope (tp 38), [], []⟩
def d54 : He.DefD := ⟨("_law_bytes", none), "_law_bytes", "_law_bytes", defArgs (tp 42), defBody (tp 42), defScope (tp 42), [], []⟩
def d55 : He.DefD := ⟨("_law_integer", none), "_law_integer", "_law_integer", defArgs (tp 43), defBody (tp 43), defScope (tp 43), [], []⟩
def d56 : He.DefD := ⟨("_law_string", none), "_law_string", "_law_string", defArgs (tp 44), defBody (tp 44), defScope (tp 44), [], []⟩
def d57 : He.DefD := ⟨("_law_wide", none), "_law_wide", "_law_wide", defArgs (tp 45), defBody (tp 45), defScope (tp 45), [], []⟩
def d58 : He.DefD := ⟨("_law_leaf", none), "_law_leaf", "_law_leaf", defArgs (tp 46), defBody (tp 46), defScope (tp 46), [], []⟩
def d59 : He.DefD := ⟨("_law_hex", none), "_law_hex", "_law_hex", defArgs (tp 39), defBody (tp 39), defScope (tp 39), [], []⟩
def d60 : He.DefD := ⟨("_law_quoted", none), "_law_quoted", "_law_quoted", defArgs (tp 40), defBody (tp 40), defScope (tp 40), [], []⟩
def d61 : He.DefD := ⟨("_law_written", none), "_law_written", "_law_written", defArgs (tp 41), defBody (tp 41), defScope (tp 41), [], []⟩
def d62 : He.DefD := ⟨("_law_unfit", none), "_law_unfit", "_law_unfit", defArgs (tp 47), defBody (tp 47), defScope (tp 47), [], []⟩
def d63 : He.DefD := ⟨("_law_tree", none), "_law_tree", "_law_tree", defArgs (tp 48), defBody (tp 48), defScope (tp 48), [], []⟩
def d64 : He.DefD := ⟨("_law_text", none), "_law_text", "_law_text", defArgs (tp 49), defBody (tp 49), defScope (tp 49), [], []⟩
def d65 : He.DefD := ⟨("_law_due", none), "_law_due", "_law_due", defArgs (tp 50), defBody (tp 50), defScope (tp 50), [], []⟩
def d66 : He.DefD := ⟨("_law_said", none), "_law_said", "_law_said", defArgs (tp 51), defBody (tp 51), defScope (tp 51), [], []⟩
def d67 : He.DefD := ⟨("_law_numbers_right", none), "_law_numbers_right", "_law_numbers_right", defArgs (tp 52), defBody (tp 52), defScope (tp 52), [], []⟩
def d68 : He.DefD := ⟨("_law_right", none), "_law_right", "_law_right", defArgs (tp 53), defBody (tp 53), defScope (tp 53), [], []⟩
def d69 : He.DefD := ⟨("law", none), "law", "law", defArgs (tp 54), defBody (tp 54), defScope (tp 54), [], []⟩
def fn0' : List He.DefD := [d0, d1, d2, d3, d4, d5, d6, d7, d8, d9, d10, d11, d12, d13, d14, d15, d16, d17, d18, d19, d20, d21, d22, d23, d24, d25, d26, d27, d28, d29]
def fn1' : List He.DefD := [d30, d31, d32, d33, d34, d35, d36, d37, d38, d39, d40, d41, d42, d43, d44, d45, d46, d47, d48, d49, d50, d51, d52, d53, d54, d55, d56, d57, d58, d59]
def fn2' : List He.DefD := [d60, d61, d62, d63, d64, d65, d66, d67, d68, d69]
def fn : List He.DefD := fn0' ++ fn1' ++ fn2'
def ex0' : List (PySem.W.Frag → Bool) := [fun K => HdK.oexB K (He.ga K "NoValue"), fun K => xfB K (He.ga K "NoValue"), fun K => decide (PySem.W.findIn K (.ref (He.ga K "NoValue")) "path" = some none), fun K => HdK.oexB K (He.ga K "Large"), fun K => xfB K (He.ga K "Large"), fun K => decide (PySem.W.findIn K (.ref (He.ga K "Large")) "what" = some none), fun K => HdK.oexB K (He.ga K "BadText"), fun K => xfB K (He.ga K "BadText"), fun K => decide (PySem.W.findIn K (.ref (He.ga K "BadText")) "place" = some none), fun K => PySem.W.makesIn K (He.ga K "Wide"), fun K => PySem.W.keepIn K (.ref (He.ga K "Wide")), fun K => PySem.W.plainGet K (He.ga K "Wide") Str.empty, fun K => PySem.W.hasDictIn K (He.ga K "Wide"), fun K => PySem.W.plainOver K (He.ga K "Wide"), fun K => decide (PySem.W.findIn K (.ref (He.ga K "Wide")) "__setattr__" = some (some (.builtin "object.__setattr__"))), fun K => decide (PySem.W.findIn K (.ref (He.ga K "Wide")) "units" = some none), fun K => PySem.W.makesIn K (He.ga K "Data"), fun K => PySem.W.keepIn K (.ref (He.ga K "Data")), fun K => PySem.W.plainGet K (He.ga K "Data") Str.empty, fun K => PySem.W.hasDictIn K (He.ga K "Data")]
def ex1' : List (PySem.W.Frag → Bool) := [fun K => PySem.W.plainOver K (He.ga K "Data"), fun K => decide (PySem.W.findIn K (.ref (He.ga K "Data")) "__setattr__" = some (some (.builtin "object.__setattr__"))), fun K => decide (PySem.W.findIn K (.ref (He.ga K "Data")) "octets" = some none), fun K => PySem.W.makesIn K (He.ga K "Uid"), fun K => PySem.W.keepIn K (.ref (He.ga K "Uid")), fun K => PySem.W.plainGet K (He.ga K "Uid") Str.empty, fun K => PySem.W.hasDictIn K (He.ga K "Uid"), fun K => PySem.W.plainOver K (He.ga K "Uid"), fun K => decide (PySem.W.findIn K (.ref (He.ga K "Uid")) "__setattr__" = some (some (.builtin "object.__setattr__"))), fun K => decide (PySem.W.findIn K (.ref (He.ga K "Uid")) "number" = some none), fun K => PySem.W.makesIn K (He.ga K "Real"), fun K => PySem.W.keepIn K (.ref (He.ga K "Real")), fun K => PySem.W.plainGet K (He.ga K "Real") Str.empty, fun K => PySem.W.hasDictIn K (He.ga K "Real"), fun K => PySem.W.plainOver K (He.ga K "Real"), fun K => decide (PySem.W.findIn K (.ref (He.ga K "Real")) "__setattr__" = some (some (.builtin "object.__setattr__"))), fun K => decide (PySem.W.findIn K (.ref (He.ga K "Real")) "octets" = some none), fun K => PySem.W.makesIn K (He.ga K "Date"), fun K => PySem.W.keepIn K (.ref (He.ga K "Date")), fun K => PySem.W.plainGet K (He.ga K "Date") Str.empty]
def ex2' : List (PySem.W.Frag → Bool) := [fun K => PySem.W.hasDictIn K (He.ga K "Date"), fun K => PySem.W.plainOver K (He.ga K "Date"), fun K => decide (PySem.W.findIn K (.ref (He.ga K "Date")) "__setattr__" = some (some (.builtin "object.__setattr__"))), fun K => decide (PySem.W.findIn K (.ref (He.ga K "Date")) "octets" = some none), fun K => PySem.W.makesIn K (He.ga K "Scanner"), fun K => PySem.W.keepIn K (.ref (He.ga K "Scanner")), fun K => PySem.W.plainGet K (He.ga K "Scanner") Str.empty, fun K => PySem.W.hasDictIn K (He.ga K "Scanner"), fun K => PySem.W.plainOver K (He.ga K "Scanner"), fun K => decide (PySem.W.findIn K (.ref (He.ga K "Scanner")) "__setattr__" = some (some (.builtin "object.__setattr__"))), fun K => decide (PySem.W.findIn K (.ref (He.ga K "Scanner")) "text" = some none), fun K => decide (PySem.W.findIn K (.ref (He.ga K "Scanner")) "place" = some none), fun K => decide (PySem.W.findIn K (.ref (He.ga K "NoValue")) "__init__" = some (some (.ref (He.ma K (He.ga K "NoValue") "__init__")))), fun K => decide (PySem.W.typeIn K (.ref (He.ma K (He.ga K "NoValue") "__init__")) = some (.type "function")), fun K => decide (PySem.W.findIn K (.ref (He.ga K "Large")) "__init__" = some (some (.ref (He.ma K (He.ga K "Large") "__init__")))), fun K => decide (PySem.W.typeIn K (.ref (He.ma K (He.ga K "Large") "__init__")) = some (.type "function")), fun K => decide (PySem.W.findIn K (.ref (He.ga K "BadText")) "__init__" = some (some (.ref (He.ma K (He.ga K "BadText") "__init__")))), fun K => decide (PySem.W.typeIn K (.ref (He.ma K (He.ga K "BadText") "__init__")) = some (.type "function")), fun K => decide (PySem.W.findIn K (.ref (He.ga K "Wide")) "__init__" = some (some (.ref (He.ma K (He.ga K "Wide") "__init__")))), fun K => PySem.W.isFn K (.ref (He.ma K (He.ga K "Wide") "__init__"))]
def ex3' : List (PySem.W.Frag → Bool) := [fun K => decide (PySem.W.findIn K (.ref (He.ga K "Wide")) "class_name" = some (some (.ref (He.ma K (He.ga K "Wide") "class_name")))), fun K => PySem.W.isFn K (.ref (He.ma K (He.ga K "Wide") "class_name")), fun K => decide (PySem.W.findIn K (.ref (He.ga K "Wide")) "facts" = some (some (.ref (He.ma K (He.ga K "Wide") "facts")))), fun K => PySem.W.isFn K (.ref (He.ma K (He.ga K "Wide") "facts")), fun K => decide (PySem.W.findIn K (.ref (He.ga K "Data")) "__init__" = some (some (.ref (He.ma K (He.ga K "Data") "__init__")))), fun K => PySem.W.isFn K (.ref (He.ma K (He.ga K "Data") "__init__")), fun K => decide (PySem.W.findIn K (.ref (He.ga K "Data")) "class_name" = some (some (.ref (He.ma K (He.ga K "Data") "class_name")))), fun K => PySem.W.isFn K (.ref (He.ma K (He.ga K "Data") "class_name")), fun K => decide (PySem.W.findIn K (.ref (He.ga K "Data")) "facts" = some (some (.ref (He.ma K (He.ga K "Data") "facts")))), fun K => PySem.W.isFn K (.ref (He.ma K (He.ga K "Data") "facts")), fun K => decide (PySem.W.findIn K (.ref (He.ga K "Uid")) "__init__" = some (some (.ref (He.ma K (He.ga K "Uid") "__init__")))), fun K => PySem.W.isFn K (.ref (He.ma K (He.ga K "Uid") "__init__")), fun K => decide (PySem.W.findIn K (.ref (He.ga K "Uid")) "class_name" = some (some (.ref (He.ma K (He.ga K "Uid") "class_name")))), fun K => PySem.W.isFn K (.ref (He.ma K (He.ga K "Uid") "class_name")), fun K => decide (PySem.W.findIn K (.ref (He.ga K "Uid")) "facts" = some (some (.ref (He.ma K (He.ga K "Uid") "facts")))), fun K => PySem.W.isFn K (.ref (He.ma K (He.ga K "Uid") "facts")), fun K => decide (PySem.W.findIn K (.ref (He.ga K "Real")) "__init__" = some (some (.ref (He.ma K (He.ga K "Real") "__init__")))), fun K => PySem.W.isFn K (.ref (He.ma K (He.ga K "Real") "__init__")), fun K => decide (PySem.W.findIn K (.ref (He.ga K "Real")) "class_name" = some (some (.ref (He.ma K (He.ga K "Real") "class_name")))), fun K => PySem.W.isFn K (.ref (He.ma K (He.ga K "Real") "class_name"))]
def ex4' : List (PySem.W.Frag → Bool) := [fun K => decide (PySem.W.findIn K (.ref (He.ga K "Real")) "facts" = some (some (.ref (He.ma K (He.ga K "Real") "facts")))), fun K => PySem.W.isFn K (.ref (He.ma K (He.ga K "Real") "facts")), fun K => decide (PySem.W.findIn K (.ref (He.ga K "Date")) "__init__" = some (some (.ref (He.ma K (He.ga K "Date") "__init__")))), fun K => PySem.W.isFn K (.ref (He.ma K (He.ga K "Date") "__init__")), fun K => decide (PySem.W.findIn K (.ref (He.ga K "Date")) "class_name" = some (some (.ref (He.ma K (He.ga K "Date") "class_name")))), fun K => PySem.W.isFn K (.ref (He.ma K (He.ga K "Date") "class_name")), fun K => decide (PySem.W.findIn K (.ref (He.ga K "Date")) "facts" = some (some (.ref (He.ma K (He.ga K "Date") "facts")))), fun K => PySem.W.isFn K (.ref (He.ma K (He.ga K "Date") "facts")), fun K => decide (PySem.W.findIn K (.ref (He.ga K "Scanner")) "__init__" = some (some (.ref (He.ma K (He.ga K "Scanner") "__init__")))), fun K => PySem.W.isFn K (.ref (He.ma K (He.ga K "Scanner") "__init__")), fun K => decide (PySem.W.findIn K (.ref (He.ga K "Scanner")) "sign" = some (some (.ref (He.ma K (He.ga K "Scanner") "sign")))), fun K => PySem.W.isFn K (.ref (He.ma K (He.ga K "Scanner") "sign")), fun K => decide (PySem.W.findIn K (.ref (He.ga K "Scanner")) "is_at" = some (some (.ref (He.ma K (He.ga K "Scanner") "is_at")))), fun K => PySem.W.isFn K (.ref (He.ma K (He.ga K "Scanner") "is_at")), fun K => decide (PySem.W.findIn K (.ref (He.ga K "Scanner")) "refuse" = some (some (.ref (He.ma K (He.ga K "Scanner") "refuse")))), fun K => PySem.W.isFn K (.ref (He.ma K (He.ga K "Scanner") "refuse")), fun K => decide (PySem.W.findIn K (.ref (He.ga K "Scanner")) "expect" = some (some (.ref (He.ma K (He.ga K "Scanner") "expect")))), fun K => PySem.W.isFn K (.ref (He.ma K (He.ga K "Scanner") "expect")), fun K => decide (PySem.W.findIn K (.ref (He.ga K "Scanner")) "finish" = some (some (.ref (He.ma K (He.ga K "Scanner") "finish")))), fun K => PySem.W.isFn K (.ref (He.ma K (He.ga K "Scanner") "finish"))]
def ex5' : List (PySem.W.Frag → Bool) := [fun K => decide (PySem.W.findIn K (.ref (He.ga K "Scanner")) "figures_here" = some (some (.ref (He.ma K (He.ga K "Scanner") "figures_here")))), fun K => PySem.W.isFn K (.ref (He.ma K (He.ga K "Scanner") "figures_here")), fun K => decide (PySem.W.findIn K (.ref (He.ga K "Scanner")) "integer" = some (some (.ref (He.ma K (He.ga K "Scanner") "integer")))), fun K => PySem.W.isFn K (.ref (He.ma K (He.ga K "Scanner") "integer")), fun K => decide (PySem.W.findIn K (.ref (He.ga K "Scanner")) "hex_number" = some (some (.ref (He.ma K (He.ga K "Scanner") "hex_number")))), fun K => PySem.W.isFn K (.ref (He.ma K (He.ga K "Scanner") "hex_number")), fun K => decide (PySem.W.findIn K (.ref (He.ga K "Scanner")) "octet_run" = some (some (.ref (He.ma K (He.ga K "Scanner") "octet_run")))), fun K => PySem.W.isFn K (.ref (He.ma K (He.ga K "Scanner") "octet_run")), fun K => decide (PySem.W.findIn K (.ref (He.ga K "Scanner")) "units_here" = some (some (.ref (He.ma K (He.ga K "Scanner") "units_here")))), fun K => PySem.W.isFn K (.ref (He.ma K (He.ga K "Scanner") "units_here")), fun K => decide (PySem.W.findIn K (.ref (He.ga K "Scanner")) "real_here" = some (some (.ref (He.ma K (He.ga K "Scanner") "real_here")))), fun K => PySem.W.isFn K (.ref (He.ma K (He.ga K "Scanner") "real_here")), fun K => decide (PySem.W.findIn K (.ref (He.ga K "Scanner")) "lettered" = some (some (.ref (He.ma K (He.ga K "Scanner") "lettered")))), fun K => PySem.W.isFn K (.ref (He.ma K (He.ga K "Scanner") "lettered")), fun K => decide (PySem.W.findIn K (.ref (He.ga K "Scanner")) "string" = some (some (.ref (He.ma K (He.ga K "Scanner") "string")))), fun K => PySem.W.isFn K (.ref (He.ma K (He.ga K "Scanner") "string")), fun K => decide (PySem.W.findIn K (.ref (He.ga K "Scanner")) "meaning" = some (some (.ref (He.ma K (He.ga K "Scanner") "meaning")))), fun K => PySem.W.isFn K (.ref (He.ma K (He.ga K "Scanner") "meaning")), fun K => decide (PySem.W.findIn K (.ref (He.ga K "Scanner")) "goes_on" = some (some (.ref (He.ma K (He.ga K "Scanner") "goes_on")))), fun K => PySem.W.isFn K (.ref (He.ma K (He.ga K "Scanner") "goes_on"))]
def ex6' : List (PySem.W.Frag → Bool) := [fun K => decide (PySem.W.findIn K (.ref (He.ga K "Scanner")) "list_here" = some (some (.ref (He.ma K (He.ga K "Scanner") "list_here")))), fun K => PySem.W.isFn K (.ref (He.ma K (He.ga K "Scanner") "list_here")), fun K => decide (PySem.W.findIn K (.ref (He.ga K "Scanner")) "add_member" = some (some (.ref (He.ma K (He.ga K "Scanner") "add_member")))), fun K => PySem.W.isFn K (.ref (He.ma K (He.ga K "Scanner") "add_member")), fun K => decide (PySem.W.findIn K (.ref (He.ga K "Scanner")) "dictionary_here" = some (some (.ref (He.ma K (He.ga K "Scanner") "dictionary_here")))), fun K => PySem.W.isFn K (.ref (He.ma K (He.ga K "Scanner") "dictionary_here")), fun K => decide (PySem.W.findIn K (.ref (He.ga K "Scanner")) "value" = some (some (.ref (He.ma K (He.ga K "Scanner") "value")))), fun K => PySem.W.isFn K (.ref (He.ma K (He.ga K "Scanner") "value")), fun K => decide (PySem.W.specialIn K (.builtin "object.__class__") "__get__" = some (some (.builtin "getset_descriptor.__get__"))), fun K => decide (PySem.W.takesIn K (.builtin "object.__class__") = some true), fun K => decide (PySem.W.kitAny K (.type "NoneType") [.type "bool", .ref (He.ga K "Wide"), .ref (He.ga K "Data"), .ref (He.ga K "Uid"), .ref (He.ga K "Real"), .ref (He.ga K "Date")] = some false), fun K => decide (PySem.W.kitAny K (.type "NoneType") [.type "list", .type "dict"] = some false), fun K => decide (PySem.W.kitOne K (.type "NoneType") (.ref (He.ga K "Wide")) = some false), fun K => decide (PySem.W.kitAny K (.type "bool") [.type "bool", .ref (He.ga K "Wide"), .ref (He.ga K "Data"), .ref (He.ga K "Uid"), .ref (He.ga K "Real"), .ref (He.ga K "Date")] = some true), fun K => decide (PySem.W.kitAny K (.type "bool") [.type "list", .type "dict"] = some false), fun K => decide (PySem.W.kitAny K (.type "int") [.type "bool", .ref (He.ga K "Wide"), .ref (He.ga K "Data"), .ref (He.ga K "Uid"), .ref (He.ga K "Real"), .ref (He.ga K "Date")] = some false), fun K => decide (PySem.W.kitAny K (.type "int") [.type "list", .type "dict"] = some false), fun K => decide (PySem.W.kitOne K (.type "int") (.ref (He.ga K "Wide")) = some false), fun K => decide (PySem.W.kitAny K (.type "str") [.type "bool", .ref (He.ga K "Wide"), .ref (He.ga K "Data"), .ref (He.ga K "Uid"), .ref (He.ga K "Real"), .ref (He.ga K "Date")] = some false), fun K => decide (PySem.W.kitAny K (.type "str") [.type "list", .type "dict"] = some false)]
def ex7' : List (PySem.W.Frag → Bool) := [fun K => decide (PySem.W.kitOne K (.type "str") (.ref (He.ga K "Wide")) = some false), fun K => decide (PySem.W.kitAny K (.type "tuple") [.type "bool", .ref (He.ga K "Wide"), .ref (He.ga K "Data"), .ref (He.ga K "Uid"), .ref (He.ga K "Real"), .ref (He.ga K "Date")] = some false), fun K => decide (PySem.W.kitAny K (.type "tuple") [.type "list", .type "dict"] = some false), fun K => decide (PySem.W.kitAny K (.type "dict") [.type "bool", .ref (He.ga K "Wide"), .ref (He.ga K "Data"), .ref (He.ga K "Uid"), .ref (He.ga K "Real"), .ref (He.ga K "Date")] = some false), fun K => decide (PySem.W.kitAny K (.type "dict") [.type "list", .type "dict"] = some true), fun K => decide (PySem.W.kitAny K (.type "list") [.type "bool", .ref (He.ga K "Wide"), .ref (He.ga K "Data"), .ref (He.ga K "Uid"), .ref (He.ga K "Real"), .ref (He.ga K "Date")] = some false), fun K => decide (PySem.W.kitAny K (.type "list") [.type "list", .type "dict"] = some true), fun K => decide (PySem.W.findIn K (.ref (He.ga K "Wide")) "__class__" = some (some (.builtin "object.__class__"))), fun K => decide (PySem.W.mroIn K (He.ga K "Wide") (.type "object") = some true), fun K => decide (PySem.W.kitAny K (.ref (He.ga K "Wide")) [.type "bool", .ref (He.ga K "Wide"), .ref (He.ga K "Data"), .ref (He.ga K "Uid"), .ref (He.ga K "Real"), .ref (He.ga K "Date")] = some true), fun K => decide (PySem.W.kitAny K (.ref (He.ga K "Wide")) [.type "list", .type "dict"] = some false), fun K => decide (PySem.W.kitOne K (.ref (He.ga K "Wide")) (.ref (He.ga K "Wide")) = some true), fun K => decide (PySem.W.kitOne K (.ref (He.ga K "Wide")) (.type "list") = some false), fun K => decide (PySem.W.kitOne K (.ref (He.ga K "Wide")) (.type "dict") = some false), fun K => decide (PySem.W.kitOne K (.ref (He.ga K "Wide")) (.type "bool") = some false), fun K => decide (PySem.W.kitOne K (.ref (He.ga K "Wide")) (.type "int") = some false), fun K => decide (PySem.W.kitOne K (.ref (He.ga K "Wide")) (.type "str") = some false), fun K => decide (PySem.W.findIn K (.ref (He.ga K "Data")) "__class__" = some (some (.builtin "object.__class__"))), fun K => decide (PySem.W.mroIn K (He.ga K "Data") (.type "object") = some true), fun K => decide (PySem.W.kitAny K (.ref (He.ga K "Data")) [.type "bool", .ref (He.ga K "Wide"), .ref (He.ga K "Data"), .ref (He.ga K "Uid"), .ref (He.ga K "Real"), .ref (He.ga K "Date")] = some true)]
def ex8' : List (PySem.W.Frag → Bool) := [fun K => decide (PySem.W.kitAny K (.ref (He.ga K "Data")) [.type "list", .type "dict"] = some false), fun K => decide (PySem.W.kitOne K (.ref (He.ga K "Data")) (.ref (He.ga K "Wide")) = some false), fun K => decide (PySem.W.kitOne K (.ref (He.ga K "Data")) (.type "list") = some false), fun K => decide (PySem.W.kitOne K (.ref (He.ga K "Data")) (.type "dict") = some false), fun K => decide (PySem.W.kitOne K (.ref (He.ga K "Data")) (.type "bool") = some false), fun K => decide (PySem.W.kitOne K (.ref (He.ga K "Data")) (.type "int") = some false), fun K => decide (PySem.W.kitOne K (.ref (He.ga K "Data")) (.type "str") = some false), fun K => decide (PySem.W.findIn K (.ref (He.ga K "Uid")) "__class__" = some (some (.builtin "object.__class__"))), fun K => decide (PySem.W.mroIn K (He.ga K "Uid") (.type "object") = some true), fun K => decide (PySem.W.kitAny K (.ref (He.ga K "Uid")) [.type "bool", .ref (He.ga K "Wide"), .ref (He.ga K "Data"), .ref (He.ga K "Uid"), .ref (He.ga K "Real"), .ref (He.ga K "Date")] = some true), fun K => decide (PySem.W.kitAny K (.ref (He.ga K "Uid")) [.type "list", .type "dict"] = some false), fun K => decide (PySem.W.kitOne K (.ref (He.ga K "Uid")) (.ref (He.ga K "Wide")) = some false), fun K => decide (PySem.W.kitOne K (.ref (He.ga K "Uid")) (.type "list") = some false), fun K => decide (PySem.W.kitOne K (.ref (He.ga K "Uid")) (.type "dict") = some false), fun K => decide (PySem.W.kitOne K (.ref (He.ga K "Uid")) (.type "bool") = some false), fun K => decide (PySem.W.kitOne K (.ref (He.ga K "Uid")) (.type "int") = some false), fun K => decide (PySem.W.kitOne K (.ref (He.ga K "Uid")) (.type "str") = some false), fun K => decide (PySem.W.findIn K (.ref (He.ga K "Real")) "__class__" = some (some (.builtin "object.__class__"))), fun K => decide (PySem.W.mroIn K (He.ga K "Real") (.type "object") = some true), fun K => decide (PySem.W.kitAny K (.ref (He.ga K "Real")) [.type "bool", .ref (He.ga K "Wide"), .ref (He.ga K "Data"), .ref (He.ga K "Uid"), .ref (He.ga K "Real"), .ref (He.ga K "Date")] = some true)]
def ex9' : List (PySem.W.Frag → Bool) := [fun K => decide (PySem.W.kitAny K (.ref (He.ga K "Real")) [.type "list", .type "dict"] = some false), fun K => decide (PySem.W.kitOne K (.ref (He.ga K "Real")) (.ref (He.ga K "Wide")) = some false), fun K => decide (PySem.W.kitOne K (.ref (He.ga K "Real")) (.type "list") = some false), fun K => decide (PySem.W.kitOne K (.ref (He.ga K "Real")) (.type "dict") = some false), fun K => decide (PySem.W.kitOne K (.ref (He.ga K "Real")) (.type "bool") = some false), fun K => decide (PySem.W.kitOne K (.ref (He.ga K "Real")) (.type "int") = some false), fun K => decide (PySem.W.kitOne K (.ref (He.ga K "Real")) (.type "str") = some false), fun K => decide (PySem.W.findIn K (.ref (He.ga K "Date")) "__class__" = some (some (.builtin "object.__class__"))), fun K => decide (PySem.W.mroIn K (He.ga K "Date") (.type "object") = some true), fun K => decide (PySem.W.kitAny K (.ref (He.ga K "Date")) [.type "bool", .ref (He.ga K "Wide"), .ref (He.ga K "Data"), .ref (He.ga K "Uid"), .ref (He.ga K "Real"), .ref (He.ga K "Date")] = some true), fun K => decide (PySem.W.kitAny K (.ref (He.ga K "Date")) [.type "list", .type "dict"] = some false), fun K => decide (PySem.W.kitOne K (.ref (He.ga K "Date")) (.ref (He.ga K "Wide")) = some false), fun K => decide (PySem.W.kitOne K (.ref (He.ga K "Date")) (.type "list") = some false), fun K => decide (PySem.W.kitOne K (.ref (He.ga K "Date")) (.type "dict") = some false), fun K => decide (PySem.W.kitOne K (.ref (He.ga K "Date")) (.type "bool") = some false), fun K => decide (PySem.W.kitOne K (.ref (He.ga K "Date")) (.type "int") = some false), fun K => decide (PySem.W.kitOne K (.ref (He.ga K "Date")) (.type "str") = some false), fun K => decide (PySem.W.exmOne K (.ref (He.ga K "NoValue")) (.ref (He.ga K "NoValue")) = some true), fun K => decide (PySem.W.exmOne K (.ref (He.ga K "Large")) (.ref (He.ga K "NoValue")) = some false), fun K => decide (PySem.W.exmOne K (.ref (He.ga K "Large")) (.ref (He.ga K "Large")) = some true)]
def ex10' : List (PySem.W.Frag → Bool) := [fun K => PySem.W.makesIn K (He.ga K "Unfit"), fun K => decide (PySem.W.findIn K (.ref (He.ga K "Unfit")) "__init__" = some (some (.builtin "object.__init__"))), fun K => PySem.W.keepIn K (.ref (He.ga K "Unfit")), fun K => PySem.W.plainGet K (He.ga K "Unfit") Str.empty, fun K => PySem.W.hasDictIn K (He.ga K "Unfit"), fun K => PySem.W.plainOver K (He.ga K "Unfit"), fun K => decide (PySem.W.findIn K (.ref (He.ga K "Unfit")) "__setattr__" = some (some (.builtin "object.__setattr__"))), fun K => decide (PySem.W.findIn K (.ref (He.ga K "Unfit")) "__class__" = some (some (.builtin "object.__class__"))), fun K => decide (PySem.W.mroIn K (He.ga K "Unfit") (.type "object") = some true), fun K => decide (PySem.W.kitAny K (.ref (He.ga K "Unfit")) [.type "bool", .ref (He.ga K "Wide"), .ref (He.ga K "Data"), .ref (He.ga K "Uid"), .ref (He.ga K "Real"), .ref (He.ga K "Date")] = some false), fun K => decide (PySem.W.kitOne K (.ref (He.ga K "Unfit")) (.type "list") = some false), fun K => decide (PySem.W.kitOne K (.ref (He.ga K "Unfit")) (.type "dict") = some false), fun K => decide (PySem.W.kitOne K (.ref (He.ga K "Unfit")) (.type "bool") = some false), fun K => decide (PySem.W.kitOne K (.ref (He.ga K "Unfit")) (.type "int") = some false), fun K => decide (PySem.W.kitOne K (.ref (He.ga K "Unfit")) (.type "str") = some false), fun K => decide (PySem.W.kitOne K (.type "list") (.ref (He.ga K "Wide")) = some false), fun K => decide (PySem.W.kitOne K (.type "list") (.ref (He.ga K "Uid")) = some false), fun K => decide (PySem.W.kitOne K (.type "dict") (.ref (He.ga K "Wide")) = some false), fun K => decide (PySem.W.kitOne K (.type "dict") (.ref (He.ga K "Uid")) = some false), fun K => decide (PySem.W.kitOne K (.ref (He.ga K "Wide")) (.ref (He.ga K "Uid")) = some false)]
def ex11' : List (PySem.W.Frag → Bool) := [fun K => decide (PySem.W.kitOne K (.ref (He.ga K "Wide")) (.ref (He.ga K "Data")) = some false), fun K => decide (PySem.W.kitOne K (.ref (He.ga K "Wide")) (.ref (He.ga K "Real")) = some false), fun K => decide (PySem.W.kitOne K (.ref (He.ga K "Data")) (.ref (He.ga K "Uid")) = some false), fun K => decide (PySem.W.kitOne K (.ref (He.ga K "Data")) (.ref (He.ga K "Data")) = some true), fun K => decide (PySem.W.kitOne K (.ref (He.ga K "Data")) (.ref (He.ga K "Real")) = some false), fun K => decide (PySem.W.kitOne K (.ref (He.ga K "Uid")) (.ref (He.ga K "Uid")) = some true), fun K => decide (PySem.W.kitOne K (.ref (He.ga K "Uid")) (.ref (He.ga K "Data")) = some false), fun K => decide (PySem.W.kitOne K (.ref (He.ga K "Uid")) (.ref (He.ga K "Real")) = some false), fun K => decide (PySem.W.kitOne K (.ref (He.ga K "Real")) (.ref (He.ga K "Uid")) = some false), fun K => decide (PySem.W.kitOne K (.ref (He.ga K "Real")) (.ref (He.ga K "Data")) = some false), fun K => decide (PySem.W.kitOne K (.ref (He.ga K "Real")) (.ref (He.ga K "Real")) = some true), fun K => decide (PySem.W.kitOne K (.ref (He.ga K "Date")) (.ref (He.ga K "Uid")) = some false), fun K => decide (PySem.W.kitOne K (.ref (He.ga K "Date")) (.ref (He.ga K "Data")) = some false), fun K => decide (PySem.W.kitOne K (.ref (He.ga K "Date")) (.ref (He.ga K "Real")) = some false), fun K => decide (PySem.W.kitOne K (.ref (He.ga K "Wide")) (.type "tuple") = some false), fun K => decide (PySem.W.kitOne K (.ref (He.ga K "Data")) (.type "tuple") = some false), fun K => decide (PySem.W.kitOne K (.ref (He.ga K "Uid")) (.type "tuple") = some false), fun K => decide (PySem.W.kitOne K (.ref (He.ga K "Real")) (.type "tuple") = some false), fun K => decide (PySem.W.kitOne K (.ref (He.ga K "Date")) (.type "tuple") = some false)]
def ex : List (PySem.W.Frag → Bool) := ex0' ++ ex1' ++ ex2' ++ ex3' ++ ex4' ++ ex5' ++ ex6' ++ ex7' ++ ex8' ++ ex9' ++ ex10' ++ ex11'
abbrev hk : PySem.W.Hook := HdK.hookK fa fn ex
def ob (s : PySem.W.SharedT) : HdK.AlK := HdK.obsKG fa fn ex (HandSHeadRun.getT s)
theorem ob_eq (s : PySem.W.SharedT) : ob s = hk.obs s.abs := HdK.obsKG_eq (HandSHeadRun.getT_eq s)
theorem runF (w : World) : HandSHeadRun.RunEq R (PySem.W.view R.prog [54]) hk ob 20000 nms (w.withFollow "special-get-raises" false) := by
  intro os
  kernel_rfl
theorem runT (w : World) : HandSHeadRun.RunEq R (PySem.W.view R.prog [54]) hk ob 20000 nms (w.withFollow "special-get-raises" true) := by
  intro os
  kernel_rfl
theorem run (w : World) : HandSHeadRun.RunEq R (PySem.W.view R.prog [54]) hk ob 20000 nms w :=
  PySem.W.byRow2 "special-get-raises" (P := fun w => HandSHeadRun.RunEq R (PySem.W.view R.prog [54]) hk ob 20000 nms w) runF runT w
end HeadS

set_option Elab.async false
set_option linter.all false
set_option maxRecDepth 100000
set_option maxHeartbeats 4000000
/-! Rules of my own beside the hand layer: pairs handed out by enumerate and zip over tuples and texts; a text's slice with a step; a try with several clauses, some with a name. -/
namespace G58
open PySem PySem.Spec PyProof.Rows L2

/-! ### new pairs, handed out one by one -/
/-- n pairs while g stands; the i-th one is told by yv -/
def ItP (n : Nat) (g : Hp → Prop) (yv : Nat → V → V → Prop) : It where
  go := fun i H => i < n ∧ g H
  yld := fun i H v H' => ∃ T x y, v = .ref T ∧ H T = none ∧ H' = upd H T (.tup [x, y]) ∧ yv i x y
  stop := fun i H => i = n ∧ g H
theorem walkP {n : Nat} {g : Hp → Prop} {yv : Nat → V → V → Prop} :
    Walk (ItP n g yv) n g (fun i H v H' => ∃ T x y, v = .ref T ∧ H T = none ∧ H' = upd H T (.tup [x, y]) ∧ yv i x y) :=
  ⟨fun _ _ hi q => ⟨hi, q⟩, fun _ q => ⟨rfl, q⟩, fun _ _ _ _ _ _ y => y⟩
/-- what an iterator of pairs owes in a context -/
def PairsIn (X : Cx) (tg : Expr) (I : Addr) (fpA : List Addr) (n : Nat) (yv : Nat → V → V → Prop) (tn : Nat → Heap → Prop) (h0 : Heap) : Prop :=
  ∃ (fp wr : List Addr) (Y : Nat → Heap → Value → Heap → Prop) (St : Nat → Heap → Prop),
    GoesN X.prog X.w X.A tg I fp wr n Y St ∧ (∀ b ∈ wr, b ∈ fpA) ∧ (∀ i, tn i h0 → St i h0) ∧ (∀ i h, St i h → tn i h) ∧
    ∀ i ha v hb, Y i ha v hb → ∃ (T : Addr) (x y : V) (u1 u2 : Value), v = .ref T ∧ ha.objs.size ≤ T ∧ RelV x u1 ∧ RelV y u2 ∧ yv i x y ∧ hb.IsTuple T #[u1, u2]
theorem turnP {P : Program} {w : World} {K : PySem.W.Frag} {tg : Expr} {I : Addr} {fpA : List Addr} {n : Nat} {g : Hp → Prop} {yv : Nat → V → V → Prop} {tn : Nat → Heap → Prop}
    (mem : I ∈ fpA) (obj : ∀ i h, tn i h → ∀ b ∈ fpA, ∃ o, h.get? b = some o ∧ ∀ v, o.data ≠ .cell v)
    (keep : ∀ i h h', tn i h → (∀ b ∈ fpA, ∀ o, h.get? b = some o → h'.get? b = some o) → tn i h')
    (mk : ∀ (X : Cx), X.prog = P → X.w = w → X.K = K → X.calm = true → ∀ (i : Nat) (pins : List (Addr × Obj)) (s : Shared) (σ : L2.St) (H : Hp), Inv X pins σ H s → g H → tn i s.heap → PairsIn X tg I fpA n yv tn s.heap)
    (self : ∀ (A : Around) (i : Nat) (s : Shared) (Q : Value → Shared → Prop) (E : Value → Shared → Prop), tn i s.heap → Q (.ref I) s → wpAny (model P w) A (pyIter (.ref I)) Q E s) :
    Turn P w K tg (ItP n g yv) fpA I tn where
  mem := mem
  obj := obj
  keep := keep
  item := by
    intro X hP hw hK hc i pins s σ H E Iv hf st hg
    obtain ⟨fp, wr, Y, St, W, hwr, toS, ofS, hy⟩ := mk X hP hw hK hc i pins s σ H Iv hg.2 st
    subst hP hw hK
    refine W.goes i s _ E hg.1 (toS i st) fun v h' tk hY st' hk _ => ?_
    obtain ⟨T, x, y, u1, u2, ev, hT, r1, r2, hyv, htup⟩ := hy i _ v h' hY
    have new : ObjOk X.prog X.w (upd H T (.tup [x, y])) h' T (.tup [x, y]) := ⟨by show 2 ≤ sizeLine; decide, [u1, u2], .cons r1 (.cons r2 .nil), htup⟩
    have fpo : ∀ b ∈ wr, FpOk X pins H b := fun b hb => hf b (hwr b hb)
    refine ⟨.ref T, _, Iv.turnedNew (ch := wr) hk fpo hT new, ev, ⟨T, x, y, rfl, Iv.hok.fresh hT, rfl, hyv⟩, ofS _ _ st', fun b hb => ?_⟩
    obtain ⟨o, ho, _⟩ := obj i _ st b hb
    rw [upd_ne (Nat.ne_of_lt (Nat.lt_of_lt_of_le (Heap.lt_size ho) hT))]
    exact (hf b hb).1
  done := by
    intro X hP hw hK hc i pins s σ H E Iv hf st hg
    obtain ⟨fp, wr, Y, St, W, hwr, toS, ofS, hy⟩ := mk X hP hw hK hc i pins s σ H Iv hg.2 st
    subst hP hw hK
    obtain ⟨rfl, _⟩ := hg
    refine W.stops s _ E (toS i st) fun h' tk hk _ => ?_
    exact Iv.turnedL (ch := wr) hk fun b hb => hf b (hwr b hb)
  self := self
theorem pi_or {X : Cx} {tg it : Expr} {w1 w2 : TI} (h1 : PI X tg it w1) (h2 : PI X tg it w2) : PI X tg it (fun σ H R => w1 σ H R ∨ w2 σ H R) :=
  ⟨fun pins s σ H R Iv h => h.elim (h1.run pins s σ H R Iv) (h2.run pins s σ H R Iv)⟩

/-! ### enumerate(v), one argument, any v -/
set_option maxHeartbeats 1000000 in
theorem meets_enum1 {v : Value} {o : Obj} {G : Heap → Prop} (B : Begins v o G) :
    Meets (Builtin.«enumerate.__new__» ⟨[.type "enumerate", v], []⟩) (fun _ R s => G s.heap ∧
      R (.ok (.ret (.ref (s.heap.push o).objs.size))) { s with heap := (s.heap.push o).push { cls := .type "enumerate", data := .fields #[.none, .bool false, .ref s.heap.objs.size, rawInt 0, .none, .none] } }) :=
  .of_wp fun prog w A R s h => by
    obtain ⟨hp, gn, dr, tk, os⟩ := s
    obtain ⟨g1, h⟩ := h
    have hsub := sub_enumerate
    have go : ∀ {A' : Around} {E : Value → Shared → Prop} {Q : Value → Shared → Prop}, Q (.ref hp.objs.size) ⟨hp.push o, gn, dr, tk, os⟩ → wpAny (model prog w) A' (pyIter v) Q E ⟨hp, gn, dr, tk, os⟩ :=
      fun q => B.iter prog w _ _ ⟨hp, gn, dr, tk, os⟩ _ g1 q
    wp_walk using go
    refine wpAny_stack_any fun st => wpAny_pure ?_
    split
    · rename_i c _ _ _ _ _
      cases (c == Value.type "enumerate")
      all_goals
        wp_walk using go
        exact ⟨_, rfl, h⟩
    · wp_walk using go
      exact ⟨_, rfl, h⟩
theorem call_enum1 {prog : Program} {w : World} {A : Around} {E : Value → Shared → Prop} {s : Shared} {v : Value} {o : Obj} {G : Heap → Prop} {Q : Value → Shared → Prop} (B : Begins v o G) (g1 : G s.heap)
    (h : ∀ h', IsEnum h' (s.heap.objs.size + 1) s.heap.objs.size 0 .none → h'.get? s.heap.objs.size = some o → (∀ b u, s.heap.get? b = some u → h'.get? b = some u) → Q (.ref (s.heap.objs.size + 1)) { s with heap := h' }) :
    wpAny (model prog w) A (call (.type "enumerate") [v]) Q E s := by
  refine callType_new F.called_enumerate (by decide) (F.typeCall_enumerate_1 _) (F.newCall_enumerate_1 _) (fun obj => F.args_object_init_2 obj _) F.entry_enumerate_new (meets_enum1 B) ⟨g1, ?_⟩
  have hz : (s.heap.push o).objs.size = s.heap.objs.size + 1 := Heap.size_push ..
  show _ ∧ _
  rw [hz]
  have he : IsEnum ((s.heap.push o).push { cls := .type "enumerate", data := .fields #[.none, .bool false, .ref s.heap.objs.size, rawInt 0, .none, .none] }) (s.heap.objs.size + 1) s.heap.objs.size 0 .none := by
    have q := Heap.get?_push_size (s.heap.push o) (o := { cls := .type "enumerate", data := .fields #[.none, .bool false, .ref s.heap.objs.size, rawInt 0, .none, .none] }) rfl
    rw [hz] at q
    exact q
  exact ⟨⟨_, he, rfl⟩, h _ he (Heap.get?_push_of_some _ (Heap.get?_push_size _ B.free)) fun b u x => Heap.get?_push_of_some _ (Heap.get?_push_of_some _ x)⟩

/-! ### enumerate over a tuple -/
theorem turn_enumT {P : Program} {w : World} {K : PySem.W.Frag} {elts : List Expr} {kk : Nat} {tpos : Pos} {xs : List V} (a e it : Addr) :
    Turn P w K (.Tuple elts kk tpos) (ItP xs.length (fun H => SqT K H a xs) (fun i x y => x = .int (i : Nat) ∧ xs[i]? = some y)) [e, it] e
      (fun i h => (∃ old, IsEnum h e it (0 + (i : Int)) old) ∧ h.IsTupleIter it a i ∧ e ≠ it) := by
  refine turnP (by simp) (fun i h st b hb => ?_) (fun i h h' st k => ?_) (fun X hP hw hK hc i pins s σ H Iv hq st => ?_) (fun A i s Q E st q => ?_)
  · obtain ⟨⟨old, he⟩, ⟨o, ho, hc, hd⟩, _⟩ := st
    have z : b = e ∨ b = it := by simpa using hb
    rcases z with z | z
    · rw [z]; exact ⟨_, he, fun v q => nomatch q⟩
    · rw [z]; exact ⟨o, ho, fun v q => by rw [hd] at q; cases q⟩
  · obtain ⟨⟨old, he⟩, hi, hne⟩ := st
    exact ⟨⟨old, k e (by simp) _ he⟩, hi.at fun o q => k it (by simp) o q, hne⟩
  · subst hP hw hK
    obtain ⟨⟨old, he⟩, hit, hne⟩ := st
    obtain ⟨its, rv, p, hz⟩ := Iv.tuple hq
    have pT : s.heap.IsTuple a its.toArray := p
    have hlen := rv.length
    have n1 : a ≠ it := fun z => by
      obtain ⟨o, ho, hcl, _⟩ := hit
      obtain ⟨o', ho', hcl', _⟩ := pT
      rw [z, ho] at ho'
      cases ho'
      rw [hcl] at hcl'
      exact absurd (Value.type.inj hcl') (by decide)
    have n2 : e ≠ a := fun z => by
      obtain ⟨o', ho', hcl', _⟩ := pT
      have he' : s.heap.get? e = some _ := he
      rw [z, ho'] at he'
      cases he'
      exact absurd (Value.type.inj hcl') (by decide)
    have D : Draws X.prog X.w X.A.in1 it [it, a] its.toArray.size (fun i v => its.toArray[i]? = some v) (fun i h => h.IsTupleIter it a i ∧ h.IsTuple a its.toArray) := Draws.tuple (A := X.A.in1) (show X.A.in1.handled = none from Iv.ok.hd hc) it a n1 its.toArray
    have W := GoesN.enumFrom (elts := elts) (x1 := kk) (pos := tpos) 0 D e hne (fun z => by
      rcases List.mem_cons.mp z with q | q
      · exact hne q
      · exact n2 (List.mem_singleton.mp q)) (by simp)
    have en : its.toArray.size = xs.length := by rw [List.size_toArray]; exact hlen.symm
    rw [en] at W
    refine ⟨_, _, _, _, W, fun b hb => hb, fun j q => ?_, fun j h q => ?_, fun j ha v hb q => ?_⟩
    · exact ⟨q.1, q.2.1, pT⟩
    · exact ⟨q.1, q.2.1, hne⟩
    · obtain ⟨T, t, u, ev, hT, hu, htup⟩ := q
      have hl : j < xs.length := by
        have z := (Array.getElem?_eq_some_iff.mp hu).1
        rw [en] at z
        exact z
      obtain ⟨u', hu', ru⟩ := rv.get (x := xs[j]) (i := j) (by simp [hl])
      have eu : u' = u := by
        have z : its.toArray[j]? = some u' := by simpa using hu'
        rw [z] at hu
        exact Option.some.inj hu
      subst eu
      refine ⟨T, .int (j : Nat), xs[j], .int (0 + (j : Int)) t, u', ev, hT, ⟨t, ?_⟩, ru, ⟨rfl, by simp [hl]⟩, htup⟩
      rw [Int.zero_add]
  · obtain ⟨⟨old, he⟩, _⟩ := st
    exact wpAny_pyIter_enum he q
/-- for i, x in enumerate(t), t a tuple -/
def iEnumT (K : PySem.W.Frag) (ta : TA) : TI := fun σ H R => ta σ H fun vs H1 => ∃ a xs, vs = [.ref a] ∧ SqT K H1 a xs ∧ R (ItP xs.length (fun H => SqT K H a xs) (fun i x y => x = .int (i : Nat) ∧ xs[i]? = some y)) H1
theorem pi_enumT {X : Cx} {e : Expr} {ta : TA} {p pos tpos : Pos} {elts : List Expr} {kk : Nat} (hg : Gl X "enumerate") (hm : X.mg "enumerate" = none) (ha : PA X [e] ta)
    (hs : starEach [e] X.env = [(false, eval e X.env)] := by rfl) : PI X (.Tuple elts kk tpos) (.Call (.Name "enumerate" p) [e] [] pos) (iEnumT X.K ta) := by
  refine ⟨fun pins s σ H R Iv h => ?_⟩
  refine Call_ (ld_blt Iv hg hm boot_enumerate (PyProof.Rows.callWith_type1 (thn (ha.run pos pins s σ H _ Iv h) fun us s1 ⟨vs, H1, I1, r1, q1⟩ => ?_) hs rfl))
  obtain ⟨a, xs, ex, hq, q⟩ := q1
  subst ex
  obtain ⟨u, rfl, ru⟩ := vals1 r1
  obtain rfl : u = Value.ref a := ru
  obtain ⟨its, rv, p', hz⟩ := I1.tuple hq
  have pT : s1.heap.IsTuple a its.toArray := p'
  refine call_enum1 (begins_tuple a its.toArray) pT fun h' he hit hk => wpAny_pyIter_enum he ?_
  have I2 : Inv X pins σ H1 { s1 with heap := h' } := I1.kept (t' := s1.toks) hk
  refine ⟨s1.heap.objs.size + 1, [s1.heap.objs.size + 1, s1.heap.objs.size], _, _, H1, rfl, I2, turn_enumT a (s1.heap.objs.size + 1) s1.heap.objs.size, ⟨⟨.none, he⟩, ⟨_, hit, rfl, rfl⟩, Nat.succ_ne_self _⟩, fun b hb => ?_, q⟩
  have z : b = s1.heap.objs.size + 1 ∨ b = s1.heap.objs.size := by simpa using hb
  have hle : s1.heap.objs.size ≤ b := by
    rcases z with z | z <;> rw [z]
    · exact Nat.le_add_right _ _
    · exact Nat.le_refl _
  exact I1.fpOk hle (I1.hok.fresh hle)

/-! ### enumerate over a text -/
/-- the text of one sign -/
abbrev sgn (c : Nat) : Str := ⟨#[c]⟩
theorem turn_enumS {P : Program} {w : World} {K : PySem.W.Frag} {elts : List Expr} {kk : Nat} {tpos : Pos} (z : Str) (t : Tok) (e it : Addr) :
    Turn P w K (.Tuple elts kk tpos) (ItP z.cps.size (fun _ => True) (fun i x y => x = .int (i : Nat) ∧ ∃ c, z.cps[i]? = some c ∧ y = .str (sgn c))) [e, it] e
      (fun i h => (∃ old, IsEnum h e it (0 + (i : Int)) old) ∧ h.IsStrIter it (strIterType z) z t i ∧ e ≠ it) := by
  refine turnP (by simp) (fun i h st b hb => ?_) (fun i h h' st k => ?_) (fun X hP hw hK hc i pins s σ H Iv hq st => ?_) (fun A i s Q E st q => ?_)
  · obtain ⟨⟨old, he⟩, ⟨o, ho, hc, hd⟩, _⟩ := st
    have y : b = e ∨ b = it := by simpa using hb
    rcases y with y | y
    · rw [y]; exact ⟨_, he, fun v q => nomatch q⟩
    · rw [y]; exact ⟨o, ho, fun v q => by rw [hd] at q; cases q⟩
  · obtain ⟨⟨old, he⟩, ⟨o, ho, r⟩, hne⟩ := st
    exact ⟨⟨old, k e (by simp) _ he⟩, ⟨o, k it (by simp) o ho, r⟩, hne⟩
  · subst hP hw hK
    obtain ⟨⟨old, he⟩, hit, hne⟩ := st
    have D := Draws.text (prog := X.prog) (w := X.w) (A := X.A.in1) (Iv.ok.hd hc) it z t
    have W := GoesN.enumFrom (elts := elts) (x1 := kk) (pos := tpos) 0 D e hne (fun y => hne (List.mem_singleton.mp y)) (by simp)
    refine ⟨_, _, _, _, W, fun b hb => hb, fun j q => ⟨q.1, q.2.1⟩, fun j h q => ⟨q.1, q.2, hne⟩, fun j ha v hb q => ?_⟩
    obtain ⟨T, tk, u, ev, hT, ⟨c, tc, hc', rfl⟩, htup⟩ := q
    refine ⟨T, .int (j : Nat), .str (sgn c), .int (0 + (j : Int)) tk, .str ⟨#[c]⟩ tc, ev, hT, ⟨tk, ?_⟩, ⟨tc, rfl⟩, ⟨rfl, c, hc', rfl⟩, htup⟩
    rw [Int.zero_add]
  · obtain ⟨⟨old, he⟩, _⟩ := st
    exact wpAny_pyIter_enum he q
def iEnumS (ta : TA) : TI := fun σ H R => ta σ H fun vs H1 => ∃ z : Str, vs = [.str z] ∧ R (ItP z.cps.size (fun _ => True) (fun i x y => x = .int (i : Nat) ∧ ∃ c, z.cps[i]? = some c ∧ y = .str (sgn c))) H1
theorem pi_enumS {X : Cx} {e : Expr} {ta : TA} {p pos tpos : Pos} {elts : List Expr} {kk : Nat} (hg : Gl X "enumerate") (hm : X.mg "enumerate" = none) (ha : PA X [e] ta)
    (hs : starEach [e] X.env = [(false, eval e X.env)] := by rfl) : PI X (.Tuple elts kk tpos) (.Call (.Name "enumerate" p) [e] [] pos) (iEnumS ta) := by
  refine ⟨fun pins s σ H R Iv h => ?_⟩
  refine Call_ (ld_blt Iv hg hm boot_enumerate (PyProof.Rows.callWith_type1 (thn (ha.run pos pins s σ H _ Iv h) fun us s1 ⟨vs, H1, I1, r1, q1⟩ => ?_) hs rfl))
  obtain ⟨z, ex, q⟩ := q1
  subst ex
  obtain ⟨u, rfl, ru⟩ := vals1 r1
  obtain ⟨t, rfl⟩ := ru
  refine call_enum1 (begins_text z t) True.intro fun h' he hit hk => wpAny_pyIter_enum he ?_
  have I2 : Inv X pins σ H1 { s1 with heap := h' } := I1.kept (t' := s1.toks) hk
  refine ⟨s1.heap.objs.size + 1, [s1.heap.objs.size + 1, s1.heap.objs.size], _, _, H1, rfl, I2, turn_enumS z t (s1.heap.objs.size + 1) s1.heap.objs.size, ⟨⟨.none, he⟩, ⟨_, hit, rfl, rfl⟩, Nat.succ_ne_self _⟩, fun b hb => ?_, q⟩
  have y : b = s1.heap.objs.size + 1 ∨ b = s1.heap.objs.size := by simpa using hb
  have hle : s1.heap.objs.size ≤ b := by
    rcases y with y | y <;> rw [y]
    · exact Nat.le_add_right _ _
    · exact Nat.le_refl _
  exact I1.fpOk hle (I1.hok.fresh hle)

/-! ### zip of two texts -/
def zipY (y z : Str) : Nat → V → V → Prop := fun i u v => ∃ c d, y.cps[i]? = some c ∧ z.cps[i]? = some d ∧ u = .str (sgn c) ∧ v = .str (sgn d)
theorem turn_zipS {P : Program} {w : World} {K : PySem.W.Frag} {elts : List Expr} {kk : Nat} {tpos : Pos} (y z : Str) (t1 t2 : Tok) (N : Nat) :
    Turn P w K (.Tuple elts kk tpos) (ItP (min y.cps.size z.cps.size) (fun _ => True) (zipY y z)) [N + 4, N + 2, N + 3, N, N + 1] (N + 4)
      (fun i h => IsZip h (N + 4) (N + 2) (N + 3) .none ∧ IsTupOf2 h (N + 2) (.ref N) (.ref (N + 1)) ∧ (∃ a1 a2, IsTupOf2 h (N + 3) a1 a2) ∧ h.IsStrIter N (strIterType y) y t1 i ∧ h.IsStrIter (N + 1) (strIterType z) z t2 i) := by
  refine turnP (by simp) (fun i h st b hb => ?_) (fun i h h' st k => ?_) (fun X hP hw hK hc i pins s σ H Iv hq st => ?_) (fun A i s Q E st q => wpAny_pyIter_zip st.1 q)
  · obtain ⟨hz, hTI, ⟨a1, a2, hTO⟩, ⟨o1, e1, _, d1⟩, ⟨o2, e2, _, d2⟩⟩ := st
    have m : b = N + 4 ∨ b = N + 2 ∨ b = N + 3 ∨ b = N ∨ b = N + 1 := by simpa using hb
    rcases m with m | m | m | m | m <;> rw [m]
    · exact ⟨_, hz, fun v q => nomatch q⟩
    · exact ⟨_, hTI, fun v q => nomatch q⟩
    · exact ⟨_, hTO, fun v q => nomatch q⟩
    · exact ⟨o1, e1, fun v q => by rw [d1] at q; cases q⟩
    · exact ⟨o2, e2, fun v q => by rw [d2] at q; cases q⟩
  · obtain ⟨hz, hTI, ⟨a1, a2, hTO⟩, ⟨o1, e1, r1⟩, ⟨o2, e2, r2⟩⟩ := st
    exact ⟨k _ (by simp) _ hz, k _ (by simp) _ hTI, ⟨a1, a2, k _ (by simp) _ hTO⟩, ⟨o1, k _ (by simp) _ e1, r1⟩, ⟨o2, k _ (by simp) _ e2, r2⟩⟩
  · subst hP hw hK
    have D1 := Draws.text (prog := X.prog) (w := X.w) (A := X.A.in1) (Iv.ok.hd hc) N y t1
    have D2 := Draws.text (prog := X.prog) (w := X.w) (A := X.A.in1) (Iv.ok.hd hc) (N + 1) z t2
    have S : ZipSep2 (N + 4) (N + 2) (N + 3) N (N + 1) [N] [N + 1] := zip_sep2 (fp1 := []) (fp2 := []) (fun b hb => nomatch hb) (fun b hb => nomatch hb)
    have W := GoesN.zip2 (elts := elts) (x1 := kk) (pos := tpos) S D1 D2
    refine ⟨_, _, _, _, W, fun b hb => ?_, fun j q => q, fun j h q => q, fun j ha v hb q => ?_⟩
    · have m : b = N + 4 ∨ b = N + 3 ∨ b = N ∨ b = N + 1 := by simpa using hb
      rcases m with m | m | m | m <;> simp [m]
    · obtain ⟨T, u, u', ev, hT, ⟨c, tc, hc1, rfl⟩, ⟨d, td, hd1, rfl⟩, htup⟩ := q
      exact ⟨T, .str (sgn c), .str (sgn d), .str ⟨#[c]⟩ tc, .str ⟨#[d]⟩ td, ev, hT, ⟨tc, rfl⟩, ⟨td, rfl⟩, ⟨c, d, hc1, hd1, rfl, rfl⟩, htup⟩
def iZipS (ta : TA) : TI := fun σ H R => ta σ H fun vs H1 => ∃ y z : Str, vs = [.str y, .str z] ∧ R (ItP (min y.cps.size z.cps.size) (fun _ => True) (zipY y z)) H1
theorem pi_zipS {X : Cx} {e e2 : Expr} {ta : TA} {p pos tpos : Pos} {elts : List Expr} {kk : Nat} (hg : Gl X "zip") (hm : X.mg "zip" = none) (ha : PA X [e, e2] ta)
    (hs : starEach [e, e2] X.env = (false, eval e X.env) :: starEach [e2] X.env := by rfl) (hpl : (backTo pos (starEach [e2] X.env)).any (·.1) = false := by rfl) :
    PI X (.Tuple elts kk tpos) (.Call (.Name "zip" p) [e, e2] [] pos) (iZipS ta) := by
  refine ⟨fun pins s σ H R Iv h => ?_⟩
  refine Call_ (ld_blt Iv hg hm PyProof.Rows.boot_zip (PyProof.Rows.callWith_type1 (thn (ha.run pos pins s σ H _ Iv h) fun us s1 ⟨vs, H1, I1, r1, q1⟩ => ?_) hs hpl))
  obtain ⟨y, z, ex, q⟩ := q1
  subst ex
  obtain ⟨u1, u2, rfl, ru1, ru2⟩ := vals2 r1
  obtain ⟨t1, rfl⟩ := ru1
  obtain ⟨t2, rfl⟩ := ru2
  refine zip_begins2 (begins_text y t1) (begins_text z t2) True.intro True.intro fun h' hz hTI hTO h1 h2 _ hk => wpAny_pyIter_zip hz ?_
  have I2 : Inv X pins σ H1 { s1 with heap := h' } := I1.kept (t' := s1.toks) hk
  refine ⟨s1.heap.objs.size + 4, [s1.heap.objs.size + 4, s1.heap.objs.size + 2, s1.heap.objs.size + 3, s1.heap.objs.size, s1.heap.objs.size + 1], _, _, H1, rfl, I2, turn_zipS y z t1 t2 s1.heap.objs.size,
    ⟨hz, hTI, ⟨_, _, hTO⟩, ⟨_, h1, rfl, rfl⟩, ⟨_, h2, rfl, rfl⟩⟩, fun b hb => ?_, q⟩
  have m : b = s1.heap.objs.size + 4 ∨ b = s1.heap.objs.size + 2 ∨ b = s1.heap.objs.size + 3 ∨ b = s1.heap.objs.size ∨ b = s1.heap.objs.size + 1 := by simpa using hb
  have hle : s1.heap.objs.size ≤ b := by
    rcases m with m | m | m | m | m <;> rw [m] <;> first | exact Nat.le_refl _ | exact Nat.le_add_right _ _
  exact I1.fpOk hle (I1.hok.fresh hle)

/-! ### a text's slice with a step -/
def stepS (z : Str) (lo hi : Option Int) (k : Int) : Str := ⟨((Builtin.Str.strSliceIndices lo hi k z.length).filterMap (z.cps[·]?)).toArray⟩
def tStepS (te : TE) (tl th ts : TO) : TE := fun σ H Q => te σ H fun x H1 => tl σ H1 fun l H2 => th σ H2 fun u H3 => ts σ H3 fun st H4 =>
  ∃ (z : Str) (k : Int), x = .str z ∧ st = some k ∧ k ≠ 0 ∧ k ≠ 1 ∧ (stepS z l u k).length ≤ sizeLine ∧ Q (.str (stepS z l u k)) H4
theorem pe_stepS {X : Cx} {e st : Expr} {lo hi : Option Expr} {te : TE} {tl th ts : TO} {p2 pos : Pos} (he : PE X e te) (hl : PO X lo tl) (hu : PO X hi th) (hst : PO X (some st) ts) :
    PE X (.Subscript e (.Slice lo hi (some st) p2) pos) (tStepS te tl th ts) := by
  refine ⟨fun pins s σ H Q Iv h => ?_⟩
  refine Subscript_ (thn (he.run pins s σ H _ Iv h) fun v s1 ⟨x, H1, I1, r1, q1⟩ => ?_)
  refine wpAny_Slice (thn (hl.run pins s1 σ H1 _ I1 q1) fun vl s2 ⟨l, H2, I2, pl, q2⟩ => thn (hu.run pins s2 σ H2 _ I2 q2) fun vu s3 ⟨u, H3, I3, pu, q3⟩ =>
    thn (hst.run pins s3 σ H3 _ I3 q3) fun vs s4 ⟨o, H4, I4, ps, z, k, ex, eo, k0, k1, hsz, q⟩ => ?_)
  subst ex eo
  obtain ⟨t, rfl⟩ := r1
  obtain ⟨l', rfl, rfl⟩ := IsPart.raw pl
  obtain ⟨u', rfl, rfl⟩ := IsPart.raw pu
  cases ps with
  | int _ tk =>
    have I5 : Inv X pins σ H4 { s4 with heap := s4.heap.push { cls := .type "slice", data := .fields #[partValue l', partValue u', .int k tk] } } := I4.kept (t' := s4.toks) fun b ob q => Heap.get?_push_of_some _ q
    show wpAny (model X.prog X.w) X.A (subscriptTail e (.Slice lo hi (some st) p2) (.str z t) (.ref s4.heap.objs.size)) (EP X pins σ Q) X.xe { s4 with heap := s4.heap.push { cls := .type "slice", data := .fields #[partValue l', partValue u', .int k tk] } }
    refine tail_any (ops := [.str z t, .ref s4.heap.objs.size]) (typeIs_str _ _ _) F.slot_str_getitem.lookup ?_ (by with_unfolding_all rfl)
    have hk0 : (((some (k, tk) : Option (Int × Tok)).map (·.1)).getD 1 == 0) = false := by
      show (k == 0) = false
      simpa using k0
    refine wpAny_getItem_str_slice (l := l') (u := u') (st := some (k, tk)) ⟨_, Heap.get?_push_size _ rfl, rfl, rfl⟩ hk0 ?_
    have hk1 : (k == 1) = false := by simpa using k1
    show Made.post (if ((k : Int) == 1 && (Builtin.Str.strSliceIndices (l'.map (·.1)) (u'.map (·.1)) k z.length).length == z.length) = true then Made.val (.str z t)
      else Made.str ⟨((Builtin.Str.strSliceIndices (l'.map (·.1)) (u'.map (·.1)) k z.length).filterMap (z.cps[·]?)).toArray⟩) (EP X pins σ Q) _
    rw [hk1, Bool.false_and, if_neg Bool.false_ne_true]
    exact ⟨hsz, .str _, H4, I5.tok _, ⟨_, rfl⟩, q⟩
end G58

set_option Elab.async false
set_option linter.all false
set_option maxRecDepth 100000
set_option maxHeartbeats 4000000
/-! A try with several clauses, with or without a name. -/
namespace G58
open PySem PySem.Spec PyProof.Rows L2
/-- a clause: its class, the slot of its name if it has one, what its suite reads as -/
structure Clause where
  cls : Value
  slot : Option Nat
  ts : Addr → Value → Option Addr → TS
/-- behind a suite its name is gone -/
def unset (i : Nat) (D : Ends) : Ends :=
  ⟨fun s' H' => D.nx (s'.set i none) H', D.rt, fun s' H' => D.bk (s'.set i none) H', fun s' H' => D.ct (s'.set i none) H'⟩
def Clause.does (cl : Clause) (D : Ends) (a : Addr) (k : Value) (d : Option Addr) (st : L2.St) (H : Hp) : Prop :=
  match cl.slot with
  | none => cl.ts a k d D st H
  | some i => i < st.length → cl.ts a k d (unset i D) (st.set i (some (.ref a))) H
/-- what the clauses wish, from the first on -/
def wMix (K : PySem.W.Frag) (Wout : WX) (D : Ends) : List Clause → WX
  | [] => Wout
  | cl :: r => fun k d st H => ∃ b, PySem.W.exmOne K k cl.cls = some b ∧ (b = true → ∀ a, H a = none → cl.does D a k d st H) ∧ (b = false → wMix K Wout D r k d st H)
/-- the suite of a clause -/
def SuiteOk (X : Cx) (body : List Stmt) (ts : Addr → Value → Option Addr → TS) : Prop :=
  ∀ (a : Addr) (oe : Obj) (k : Value) (d : Option Addr) (pn : List (Addr × Obj)), Zc k d oe → (∃ vs, oe.data = .fields vs) → PSs (X.suite a ((a, oe) :: pn)) body (ts a k d)
inductive MixOk (X : Cx) : List ExceptHandler → List Clause → Prop
  | nil : MixOk X [] []
  | bare {x : Str} {c : Value} {ts : Addr → Value → Option Addr → TS} {b0 : Stmt} {suite : List Stmt} {np hp : Pos} {hds : List ExceptHandler} {l : List Clause}
      (hc : Names X x c) (hsu : SuiteOk X (b0 :: suite) ts) (r : MixOk X hds l) : MixOk X (.ExceptHandler (some (.Name x np)) none (b0 :: suite) hp :: hds) (⟨c, none, ts⟩ :: l)
  | named {x n : Str} {i : Nat} {c : Value} {ts : Addr → Value → Option Addr → TS} {b0 : Stmt} {suite : List Stmt} {np hp : Pos} {hds : List ExceptHandler} {l : List Clause}
      (hN : X.N.Nodup) (hi : X.N[i]? = some n) (hln : X.env.kindOf n = some .local)
      (hc : Names X x c) (hsu : SuiteOk X (b0 :: suite) ts) (r : MixOk X hds l) : MixOk X (.ExceptHandler (some (.Name x np)) (some n) (b0 :: suite) hp :: hds) (⟨c, some i, ts⟩ :: l)
section
variable {X : Cx} {body : List Stmt} {h0 : ExceptHandler} {hds : List ExceptHandler} {l : List Clause} {pos : Pos} {tb : WX → TS} {Wout : WX}
theorem name_in_suite {a : Addr} {oe : Obj} {pins : List (Addr × Obj)} {st : L2.St} {H : Hp} {s : Shared} {x : Str} {c : Value} {np : Pos} (S : Inv (X.suite a ((a, oe) :: (X.pn ++ pins))) [] st H s) (hc : Names X x c)
    {Q : Value → Shared → Prop} {E : Value → Shared → Prop} (q : Q c s) : wpAny (model X.prog X.w) (X.A.mark (some (.ref a))) (eval (.Name x np) X.env) Q E s := by
  obtain ⟨hg, hdb, hm | ⟨hm, hv, hnn⟩⟩ := hc
  · exact ld_glob (X := X.suite a ((a, oe) :: (X.pn ++ pins))) S hg hm q hdb
  · exact ld_blt (X := X.suite a ((a, oe) :: (X.pn ++ pins))) S hg hm hv q hnn hdb
theorem ps_try_mix (hs : X.stack = X.env :: X.outer) (hf : X.env.frame = some X.env.locals) (tk : Takes X Wout)
    (hb : ∀ (W : WX) (pn : List (Addr × Obj)) (xe : Value → Shared → Prop), Takes (X.tr pn xe) W → PassesOwn (model X.prog X.w) X.A X.env xe → PSs (X.tr pn xe) body (tb W))
    (hh : MixOk X (h0 :: hds) l) : PS X (.Try body (h0 :: hds) [] [] pos) (fun D st H => tb (wMix X.K Wout D l) D st H) := by
  refine ⟨fun pins s st H D Iv h => ?_⟩
  have ok := Iv.ok
  have hfr : X.A.frames = some (X.env :: X.outer) := ok.frames.trans (congrArg some hs)
  refine wpAny_Try_except ?_
  let catcher : Value → Shared → Prop := fun e s1 => wpAny (model X.prog X.w) X.A (noteFrame e X.env) (fun _ s2 => wpAny (model X.prog X.w) X.A (setFlight e none)
    (fun _ s3 => wpAny (model X.prog X.w) X.A (handleBy e X.env (h0 :: hds)) (SP X pins D) X.xe s3) X.xe s2) X.xe s1
  have takes : Takes (X.tr (X.pn ++ pins) catcher) (wMix X.K Wout D l) := by
    intro u s' xx
    obtain ⟨a, B, sI, pins', st', H', k, d, rfl, J', nb, up, sky, na, os, ag, w⟩ := xx
    have J : Inv X pins st' H' sI := J'.ofTry ok
    have sky' : Sky B (X.env :: X.outer) a (Zc k d) X.env.locals s'.heap := by
      have z : Sky B X.stack a (Zc k d) X.env.locals s'.heap := sky
      rw [hs] at z
      exact z
    refine Sky.land Zc.steady hfr hf sky' fun h3 fl3 up3 => ?_
    have J3 : Inv X pins st' H' { s' with heap := h3 } := J.landed nb fl3.1 (up.trans up3) os ag
    obtain ⟨oe3, vs3, he3, hz3, hd3⟩ := fl3.there
    have apart : a ∉ frs (X.env :: X.outer) := fun hm => by
      obtain ⟨_, o', e', hnf⟩ := fl3.2.2.1.mem hm
      rw [he3] at e'
      cases e'
      exact hnf _ hd3
    have nL : a ≠ X.env.locals := fun z => apart (List.mem_filterMap.mpr ⟨X.env, List.mem_cons_self, by rw [hf, z]⟩)
    have nF : a ∉ X.fs := fun hm => by
      obtain ⟨e, he, q⟩ := List.mem_filterMap.mp hm
      exact apart (List.mem_filterMap.mpr ⟨e, List.mem_cons_of_mem _ he, q⟩)
    have S3 := J3.suite he3 hd3 na nL nF
    have ofType : PySem.W.Looks (model X.prog X.w) h3 (typeOf (.ref a)) k := fun A Q E s kk q => wpAny_typeOf_ref (kk _ _ he3) (by rw [hz3.1]; exact q)
    have go : ∀ {hds' : List ExceptHandler} {l' : List Clause}, MixOk X hds' l' → wMix X.K Wout D l' k d st' H' →
        wpAny (model X.prog X.w) X.A (handleBy (.ref a) X.env hds') (SP X pins D) X.xe { s' with heap := h3 } := by
      intro hds' l' hk
      induction hk with
      | nil =>
        intro w
        refine wpAny_handleBy_nil ?_
        obtain ⟨k1, k2, k3, oe, vs, T, oT, ts', he, hz, hd, hv1, hr⟩ := id fl3
        unfold PySem.passOn
        refine wpAny_bind (wpAny_field he hd hv1 ?_)
        rw [if_neg (show ¬ ((Value.ref T == Value.none) = true) from by simp)]
        have fin : wpAny (model X.prog X.w) X.A (setFlight (.ref a) X.env.frame) (fun _ s4 => wpAny (model X.prog X.w) X.A (throw (.ref a) : Sem Flow) (SP X pins D) X.xe s4) X.xe { s' with heap := h3 } := by
          rw [hf]
          refine HandSPX.setFlight_upZ fl3 fun h4 hh4 up4 => wpAny_throw (tk _ _ ?_)
          exact ⟨a, B, sI, pins, st', H', k, d, rfl, J, nb, (up.trans up3).trans up4, .inr (.inr (by rw [hs]; exact hh4)), na, os, ag, w⟩
        first
          | exact wpAny_bind (wpAny_pure (wpAny_bind fin))
          | exact wpAny_bind fin
      | bare hc hsu r ih =>
        intro w
        obtain ⟨b, hb1, hyes, hno⟩ := w
        refine wpAny_handleBy_cons (codeAny_handlers_test ?_) (by intro q; cases q)
        refine name_in_suite S3 hc ((PySem.W.exm_one (M := model X.prog X.w) J3.kIn ofType hb1).here ?_)
        cases b with
        | true =>
          refine codeAny_handlers_suite ?_
          refine HandSPX.lands_againZ fl3 fun h4 fl4 up4 => ?_
          have J4 : Inv X pins st' H' { s' with heap := h4 } := J.landed nb fl4.1 ((up.trans up3).trans up4) os ag
          obtain ⟨oe4, vs4, he4, hz4, hd4⟩ := fl4.there
          have S4 := J4.suite he4 hd4 na nL nF
          refine wpAny_mono ((hsu a oe4 k d (X.pn ++ pins) hz4 ⟨_, hd4⟩).run [] _ _ H' _ S4 (hyes rfl a na)) (fun f s6 hsp => ?_) (fun _ _ z => False.elim z)
          cases f with
          | ret u =>
            obtain ⟨v6, t6, H6, S6, r6, q6⟩ := hsp
            exact ⟨_, _, _, S6.unsuite ok, r6, q6⟩
          | _ =>
            obtain ⟨t6, H6, S6, q6⟩ := hsp
            exact ⟨_, _, S6.unsuite ok, q6⟩
        | false => exact ih (hno rfl)
      | named hN hi hln hc hsu r ih =>
        intro w
        obtain ⟨b, hb1, hyes, hno⟩ := w
        refine wpAny_handleBy_cons (codeAny_handlers_test ?_) (by intro q; cases q)
        refine name_in_suite S3 hc ((PySem.W.exm_one (M := model X.prog X.w) J3.kIn ofType hb1).here ?_)
        cases b with
        | true =>
          refine codeAny_handlers_suite_as ?_
          refine HandSPX.lands_againZ fl3 fun h4 fl4 up4 => ?_
          have J4 : Inv X pins st' H' { s' with heap := h4 } := J.landed nb fl4.1 ((up.trans up3).trans up4) os ag
          obtain ⟨oe4, vs4, he4, hz4, hd4⟩ := fl4.there
          have S4 := J4.suite he4 hd4 na nL nF
          refine store_ok (X := X.suite a ((a, oe4) :: (X.pn ++ pins))) (v := .ref a) S4 hN hi (.inl hln) rfl (fun s5 S5 => ?_) (.inr hln)
          refine wpAny_mono ((hsu a oe4 k d (X.pn ++ pins) hz4 ⟨_, hd4⟩).run [] s5 _ H' _ S5 (hyes rfl a na (by rw [J.len]; exact (List.getElem?_eq_some_iff.mp hi).1))) (fun f s6 hsp => ?_) (fun _ _ z => False.elim z)
          cases f with
          | ret u =>
            obtain ⟨v6, t6, H6, S6, r6, q6⟩ := hsp
            exact gone_ok (S6.unsuite ok) hN hi hln fun s7 J7 => ⟨_, _, _, J7, r6, q6⟩
          | _ =>
            obtain ⟨t6, H6, S6, q6⟩ := hsp
            exact gone_ok (S6.unsuite ok) hN hi hln fun s7 J7 => ⟨_, _, J7, q6⟩
        | false => exact ih (hno rfl)
    exact go hh w
  refine wpAny_mono ((hb (wMix X.K Wout D l) (X.pn ++ pins) catcher takes PassesOwn.looking).run [] s st H D (Iv.toTry _) h) (fun f s1 hsp => ?_) (fun e s1 he => he)
  cases f with
  | next =>
    obtain ⟨t1, H1, J1, q⟩ := hsp
    exact wpAny_execs_nil ⟨t1, H1, J1.ofTry ok, q⟩
  | ret u =>
    obtain ⟨v, t1, H1, J1, r, q⟩ := hsp
    exact ⟨v, t1, H1, J1.ofTry ok, r, q⟩
  | _ =>
    obtain ⟨t1, H1, J1, q⟩ := hsp
    exact ⟨t1, H1, J1.ofTry ok, q⟩
end
end G58

set_option Elab.async false
set_option linter.all false
set_option maxRecDepth 100000
set_option maxHeartbeats 4000000
/-! Dicts whose keys are nested tuples, over the hand layer. -/
namespace G58
open PySem PySem.Spec PyProof.Rows L2
mutual
/-- the value v is the key k -/
def NV (H : Hp) : NestedKey → V → Prop
  | .none, v => v = .non
  | .num i, v => v = .int i
  | .text x, v => v = .str x
  | .tup ks, v => ∃ p xs, v = .ref p ∧ H p = some (.tup xs) ∧ NVs H ks xs
def NVs (H : Hp) : List NestedKey → List V → Prop
  | [], xs => xs = []
  | k :: ks, xs => ∃ x r, xs = x :: r ∧ NV H k x ∧ NVs H ks r
end
mutual
theorem NV.go {H H' : Hp} (e : ∀ b xs, H b = some (.tup xs) → H' b = some (.tup xs)) : ∀ (k : NestedKey) (v : V), NV H k v → NV H' k v
  | .none, v, h => by
    unfold NV at h ⊢
    exact h
  | .num i, v, h => by
    unfold NV at h ⊢
    exact h
  | .text x, v, h => by
    unfold NV at h ⊢
    exact h
  | .tup ks, v, h => by
    unfold NV at h ⊢
    obtain ⟨p, xs, h1, h2, h3⟩ := h
    exact ⟨p, xs, h1, e _ _ h2, NVs.go e ks xs h3⟩
theorem NVs.go {H H' : Hp} (e : ∀ b xs, H b = some (.tup xs) → H' b = some (.tup xs)) : ∀ (ks : List NestedKey) (xs : List V), NVs H ks xs → NVs H' ks xs
  | [], xs, h => by
    unfold NVs at h ⊢
    exact h
  | k :: ks, xs, h => by
    unfold NVs at h ⊢
    obtain ⟨x, r, h1, h2, h3⟩ := h
    exact ⟨x, r, h1, NV.go e k x h2, NVs.go e ks r h3⟩
end
mutual
theorem nv_is {P : Program} {w : World} {H : Hp} {h : Heap} (ok : HOk P w H h) : ∀ (k : NestedKey) (v : V) (u : Value), NV H k v → RelV v u → NestedIs h k u
  | .none, v, u, n, r => by
    unfold NV at n
    subst n
    cases (show u = Value.none from r)
    exact .none
  | .num i, v, u, n, r => by
    unfold NV at n
    subst n
    obtain ⟨t, e⟩ := (show ∃ t, u = Value.int i t from r)
    subst e
    exact .int i t
  | .text x, v, u, n, r => by
    unfold NV at n
    subst n
    obtain ⟨t, e⟩ := (show ∃ t, u = Value.str x t from r)
    subst e
    exact .text x t
  | .tup ks, v, u, n, r => by
    unfold NV at n
    obtain ⟨p, xs, h1, h2, h3⟩ := n
    subst h1
    cases (show u = Value.ref p from r)
    obtain ⟨_, its, rr, o, e1, e2, m, e3⟩ := (show ObjOk P w H h p (.tup xs) from ok p _ h2)
    exact .tup e1 e2 e3 (by simpa using nvs_is ok ks xs its h3 rr)
theorem nvs_is {P : Program} {w : World} {H : Hp} {h : Heap} (ok : HOk P w H h) : ∀ (ks : List NestedKey) (xs : List V) (us : List Value), NVs H ks xs → Vals xs us → NestedAll h ks us
  | [], xs, us, n, r => by
    unfold NVs at n
    subst n
    cases r
    exact .nil
  | k :: ks, xs, us, n, r => by
    unfold NVs at n
    obtain ⟨x, t, h1, h2, h3⟩ := n
    subst h1
    cases r with
    | cons r1 r2 => exact .cons (nv_is ok k x _ h2 r1) (nvs_is ok ks t _ h3 r2)
end
abbrev NEnt := NestedKey × Addr × V
abbrev NT : List NEnt → List (NestedKey × Addr × Value) → Prop := Paired fun p q => p.1 = q.1 ∧ p.2.1 = q.2.1 ∧ RelV p.2.2 q.2.2
/-- a dict with such keys -/
def ND (P : Program) (w : World) (a : Addr) (kvs : List NEnt) : HO := .ext fun h => kvs.length ≤ sizeLine ∧ (a == sysModules) = false ∧ ∃ xs, NT kvs xs ∧
  ∃ o es ep, h.get? a = some o ∧ o.ExactDict ∧ o.data = .dict es ep ∧ es.toList = xs.map (entryOfKey (nestedKind P w)) ∧ (xs.map (·.1)).Nodup
/-- its keys stand -/
def KOk (H : Hp) (kvs : List NEnt) : Prop := ∀ x ∈ kvs, NV H x.1 (.ref x.2.1) ∧ x.1.depth ≤ 8
theorem KOk.go {H H' : Hp} {kvs : List NEnt} (e : ∀ b xs, H b = some (.tup xs) → H' b = some (.tup xs)) (h : KOk H kvs) : KOk H' kvs := fun x hx => ⟨NV.go e _ _ (h x hx).1, (h x hx).2⟩
def valN (kvs : List NEnt) (k : NestedKey) : Option V := (kvs.find? fun x => decide (x.1 = k)).map (·.2.2)
def putN (kvs : List NEnt) (k : NestedKey) (b : Addr) (v : V) : List NEnt := if (valN kvs k).isSome then kvs.map (fun x => if x.1 = k then (x.1, x.2.1, v) else x) else kvs ++ [(k, b, v)]
theorem NT.val {kvs : List NEnt} {xs : List (NestedKey × Addr × Value)} (r : NT kvs xs) (k : NestedKey) : RelO (valN kvs k) ((atKey xs k).map (·.2)) := by
  unfold NT at r
  induction r with
  | nil => exact True.intro
  | @cons p q ps qs h t ih =>
    obtain ⟨h1, _, h2⟩ := h
    by_cases e : p.1 = k
    · have e' : q.1 = k := h1.symm.trans e
      have a1 : atKey (q :: qs) k = some q.2 := by simp [atKey, List.find?_cons, e']
      have a2 : valN (p :: ps) k = some p.2.2 := by simp [valN, List.find?_cons, e]
      rw [a1, a2]
      exact h2
    · have e' : ¬ q.1 = k := fun z => e (h1.trans z)
      have a1 : atKey (q :: qs) k = atKey qs k := by simp [atKey, List.find?_cons, e']
      have a2 : valN (p :: ps) k = valN ps k := by simp [valN, List.find?_cons, e]
      rw [a1, a2]
      exact ih
theorem NT.repl {kvs : List NEnt} {xs : List (NestedKey × Addr × Value)} (r : NT kvs xs) (k : NestedKey) {y : V} {u : Value} (ry : RelV y u) :
    NT (kvs.map fun x => if x.1 = k then (x.1, x.2.1, y) else x) (xs.map (putAt k u)) := by
  unfold NT at r
  induction r with
  | nil => exact .nil
  | @cons p q ps qs h t ih =>
    rw [List.map_cons, List.map_cons]
    refine .cons ?_ ih
    obtain ⟨h1, h2, h3⟩ := h
    unfold putAt
    by_cases e : p.1 = k
    · rw [if_pos e, if_pos (h1.symm.trans e)]
      exact ⟨h1, h2, ry⟩
    · rw [if_neg e, if_neg (fun z => e (h1.trans z))]
      exact ⟨h1, h2, h3⟩
theorem NT.put {kvs : List NEnt} {xs : List (NestedKey × Addr × Value)} (r : NT kvs xs) (k : NestedKey) {b : Addr} {y : V} {u : Value} (ry : RelV y u) : NT (putN kvs k b y) (storedH xs k b u) := by
  have e : (valN kvs k).isSome = (atKey xs k).isSome := by rw [(r.val k).isSome_eq, Option.isSome_map]
  unfold putN storedH
  rw [e]
  by_cases q : (atKey xs k).isSome = true
  · rw [if_pos q, if_pos q]
    exact r.repl k ry
  · rw [if_neg q, if_neg q]
    exact Paired.snoc r ⟨rfl, rfl, ry⟩
theorem length_putN (kvs : List NEnt) (k : NestedKey) (b : Addr) (v : V) : (putN kvs k b v).length ≤ kvs.length + 1 := by
  unfold putN
  split
  · rw [List.length_map]
    omega
  · rw [List.length_append]
    exact Nat.le_refl _
theorem KOk.put {H : Hp} {kvs : List NEnt} {k : NestedKey} {b : Addr} {v : V} (h : KOk H kvs) (hk : NV H k (.ref b)) (hd : k.depth ≤ 8) : KOk H (putN kvs k b v) := by
  unfold putN
  split
  · intro x hx
    obtain ⟨y, hy, rfl⟩ := List.mem_map.mp hx
    by_cases e : y.1 = k
    · rw [if_pos e]
      exact h y hy
    · rw [if_neg e]
      exact h y hy
  · intro x hx
    rcases List.mem_append.mp hx with hx | hx
    · exact h x hx
    · rw [List.mem_singleton.mp hx]
      exact ⟨hk, hd⟩
section
variable {P : Program} {w : World} {H : Hp} {h : Heap} {a : Addr}
theorem nd_of {kvs : List NEnt} (ok : HOk P w H h) (e : H a = some (ND P w a kvs)) (kk : KOk H kvs) : kvs.length ≤ sizeLine ∧ (a == sysModules) = false ∧ ∃ xs, NT kvs xs ∧ h.DictOfH (nestedKind P w) a xs := by
  obtain ⟨⟨z, y, xs, r, o, es, ep, h1, h2, h3, h4, h5⟩, _, _⟩ := (show ObjOk P w H h a (ND P w a kvs) from ok a _ e)
  refine ⟨z, y, xs, r, o, es, ep, h1, h2, h3, h4, fun x hx => ?_, h5⟩
  have all : ∀ {l : List NEnt} {m : List (NestedKey × Addr × Value)}, NT l m → KOk H l → ∀ x ∈ m, (nestedKind P w).is h x.1 x.2.1 := by
    intro l m q
    unfold NT at q
    induction q with
    | nil =>
      intro _ x hx
      exact nomatch hx
    | @cons p q ps qs hq t ih =>
      intro kl x hx
      rcases List.mem_cons.mp hx with e | hx
      · subst e
        obtain ⟨k1, k2⟩ := kl p (List.mem_cons_self ..)
        rw [hq.1, hq.2.1] at k1
        rw [hq.1] at k2
        exact ⟨nv_is ok _ _ _ k1 rfl, k2⟩
      · exact ih (fun y hy => kl y (List.mem_cons_of_mem _ hy)) x hx
  exact all r kk x hx
theorem nd_new {H' : Hp} {h' : Heap} {kvs : List NEnt} {xs : List (NestedKey × Addr × Value)} (z : kvs.length ≤ sizeLine) (hd : (a == sysModules) = false) (rel : NT kvs xs) (dd : h'.DictOfH (nestedKind P w) a xs) : ObjOk P w H' h' a (ND P w a kvs) := by
  obtain ⟨o, es, ep, h1, h2, h3, h4, _, h5⟩ := dd
  refine ⟨⟨z, hd, xs, rel, o, es, ep, h1, h2, h3, h4, h5⟩, ⟨o, h1⟩, fun g1 g2 p hs => ?_⟩
  obtain ⟨z, y, xs, r, o, es, ep, h1, h2, h3, h4, h5⟩ := p
  exact ⟨z, y, xs, r, o, es, ep, hs _ h1, h2, h3, h4, h5⟩
end
/-- what the dict at a holds at the key y -/
def NGet (P : Program) (w : World) (H : Hp) (a : Addr) (y : V) (r : Option V) : Prop := ∃ kvs k b, H a = some (ND P w a kvs) ∧ KOk H kvs ∧ y = .ref b ∧ NV H k (.ref b) ∧ k.depth ≤ 8 ∧ r = valN kvs k
def NPut (P : Program) (w : World) (H : Hp) (a : Addr) (y v : V) (H' : Hp) : Prop := ∃ kvs k b, H a = some (ND P w a kvs) ∧ KOk H kvs ∧ y = .ref b ∧ NV H k (.ref b) ∧ k.depth ≤ 8 ∧ kvs.length < sizeLine ∧ H' = upd H a (ND P w a (putN kvs k b v))
section
variable {X : Cx} {pins : List (Addr × Obj)} {σ : L2.St} {H : Hp} {s : Shared} {a : Addr} {y v : V} {u r : Value} {o : Option V} {A : Around} {E : Value → Shared → Prop}
theorem nk_room (hu : A.units + 64 < cLine) : (nestedKind X.prog X.w).room A.in1 := by
  show A.units + 1 + 8 < cLine
  omega
theorem n_getItem {Q : Value → Shared → Prop} (hu : A.units + 64 < cLine) (Iv : Inv X pins σ H s) (g : NGet X.prog X.w H a y (some v)) (ry : RelV y u) (h : ∀ w' s', Inv X pins σ H s' → RelV v w' → Q w' s') :
    wpAny (model X.prog X.w) A (getItem (.ref a) u) Q E s := by
  obtain ⟨kvs, k, b, e, kk, ey, nk, dk, l⟩ := g
  subst ey
  cases (show u = Value.ref b from ry)
  obtain ⟨z, hd, xs, rel, dd⟩ := nd_of Iv.hok e kk
  obtain ⟨w', hw, rw'⟩ := RelO.some_of (v := v) (o := (atKey xs k).map (·.2)) (by rw [l]; exact rel.val k)
  obtain ⟨p, hp, hp2⟩ := Option.map_eq_some_iff.mp hw
  refine wpAny_getItem_heap (nk_room hu) ⟨nv_is Iv.hok _ _ _ nk rfl, dk⟩ dd hp ?_
  rw [hp2]
  exact h w' _ (Iv.tok _) rw'
theorem n_in {Q : Value → Shared → Prop} (hu : A.units + 64 < cLine) (Iv : Inv X pins σ H s) (g : NGet X.prog X.w H a y o) (ry : RelV y u) (h : ∀ s', Inv X pins σ H s' → Q (.bool o.isSome) s') :
    wpAny (model X.prog X.w) A (compareOp .In u (.ref a)) Q E s := by
  obtain ⟨kvs, k, b, e, kk, ey, nk, dk, l⟩ := g
  subst ey
  cases (show u = Value.ref b from ry)
  obtain ⟨z, hd, xs, rel, dd⟩ := nd_of Iv.hok e kk
  refine wpAny_in_heap (nk_room hu) ⟨nv_is Iv.hok _ _ _ nk rfl, dk⟩ hd dd ?_
  have q := (rel.val k).isSome_eq
  rw [Option.isSome_map] at q
  rw [← q, ← l]
  exact h _ (Iv.tok _)
theorem n_notIn {Q : Value → Shared → Prop} (hu : A.units + 64 < cLine) (Iv : Inv X pins σ H s) (g : NGet X.prog X.w H a y o) (ry : RelV y u) (h : ∀ s', Inv X pins σ H s' → Q (.bool (!o.isSome)) s') :
    wpAny (model X.prog X.w) A (compareOp .NotIn u (.ref a)) Q E s := by
  obtain ⟨kvs, k, b, e, kk, ey, nk, dk, l⟩ := g
  subst ey
  cases (show u = Value.ref b from ry)
  obtain ⟨z, hd, xs, rel, dd⟩ := nd_of Iv.hok e kk
  refine wpAny_notIn_heap (nk_room hu) ⟨nv_is Iv.hok _ _ _ nk rfl, dk⟩ hd dd ?_
  have q := (rel.val k).isSome_eq
  rw [Option.isSome_map] at q
  rw [← q, ← l]
  exact h _ (Iv.tok _)
theorem n_setItem {H' : Hp} {Q : Unit → Shared → Prop} (hu : A.units + 64 < cLine) (Iv : Inv X pins σ H s) (g : NPut X.prog X.w H a y v H') (ry : RelV y u) (rv : RelV v r) (h : ∀ s', Inv X pins σ H' s' → Q () s') :
    wpAny (model X.prog X.w) A (setItem (.ref a) u r) Q E s := by
  obtain ⟨kvs, k, b, e, kk, ey, nk, dk, l, eH⟩ := g
  subst ey eH
  cases (show u = Value.ref b from ry)
  obtain ⟨z, hd, xs, rel, dd⟩ := nd_of Iv.hok e kk
  have hz : xs.length ≤ sizeLine := by
    rw [← Paired.length rel]
    exact z
  have hl : (putN kvs k b v).length ≤ sizeLine := by
    have := length_putN kvs k b v
    omega
  refine wpAny_setItem_heap (hsz := hz) (nk_room hu) ⟨nv_is Iv.hok _ _ _ nk rfl, dk⟩ dd fun h' dd' hs => h _ ?_
  obtain ⟨q, es, ep, hq, _⟩ := id dd'
  exact d_write Iv (by rw [e]; exact True.intro) hs ⟨q, hq⟩ (nd_new hl hd (rel.put k rv) dd')
theorem nd_typeIs (Iv : Inv X pins σ H s) (g : NGet X.prog X.w H a y o) : s.TypeIs (.ref a) "dict" := by
  obtain ⟨kvs, k, b, e, kk, _⟩ := g
  obtain ⟨_, _, xs, _, dd⟩ := nd_of Iv.hok e kk
  exact dd.typeIs
end
def tNGet (P : Program) (w : World) (td ty : TE) : TE := fun σ H Q => td σ H fun x H1 => ty σ H1 fun y H2 => ∃ a v, x = .ref a ∧ NGet P w H2 a y (some v) ∧ Q v H2
def tNIn (P : Program) (w : World) (ty td : TE) : TE := fun σ H Q => ty σ H fun y H1 => td σ H1 fun x H2 => ∃ a o, x = .ref a ∧ NGet P w H2 a y o ∧ Q (.bl o.isSome) H2
def tNNotIn (P : Program) (w : World) (ty td : TE) : TE := fun σ H Q => ty σ H fun y H1 => td σ H1 fun x H2 => ∃ a o, x = .ref a ∧ NGet P w H2 a y o ∧ Q (.bl (!o.isSome)) H2
def sNPut (P : Program) (w : World) (td ty tv : TE) : TS := fun D σ H => tv σ H fun v H1 => td σ H1 fun x H2 => ty σ H2 fun y H3 => ∃ a H4, x = .ref a ∧ NPut P w H3 a y v H4 ∧ D.nx σ H4
def tNNew (P : Program) (w : World) : TE := fun _ H Q => ∀ p, H p = none → Q (.ref p) (upd H p (ND P w p []))
section
variable {X : Cx} {o i e value : Expr} {pos pos' tpos : Pos} {td ty tv : TE}
theorem pe_nget (hu : X.A.units + 64 < cLine) (ho : PE X o td) (hi : PE X i ty) (hs : NoSl i) : PE X (.Subscript o i pos) (tNGet X.prog X.w td ty) := by
  refine ⟨fun pins s σ H Q Iv h => ?_⟩
  refine subD_of PySem.F.slot_dict_getitem.lookup hs (thn (ho.run pins s σ H _ Iv h) fun u s1 ⟨x, H1, I1, rx, q1⟩ => thn (hi.run pins s1 σ H1 _ I1 q1) fun iv s2 ⟨y, H2, I2, ry, a, v, ex, g, q2⟩ => ?_)
  subst ex
  obtain rfl : u = Value.ref a := rx
  exact ⟨nd_typeIs I2 g, n_getItem hu I2 g ry fun w' s3 I3 rw' => ⟨v, H2, I3, rw', q2⟩⟩
theorem pc_nin (hu : X.A.units + 64 < cLine) (hi : PE X i ty) (ho : PE X o td) : PC X .In i o (tNIn X.prog X.w ty td) := by
  refine ⟨fun pins s σ H Q Iv h => ?_⟩
  refine thn (hi.run pins s σ H _ Iv h) fun iv s1 ⟨y, H1, I1, ry, q1⟩ => thn (ho.run pins s1 σ H1 _ I1 q1) fun u s2 ⟨x, H2, I2, rx, a, ov, ex, g, q2⟩ => ?_
  subst ex
  obtain rfl : u = Value.ref a := rx
  exact n_in hu I2 g ry fun s3 I3 => ⟨.bl ov.isSome, H2, I3, rfl, q2⟩
theorem pc_nnotin (hu : X.A.units + 64 < cLine) (hi : PE X i ty) (ho : PE X o td) : PC X .NotIn i o (tNNotIn X.prog X.w ty td) := by
  refine ⟨fun pins s σ H Q Iv h => ?_⟩
  refine thn (hi.run pins s σ H _ Iv h) fun iv s1 ⟨y, H1, I1, ry, q1⟩ => thn (ho.run pins s1 σ H1 _ I1 q1) fun u s2 ⟨x, H2, I2, rx, a, ov, ex, g, q2⟩ => ?_
  subst ex
  obtain rfl : u = Value.ref a := rx
  exact n_notIn hu I2 g ry fun s3 I3 => ⟨.bl (!ov.isSome), H2, I3, rfl, q2⟩
theorem ps_nput (hu : X.A.units + 64 < cLine) (ho : PE X o td) (hi : PE X i ty) (hv : PE X value tv) (hs : swapsWith value (some (.Subscript o i pos')) pos.line X.env = pure false) :
    PS X (.Assign [.Subscript o i pos'] value pos) (sNPut X.prog X.w td ty tv) := by
  refine ⟨fun pins s σ H D Iv h => ?_⟩
  refine wpAny_Assign_Subscript (thn (hv.run pins s σ H _ Iv h) fun r s1 ⟨v, H1, I1, rv, q1⟩ => thn (ho.run pins s1 σ H1 _ I1 q1) fun u s2 ⟨x, H2, I2, rx, q2⟩ => thn (hi.run pins s2 σ H2 _ I2 q2) fun iv s3 ⟨y, H3, I3, ry, a, H4, ex, g, q3⟩ => ?_) hs
  subst ex
  obtain rfl : u = Value.ref a := rx
  exact n_setItem hu I3 g ry rv fun s4 I4 => ⟨σ, H4, I4, q3⟩
theorem pe_nnew : PE X (.Dict [] [] pos) (tNNew X.prog X.w) := ⟨fun pins s σ H Q Iv h =>
  wpAny_Dict_empty ⟨.ref s.heap.objs.size, _, Iv.laid (a := s.heap.objs.size) (o := ND X.prog X.w s.heap.objs.size []) (t' := s.toks) (fun _ _ q => Heap.get?_push_of_some _ q) (Nat.le_refl _)
    (nd_new (Nat.zero_le _) (beq_eq_false_iff_ne.mpr (Ne.symm (Nat.ne_of_lt Iv.big))) .nil (Heap.DictOfH.new s.heap)), rfl, h _ (Iv.hok.fresh (Nat.le_refl _))⟩⟩
end
end G58

set_option Elab.async false
set_option linter.all false
set_option maxRecDepth 100000
set_option maxHeartbeats 4000000
/-! Rings of a graph by two walks, in plain Lean. -/
namespace G58
namespace Scc
inductive Rch (adj : Nat → List Nat) : Nat → Nat → Prop
  | refl (u : Nat) : Rch adj u u
  | step {u v w : Nat} (e : v ∈ adj u) (r : Rch adj v w) : Rch adj u w
theorem Rch.trans {adj : Nat → List Nat} {u v w : Nat} (a : Rch adj u v) (b : Rch adj v w) : Rch adj u w := by
  induction a with
  | refl => exact b
  | step e _ ih => exact .step e (ih b)
theorem Rch.one {adj : Nat → List Nat} {u v : Nat} (e : v ∈ adj u) : Rch adj u v := .step e (.refl v)
/-- u lies on a ring -/
def OnC (adj : Nat → List Nat) (u : Nat) : Prop := ∃ v ∈ adj u, Rch adj v u
abbrev Stk := List (Nat × Bool)
/-- all grey nodes below an item reach it -/
def St (adj : Nat → List Nat) : Stk → Prop
  | [] => True
  | c :: s => (∀ u, (u, true) ∈ s → Rch adj u c.1) ∧ St adj s
/-- the children of a grey node are seen, or wait above it -/
def Dd (adj : Nat → List Nat) (seen : List Nat) : Stk → Stk → Prop
  | _, [] => True
  | ab, c :: s => (c.2 = true → ∀ z ∈ adj c.1, z ∈ seen ∨ (z, false) ∈ ab) ∧ Dd adj seen (ab ++ [c]) s
theorem Dd.mono {adj : Nat → List Nat} {seen seen' : List Nat} (hs : ∀ z ∈ seen, z ∈ seen') : ∀ {s ab ab' : Stk}, (∀ z, (z, false) ∈ ab → z ∈ seen' ∨ (z, false) ∈ ab') → Dd adj seen ab s → Dd adj seen' ab' s
  | [], _, _, _, _ => True.intro
  | c :: s, ab, ab', h, d => by
    refine ⟨fun hc z hz => ?_, Dd.mono (s := s) hs (fun z hz => ?_) d.2⟩
    · rcases d.1 hc z hz with q | q
      · exact .inl (hs z q)
      · exact h z q
    · rcases List.mem_append.mp hz with q | q
      · rcases h z q with q | q
        · exact .inl q
        · exact .inr (List.mem_append.mpr (.inl q))
      · exact .inr (List.mem_append.mpr (.inr q))
theorem Dd.kids {adj : Nat → List Nat} {seen : List Nat} : ∀ {ks ab s : Stk}, (∀ k ∈ ks, k.2 = false) → Dd adj seen (ab ++ ks) s → Dd adj seen ab (ks ++ s)
  | [], ab, s, _, d => by
    rw [List.append_nil] at d
    exact d
  | k :: ks, ab, s, h, d => by
    refine ⟨fun hc => ?_, Dd.kids (fun q hq => h q (List.mem_cons_of_mem _ hq)) ?_⟩
    · rw [h k (List.mem_cons_self ..)] at hc
      cases hc
    · rw [List.append_assoc]
      exact d
theorem St.kids {adj : Nat → List Nat} : ∀ {ks s : Stk}, (∀ k ∈ ks, k.2 = false) → (∀ k ∈ ks, ∀ u, (u, true) ∈ s → Rch adj u k.1) → St adj s → St adj (ks ++ s)
  | [], s, _, _, d => d
  | k :: ks, s, h, g, d => by
    refine ⟨fun u hu => ?_, St.kids (fun q hq => h q (List.mem_cons_of_mem _ hq)) (fun q hq => g q (List.mem_cons_of_mem _ hq)) d⟩
    rcases List.mem_append.mp hu with q | q
    · have z := h _ (List.mem_cons_of_mem _ q)
      cases z
    · exact g k (List.mem_cons_self ..) u q
/-- the order so far: a child that is not yet in it reaches its last one -/
def Ord (adj : Nat → List Nat) (found : List Nat) : Prop := ∀ pre x post, found = pre ++ x :: post → ∀ y ∈ pre ++ [x], ∀ z ∈ adj y, z ∉ pre ++ [x] → Rch adj z x
structure Inv1 (adj : Nat → List Nat) (stk : Stk) (seen found : List Nat) : Prop where
  st : St adj stk
  dd : Dd adj seen [] stk
  fs : ∀ u ∈ found, u ∈ seen
  gs : ∀ u, (u, true) ∈ stk → u ∈ seen
  sn : ∀ u ∈ seen, u ∈ found ∨ (u, true) ∈ stk
  nd : found.Nodup
  gf : ∀ u, (u, true) ∈ stk → u ∉ found
  g1 : ∀ top u bot, stk = top ++ (u, true) :: bot → (u, true) ∉ bot
  ch : ∀ u ∈ found, ∀ z ∈ adj u, z ∈ seen
  od : Ord adj found
theorem Inv1.start {adj : Nat → List Nat} {seen found : List Nat} (h : Inv1 adj [] seen found) (f : Nat) : Inv1 adj [(f, false)] seen found where
  st := ⟨fun u hu => (nomatch hu), True.intro⟩
  dd := ⟨fun q => (by cases q), True.intro⟩
  fs := h.fs
  gs := fun u hu => by
    rcases List.mem_singleton.mp hu with q
    cases q
  sn := fun u hu => by
    rcases h.sn u hu with q | q
    · exact .inl q
    · exact nomatch q
  nd := h.nd
  gf := fun u hu => by
    rcases List.mem_singleton.mp hu with q
    cases q
  g1 := fun top u bot e => by
    cases top with
    | nil => cases e
    | cons t top =>
      have z := (List.cons.inj e).2
      cases top <;> cases z
  ch := h.ch
  od := h.od
theorem Inv1.done {adj : Nat → List Nat} {s : Stk} {u : Nat} {seen found : List Nat} (h : Inv1 adj ((u, true) :: s) seen found) : Inv1 adj s seen (found ++ [u]) := by
  have us : u ∈ seen := h.gs u (List.mem_cons_self ..)
  have uf : u ∉ found := h.gf u (List.mem_cons_self ..)
  have ub : (u, true) ∉ s := h.g1 [] u s rfl
  have kids : ∀ z ∈ adj u, z ∈ seen := fun z hz => by
    rcases h.dd.1 rfl z hz with q | q
    · exact q
    · exact nomatch q
  refine ⟨h.st.2, Dd.mono (fun z q => q) (fun z hz => ?_) h.dd.2, ?_, fun v hv => h.gs v (List.mem_cons_of_mem _ hv), fun v hv => ?_, ?_, fun v hv => ?_, fun top v bot e => ?_, ?_, ?_⟩
  · rcases List.mem_append.mp hz with q | q
    · exact nomatch q
    · have z := List.mem_singleton.mp q
      cases z
  · intro v hv
    rcases List.mem_append.mp hv with q | q
    · exact h.fs v q
    · rw [List.mem_singleton.mp q]
      exact us
  · rcases h.sn v hv with q | q
    · exact .inl (List.mem_append.mpr (.inl q))
    · rcases List.mem_cons.mp q with q | q
      · cases q
        exact .inl (List.mem_append.mpr (.inr (List.mem_singleton.mpr rfl)))
      · exact .inr q
  · rw [List.nodup_append]
    refine ⟨h.nd, List.nodup_cons.mpr ⟨(fun q => nomatch q), List.nodup_nil⟩, fun a ha b hb e => ?_⟩
    rw [List.mem_singleton.mp hb] at e
    rw [e] at ha
    exact uf ha
  · intro q
    rcases List.mem_append.mp q with q | q
    · exact h.gf v (List.mem_cons_of_mem _ hv) q
    · rw [List.mem_singleton.mp q] at hv
      exact ub hv
  · exact h.g1 ((u, true) :: top) v bot (by rw [e]; rfl)
  · intro v hv z hz
    rcases List.mem_append.mp hv with q | q
    · exact h.ch v q z hz
    · rw [List.mem_singleton.mp q] at hz
      exact kids z hz
  · intro pre x post e y hy z hz hn
    rcases List.eq_nil_or_concat post with rfl | ⟨post', w, rfl⟩
    · obtain ⟨e1, e2⟩ := List.append_inj' e rfl
      have e3 : u = x := (List.cons.inj e2).1
      subst e1 e3
      have zs : z ∈ seen := by
        rcases List.mem_append.mp hy with q | q
        · exact h.ch y q z hz
        · rw [List.mem_singleton.mp q] at hz
          exact kids z hz
      rcases h.sn z zs with q | q
      · exact absurd (List.mem_append.mpr (.inl q)) hn
      · rcases List.mem_cons.mp q with q | q
        · cases q
          exact absurd (List.mem_append.mpr (.inr (List.mem_singleton.mpr rfl))) hn
        · exact h.st.1 z q
    · have e' : found ++ [u] = (pre ++ x :: post') ++ [w] := by
        rw [e]
        simp
      obtain ⟨e1, _⟩ := List.append_inj' e' rfl
      exact h.od pre x post' e1 y hy z hz hn
theorem Inv1.skip {adj : Nat → List Nat} {s : Stk} {u : Nat} {seen found : List Nat} (h : Inv1 adj ((u, false) :: s) seen found) (hu : u ∈ seen) : Inv1 adj s seen found := by
  refine ⟨h.st.2, Dd.mono (fun z q => q) (fun z hz => ?_) h.dd.2, h.fs, fun v hv => h.gs v (List.mem_cons_of_mem _ hv), fun v hv => ?_, h.nd, fun v hv => h.gf v (List.mem_cons_of_mem _ hv), fun top v bot e => h.g1 ((u, false) :: top) v bot (by rw [e]; rfl), h.ch, h.od⟩
  · rcases List.mem_append.mp hz with q | q
    · exact nomatch q
    · have z := List.mem_singleton.mp q
      cases z
      exact .inl hu
  · rcases h.sn v hv with q | q
    · exact .inl q
    · rcases List.mem_cons.mp q with q | q
      · cases q
      · exact .inr q
def kidsOf (adj : Nat → List Nat) (u : Nat) : Stk := ((adj u).map fun c => (c, false)).reverse
theorem mem_kids {adj : Nat → List Nat} {u : Nat} {k : Nat × Bool} : k ∈ kidsOf adj u ↔ k.2 = false ∧ k.1 ∈ adj u := by
  unfold kidsOf
  rw [List.mem_reverse, List.mem_map]
  constructor
  · rintro ⟨c, hc, rfl⟩
    exact ⟨rfl, hc⟩
  · rintro ⟨h1, h2⟩
    exact ⟨k.1, h2, by cases k; cases h1; rfl⟩
theorem Inv1.open {adj : Nat → List Nat} {s : Stk} {u : Nat} {seen found : List Nat} (h : Inv1 adj ((u, false) :: s) seen found) (hu : u ∉ seen) : Inv1 adj (kidsOf adj u ++ (u, true) :: s) (seen ++ [u]) found := by
  have un : (u, true) ∉ s := fun q => hu (h.gs u (List.mem_cons_of_mem _ q))
  have kf : ∀ k ∈ kidsOf adj u, k.2 = false := fun k hk => (mem_kids.mp hk).1
  have gr : ∀ v, (v, true) ∈ kidsOf adj u ++ (u, true) :: s → v = u ∨ (v, true) ∈ s := fun v hv => by
    rcases List.mem_append.mp hv with q | q
    · have z := kf _ q
      cases z
    · rcases List.mem_cons.mp q with q | q
      · cases q
        exact .inl rfl
      · exact .inr q
  refine ⟨St.kids kf (fun k hk v hv => ?_) ⟨fun v hv => h.st.1 v hv, h.st.2⟩, Dd.kids kf ⟨fun _ z hz => .inr ?_, Dd.mono (fun z q => List.mem_append.mpr (.inl q)) (fun z hz => ?_) h.dd.2⟩, fun v hv => List.mem_append.mpr (.inl (h.fs v hv)), fun v hv => ?_, fun v hv => ?_, h.nd, fun v hv => ?_, fun top v bot e => ?_, fun v hv z hz => List.mem_append.mpr (.inl (h.ch v hv z hz)), h.od⟩
  · have e := (mem_kids.mp hk).2
    rcases List.mem_cons.mp hv with q | q
    · cases q
      exact Rch.one e
    · exact (h.st.1 v q).trans (Rch.one e)
  · rw [List.nil_append]
    exact mem_kids.mpr ⟨rfl, hz⟩
  · rcases List.mem_append.mp hz with q | q
    · exact nomatch q
    · have e := List.mem_singleton.mp q
      cases e
      exact .inl (List.mem_append.mpr (.inr (List.mem_singleton.mpr rfl)))
  · rcases gr v hv with rfl | q
    · exact List.mem_append.mpr (.inr (List.mem_singleton.mpr rfl))
    · exact List.mem_append.mpr (.inl (h.gs v (List.mem_cons_of_mem _ q)))
  · rcases List.mem_append.mp hv with q | q
    · rcases h.sn v q with q | q
      · exact .inl q
      · rcases List.mem_cons.mp q with q | q
        · cases q
        · exact .inr (List.mem_append.mpr (.inr (List.mem_cons_of_mem _ q)))
    · rw [List.mem_singleton.mp q]
      exact .inr (List.mem_append.mpr (.inr (List.mem_cons_self ..)))
  · rcases gr v hv with rfl | q
    · exact fun z => hu (h.fs v z)
    · exact h.gf v (List.mem_cons_of_mem _ q)
  · rcases List.append_eq_append_iff.mp e with ⟨as, e1, e2⟩ | ⟨as, e1, e2⟩
    · cases as with
      | nil =>
        rw [List.nil_append] at e2
        obtain ⟨e3, e4⟩ := List.cons.inj e2
        cases e3
        rw [← e4]
        exact un
      | cons t ts =>
        obtain ⟨e3, e4⟩ := List.cons.inj e2
        exact h.g1 ((u, false) :: ts) v bot (by rw [e4]; rfl)
    · cases as with
      | nil =>
        rw [List.nil_append] at e2
        obtain ⟨e3, e4⟩ := List.cons.inj e2
        cases e3
        rw [e4]
        exact un
      | cons t ts =>
        obtain ⟨e3, e4⟩ := List.cons.inj e2
        have m : (v, true) ∈ kidsOf adj u := by
          rw [e1, e3]
          exact List.mem_append.mpr (.inr (List.mem_cons_self ..))
        have z := kf _ m
        cases z
/-! ### paths -/
inductive PIn (adj : Nat → List Nat) (S : Nat → Prop) : Nat → Nat → Nat → Prop
  | refl {f : Nat} (h : S f) : PIn adj S 0 f f
  | step {k x y f : Nat} (h : S x) (e : y ∈ adj x) (r : PIn adj S k y f) : PIn adj S (k + 1) x f
theorem PIn.rch {adj : Nat → List Nat} {S : Nat → Prop} {k x f : Nat} (h : PIn adj S k x f) : Rch adj x f := by
  induction h with
  | refl => exact .refl _
  | step _ e _ ih => exact .step e ih
theorem PIn.head {adj : Nat → List Nat} {S : Nat → Prop} {k x f : Nat} (h : PIn adj S k x f) : S x := by
  cases h with
  | refl h => exact h
  | step h _ _ => exact h
theorem PIn.mono {adj : Nat → List Nat} {S S' : Nat → Prop} (hs : ∀ u, S u → S' u) {k x f : Nat} (h : PIn adj S k x f) : PIn adj S' k x f := by
  induction h with
  | refl h => exact .refl (hs _ h)
  | step h e _ ih => exact .step (hs _ h) e ih
/-- the first step out of a set -/
theorem PIn.exit {adj : Nat → List Nat} {S : Nat → Prop} {pre : List Nat} {k x f : Nat} (h : PIn adj S k x f) (hx : x ∈ pre) (hf : f ∉ pre) : ∃ y z j, y ∈ pre ∧ z ∈ adj y ∧ z ∉ pre ∧ j < k ∧ PIn adj S j z f := by
  induction h with
  | refl => exact absurd hx hf
  | @step k x y f h e r ih =>
    by_cases hy : y ∈ pre
    · obtain ⟨a, b, j, h1, h2, h3, h4, h5⟩ := ih hy hf
      exact ⟨a, b, j, h1, h2, h3, by omega, h5⟩
    · exact ⟨x, y, k, hx, e, hy, by omega, r⟩
/-- a path whose nodes all stand not behind f: f reaches its begin -/
theorem back {adj : Nat → List Nat} {A B : List Nat} {f : Nat} (hn : (A ++ f :: B).Nodup) (ho : Ord adj (A ++ f :: B)) : ∀ (n k x : Nat), k ≤ n → PIn adj (fun u => u ∈ A ++ [f]) k x f → Rch adj f x := by
  intro n
  induction n with
  | zero =>
    intro k x hk p
    obtain rfl : k = 0 := by omega
    cases p
    exact .refl _
  | succ n ih =>
    intro k x hk p
    by_cases hxf : x = f
    · rw [hxf]
      exact .refl _
    have hx : x ∈ A := by
      rcases List.mem_append.mp p.head with q | q
      · exact q
      · exact absurd (List.mem_singleton.mp q) hxf
    obtain ⟨A1, A2, rfl⟩ := List.append_of_mem hx
    have hf : f ∉ A1 ++ [x] := fun q => by
      have h2 : f ∈ A1 ++ x :: A2 := by
        rcases List.mem_append.mp q with q | q
        · exact List.mem_append.mpr (.inl q)
        · rw [List.mem_singleton.mp q]
          exact List.mem_append.mpr (.inr (List.mem_cons_self ..))
      exact (List.nodup_append.mp hn).2.2 f h2 f (List.mem_cons_self ..) rfl
    obtain ⟨y, z, j, h1, h2, h3, h4, h5⟩ := p.exit (pre := A1 ++ [x]) (List.mem_append.mpr (.inr (List.mem_singleton.mpr rfl))) hf
    have r1 := ho A1 x (A2 ++ f :: B) (by simp) y h1 z h2 h3
    exact (ih j z (by omega) h5).trans r1
end Scc
end G58

set_option Elab.async false
set_option linter.all false
set_option maxRecDepth 100000
set_option maxHeartbeats 4000000
/-! The second walk: groups, and the least node on a ring. -/
namespace G58
namespace Scc
theorem PIn.last {adj : Nat → List Nat} {S : Nat → Prop} {k x f : Nat} (h : PIn adj S k x f) : S f := by
  induction h with
  | refl h => exact h
  | step _ _ _ ih => exact ih
structure Inv2 (adj : Nat → List Nat) (order old : List Nat) (f : Nat) (wt seen G : List Nat) : Prop where
  sn : ∀ u, u ∈ seen ↔ u ∈ old ∨ u ∈ G
  no : ∀ u ∈ G, u ∉ old
  pa : ∀ u ∈ G, ∃ k, PIn adj (fun x => x ∈ G) k u f
  wg : ∀ u ∈ wt, u = f ∨ ∃ x ∈ G, x ∈ adj u
  cl : ∀ x ∈ G, ∀ y ∈ order, x ∈ adj y → y ∈ seen ∨ y ∈ wt
  ld : f ∈ seen ∨ f ∈ wt
  nd : G.Nodup
  bw : ∀ u ∈ wt, u ∈ order
  bg : ∀ u ∈ G, u ∈ order
theorem Inv2.start {adj : Nat → List Nat} {order old : List Nat} {f : Nat} (hf : f ∈ order) : Inv2 adj order old f [f] old [] where
  sn := fun u => ⟨.inl, fun h => h.elim id (fun q => nomatch q)⟩
  no := fun u h => nomatch h
  pa := fun u h => nomatch h
  wg := fun u h => .inl (List.mem_singleton.mp h)
  cl := fun x h => nomatch h
  ld := .inr (List.mem_singleton.mpr rfl)
  nd := List.nodup_nil
  bw := fun u h => by
    rw [List.mem_singleton.mp h]
    exact hf
  bg := fun u h => nomatch h
theorem Inv2.skip {adj : Nat → List Nat} {order old : List Nat} {f u : Nat} {w0 seen G : List Nat} (h : Inv2 adj order old f (w0 ++ [u]) seen G) (hu : u ∈ seen) : Inv2 adj order old f w0 seen G where
  sn := h.sn
  no := h.no
  pa := h.pa
  wg := fun v hv => h.wg v (List.mem_append.mpr (.inl hv))
  cl := fun x hx y hy e => by
    rcases h.cl x hx y hy e with q | q
    · exact .inl q
    · rcases List.mem_append.mp q with q | q
      · exact .inr q
      · rw [List.mem_singleton.mp q]
        exact .inl hu
  ld := by
    rcases h.ld with q | q
    · exact .inl q
    · rcases List.mem_append.mp q with q | q
      · exact .inr q
      · rw [List.mem_singleton.mp q]
        exact .inl hu
  nd := h.nd
  bw := fun v hv => h.bw v (List.mem_append.mpr (.inl hv))
  bg := h.bg
theorem Inv2.open {adj : Nat → List Nat} {order old : List Nat} {f u : Nat} {w0 seen G us : List Nat} (h : Inv2 adj order old f (w0 ++ [u]) seen G) (hu : u ∉ seen) (hus : ∀ y, y ∈ us ↔ y ∈ order ∧ u ∈ adj y) :
    Inv2 adj order old f (w0 ++ us) (seen ++ [u]) (G ++ [u]) := by
  have uG : u ∉ G := fun q => hu ((h.sn u).mpr (.inr q))
  have uo : u ∉ old := fun q => hu ((h.sn u).mpr (.inl q))
  have up : ∀ x, x ∈ G → x ∈ G ++ [u] := fun x q => List.mem_append.mpr (.inl q)
  have um : u ∈ G ++ [u] := List.mem_append.mpr (.inr (List.mem_singleton.mpr rfl))
  refine ⟨fun v => ?_, fun v hv => ?_, fun v hv => ?_, fun v hv => ?_, fun x hx y hy e => ?_, ?_, ?_, fun v hv => ?_, fun v hv => ?_⟩
  · rw [List.mem_append, List.mem_append, h.sn v, or_assoc]
  · rcases List.mem_append.mp hv with q | q
    · exact h.no v q
    · rw [List.mem_singleton.mp q]
      exact uo
  · rcases List.mem_append.mp hv with q | q
    · obtain ⟨k, p⟩ := h.pa v q
      exact ⟨k, p.mono up⟩
    · rw [List.mem_singleton.mp q]
      rcases h.wg u (List.mem_append.mpr (.inr (List.mem_singleton.mpr rfl))) with rfl | ⟨x, hx, e⟩
      · exact ⟨0, .refl um⟩
      · obtain ⟨k, p⟩ := h.pa x hx
        exact ⟨k + 1, .step um e (p.mono up)⟩
  · rcases List.mem_append.mp hv with q | q
    · rcases h.wg v (List.mem_append.mpr (.inl q)) with e | ⟨x, hx, e⟩
      · exact .inl e
      · exact .inr ⟨x, up x hx, e⟩
    · exact .inr ⟨u, um, ((hus v).mp q).2⟩
  · rcases List.mem_append.mp hx with q | q
    · rcases h.cl x q y hy e with z | z
      · exact .inl (List.mem_append.mpr (.inl z))
      · rcases List.mem_append.mp z with z | z
        · exact .inr (List.mem_append.mpr (.inl z))
        · exact .inl (List.mem_append.mpr (.inr z))
    · rw [List.mem_singleton.mp q] at e
      exact .inr (List.mem_append.mpr (.inr ((hus y).mpr ⟨hy, e⟩)))
  · rcases h.ld with q | q
    · exact .inl (List.mem_append.mpr (.inl q))
    · rcases List.mem_append.mp q with q | q
      · exact .inr (List.mem_append.mpr (.inl q))
      · exact .inl (List.mem_append.mpr (.inr q))
  · rw [List.nodup_append]
    refine ⟨h.nd, List.nodup_cons.mpr ⟨(fun q => nomatch q), List.nodup_nil⟩, fun a ha b hb e => ?_⟩
    rw [List.mem_singleton.mp hb] at e
    rw [e] at ha
    exact uG ha
  · rcases List.mem_append.mp hv with q | q
    · exact h.bw v (List.mem_append.mpr (.inl q))
    · exact ((hus v).mp q).1
  · rcases List.mem_append.mp hv with q | q
    · exact h.bg v q
    · rw [List.mem_singleton.mp q]
      exact h.bw u (List.mem_append.mpr (.inr (List.mem_singleton.mpr rfl)))
/-- behind some leaders -/
structure Out (adj : Nat → List Nat) (order B old rings : List Nat) : Prop where
  o1 : ∀ u ∈ B, u ∈ old
  o2 : ∀ x ∈ old, ∀ y ∈ order, x ∈ adj y → y ∈ old
  r1 : ∀ r ∈ rings, r ∈ order ∧ OnC adj r
  r2 : ∀ u ∈ old, OnC adj u → ∃ r ∈ rings, r ≤ u
theorem Out.start {adj : Nat → List Nat} {order : List Nat} : Out adj order [] [] [] := ⟨(fun u h => nomatch h), (fun x h => nomatch h), (fun r h => nomatch h), (fun u h => nomatch h)⟩
def isRing (adj : Nat → List Nat) (f : Nat) (G : List Nat) : Prop := 1 < G.length ∨ (G = [f] ∧ f ∈ adj f)
theorem pre_closed {adj : Nat → List Nat} {order S : List Nat} (all : ∀ u ∈ order, ∀ v ∈ adj u, v ∈ order) (cl : ∀ x ∈ S, ∀ y ∈ order, x ∈ adj y → y ∈ S) {v f : Nat} (r : Rch adj v f) (hv : v ∈ order) (hf : f ∈ S) : v ∈ S := by
  induction r with
  | refl => exact hf
  | @step u w f e r ih => exact cl w (ih (all u hv w e) hf) u hv e
theorem Out.next {adj : Nat → List Nat} {A B old rings seen G : List Nat} {f : Nat} (all : ∀ u ∈ A ++ f :: B, ∀ v ∈ adj u, v ∈ A ++ f :: B) (hn : (A ++ f :: B).Nodup) (ho : Ord adj (A ++ f :: B)) (h : Out adj (A ++ f :: B) B old rings) (i : Inv2 adj (A ++ f :: B) old f [] seen G) :
    (isRing adj f G → ∀ m, m ∈ G → (∀ x ∈ G, m ≤ x) → Out adj (A ++ f :: B) (f :: B) seen (rings ++ [m])) ∧ (¬ isRing adj f G → Out adj (A ++ f :: B) (f :: B) seen rings) := by
  have fs : f ∈ seen := by
    rcases i.ld with q | q
    · exact q
    · exact nomatch q
  have o1 : ∀ u ∈ f :: B, u ∈ seen := fun u hu => by
    rcases List.mem_cons.mp hu with rfl | q
    · exact fs
    · exact (i.sn u).mpr (.inl (h.o1 u q))
  have o2 : ∀ x ∈ seen, ∀ y ∈ A ++ f :: B, x ∈ adj y → y ∈ seen := fun x hx y hy e => by
    rcases (i.sn x).mp hx with q | q
    · exact (i.sn y).mpr (.inl (h.o2 x q y hy e))
    · rcases i.cl x q y hy e with z | z
      · exact z
      · exact nomatch z
  have hof : f ∈ A ++ f :: B := List.mem_append.mpr (.inr (List.mem_cons_self ..))
  -- a group's nodes are reached by its leader
  have inA : ∀ u ∈ G, u ∈ A ++ [f] := fun u hu => by
    rcases List.mem_append.mp (i.bg u hu) with q | q
    · exact List.mem_append.mpr (.inl q)
    · rcases List.mem_cons.mp q with q | q
      · exact List.mem_append.mpr (.inr (List.mem_singleton.mpr q))
      · exact absurd (h.o1 u q) (i.no u hu)
  have to : ∀ x ∈ G, Rch adj x f := fun x hx => by
    obtain ⟨k, p⟩ := i.pa x hx
    exact p.rch
  have fro : ∀ x ∈ G, Rch adj f x := fun x hx => by
    obtain ⟨k, p⟩ := i.pa x hx
    exact back hn ho k k x (Nat.le_refl _) (p.mono inA)
  have fG : ∀ x ∈ G, f ∈ G := fun x hx => by
    obtain ⟨k, p⟩ := i.pa x hx
    exact p.last
  have yes : isRing adj f G → ∀ x ∈ G, OnC adj x := fun hr x hx => by
    have other : ∀ y ∈ G, y ≠ x → OnC adj x := fun y hy ne => by
      have r := (to x hx).trans (fro y hy)
      cases r with
      | refl => exact absurd rfl ne
      | @step _ v _ e r => exact ⟨v, e, r.trans ((to y hy).trans (fro x hx))⟩
    rcases hr with hr | ⟨rfl, e⟩
    · match G, hr, hx, other, i.nd with
      | a :: b :: t, _, hx, other, nd =>
        by_cases ea : a = x
        · refine other b (List.mem_cons_of_mem _ (List.mem_cons_self ..)) fun eb => ?_
          rw [ea, ← eb] at nd
          exact (List.nodup_cons.mp nd).1 (List.mem_cons_self ..)
        · exact other a (List.mem_cons_self ..) ea
    · rw [List.mem_singleton.mp hx]
      exact ⟨f, e, .refl f⟩
  have no : ¬ isRing adj f G → ∀ x ∈ G, ¬ OnC adj x := fun hr x hx oc => by
    have f1 := fG x hx
    have hl : G = [f] := by
      have hle : ¬ 1 < G.length := fun q => hr (.inl q)
      match G, hle, f1 with
      | [a], _, f1 => rw [List.mem_singleton.mp f1]
      | a :: b :: t, hle, _ => exact absurd (by rw [List.length_cons, List.length_cons]; omega) hle
    have nf : f ∉ adj f := fun q => hr (.inr ⟨hl, q⟩)
    rw [hl] at hx
    rw [List.mem_singleton.mp hx] at oc
    obtain ⟨v, e, r⟩ := oc
    have vo : v ∈ A ++ f :: B := all f hof v e
    have vs : v ∈ seen := pre_closed all o2 r vo fs
    rcases (i.sn v).mp vs with q | q
    · exact i.no f f1 (h.o2 v q f hof e)
    · rw [hl] at q
      rw [List.mem_singleton.mp q] at e
      exact nf e
  refine ⟨fun hr m hm hle => ⟨o1, o2, fun r q => ?_, fun u hu oc => ?_⟩, fun hr => ⟨o1, o2, h.r1, fun u hu oc => ?_⟩⟩
  · rcases List.mem_append.mp q with q | q
    · exact h.r1 r q
    · rw [List.mem_singleton.mp q]
      exact ⟨i.bg m hm, yes hr m hm⟩
  · rcases (i.sn u).mp hu with q | q
    · obtain ⟨r, h1, h2⟩ := h.r2 u q oc
      exact ⟨r, List.mem_append.mpr (.inl h1), h2⟩
    · exact ⟨m, List.mem_append.mpr (.inr (List.mem_singleton.mpr rfl)), hle u q⟩
  · rcases (i.sn u).mp hu with q | q
    · exact h.r2 u q oc
    · exact absurd oc (no hr u q)
end Scc
end G58

set_option Elab.async false
set_option linter.all false
set_option maxRecDepth 100000
set_option maxHeartbeats 4000000
/-! Small things: heaps that grow, rows of ints, lists or tuples. -/
namespace G58
open PySem PySem.Spec PyProof.Rows L2
theorem same_new {H H1 : Hp} (s : Same H H1) {d : Addr} {o : HO} (hd : H1 d = none) : Same H (upd H1 d o) := fun b u e => by
  rw [upd_ne (ne_of_none (s b u e) hd)]
  exact s b u e
theorem Same.tup {K : PySem.W.Frag} {H H' : Hp} {p : Addr} {xs : List V} (e : Same H H') (h : SqT K H p xs) : SqT K H' p xs := by
  rcases h with (h | ⟨o, h⟩) | h
  · exact .inl (.inl (e _ _ h))
  · exact .inl (.inr ⟨o, e _ _ h⟩)
  · exact .inr h
theorem ifNeT {c A B : Prop} [Decidable c] (hc : ¬ c) (h : A) : if (!decide c) = true then A else B := by
  rw [decide_eq_false hc]
  exact iteT h
theorem ifNeF {c A B : Prop} [Decidable c] (hc : c) (h : B) : if (!decide c) = true then A else B := by
  rw [decide_eq_true hc]
  exact iteF h
abbrev vInts (ns : List Nat) : List V := ns.map fun n => V.int (n : Nat)
theorem vInts_app (l r : List Nat) : vInts (l ++ r) = vInts l ++ vInts r := List.map_append ..
theorem vInts_rev (l : List Nat) : vInts l.reverse = (vInts l).reverse := List.map_reverse ..
theorem vInts_len (l : List Nat) : (vInts l).length = l.length := List.length_map ..
theorem vInts_at {l : List Nat} {i n : Nat} (h : l[i]? = some n) : (vInts l)[i]? = some (.int (n : Nat)) := by
  rw [List.getElem?_map, h]
  rfl
theorem vInts_get {l : List Nat} {i : Nat} {x : V} (h : (vInts l)[i]? = some x) : ∃ n, l[i]? = some n ∧ x = .int (n : Nat) := by
  rw [List.getElem?_map] at h
  obtain ⟨n, h1, h2⟩ := Option.map_eq_some_iff.mp h
  exact ⟨n, h1, h2.symm⟩
def Bytes (ns : List Nat) : Prop := ∀ n ∈ ns, n < 256
theorem Bytes.app {l r : List Nat} (a : Bytes l) (b : Bytes r) : Bytes (l ++ r) := fun n h => (List.mem_append.mp h).elim (a n) (b n)
theorem Bytes.nil : Bytes [] := fun n h => nomatch h
theorem Bytes.one {n : Nat} (h : n < 256) : Bytes [n] := fun m hm => by
  rw [List.mem_singleton.mp hm]
  exact h
/-- a list or a tuple -/
def SqB (K : PySem.W.Frag) (H : Hp) (p : Addr) (xs : List V) : Prop := SqL K H p xs ∨ SqT K H p xs
theorem SqB.same {K : PySem.W.Frag} {H H' : Hp} {p : Addr} {xs : List V} (h : SqB K H p xs) (s : Same H H') : SqB K H' p xs := h.imp (fun z => s.seq z) (fun z => Same.tup s z)
theorem SqB.lst {K : PySem.W.Frag} {H : Hp} {p : Addr} {xs : List V} (h : H p = some (.lst xs)) : SqB K H p xs := .inl (.inl (.inl h))
theorem SqB.tup {K : PySem.W.Frag} {H : Hp} {p : Addr} {xs : List V} (h : H p = some (.tup xs)) : SqB K H p xs := .inr (.inl (.inl h))
def rIxB (K : PySem.W.Frag) : R2 := fun x y H Q => ∃ p xs i v, x = .ref p ∧ y = .int i ∧ SqB K H p xs ∧ atI xs i = some v ∧ Q v H
def rSlB2 (K : PySem.W.Frag) : V → Option Int → Option Int → Hp → VK → Prop := fun x lo hi H Q => ∃ p xs, x = .ref p ∧ SqB K H p xs ∧ ∀ q H', Same H H' → SqB K H' q (cutV xs lo hi) → Q (.ref q) H'
section
variable {X : Cx}
theorem ix_b : IxR X (rIxB X.K) := by
  intro value slice pins s σ H x y v u Q Iv rx ry h hs
  obtain ⟨p, xs, i, z, e1, e2, hb, ha, q⟩ := h
  exact (ix_list.or ix_tup) value slice pins s σ H x y v u Q Iv rx ry (hb.imp (fun c => ⟨p, xs, i, z, e1, e2, c, ha, q⟩) (fun c => ⟨p, xs, i, z, e1, e2, c, ha, q⟩)) hs
theorem cut_whole {xs : List V} {lo hi : Option Int} (h : HT.sIx xs.length 0 lo = 0 ∧ HT.sIx xs.length xs.length hi = xs.length) : cutV xs lo hi = xs := by
  unfold cutV
  rw [h.1, h.2, List.drop_zero, Nat.sub_zero, List.take_length]
theorem sl_b : SlR X (rSlB2 X.K) := by
  intro pins s σ H x v vl vu lo hi sl Q Iv rx hs pl pu h
  obtain ⟨p, xs, e, hb, q⟩ := h
  refine (sl_list.or sl_tupA) pins s σ H x v vl vu lo hi sl Q Iv rx hs pl pu (hb.imp (fun c => ⟨p, xs, e, c, fun b hb => ?_⟩) (fun c => ⟨p, xs, e, c, fun hw => ?_, fun _ b hb => ?_⟩))
  · exact q b _ (same_new (Same.refl H) hb) (.lst upd_same)
  · exact q p H (Same.refl H) (by rw [cut_whole hw]; exact .inr c)
  · exact q b _ (same_new (Same.refl H) hb) (.tup upd_same)
end
theorem sIx_nat (n d a : Nat) : HT.sIx n d (some (a : Int)) = min a n := by
  unfold HT.sIx
  simp
  omega
/-- ns[a:b] -/
def cut (ns : List Nat) (a b : Nat) : List Nat := (ns.drop a).take (b - a)
theorem cut_len {ns : List Nat} {a b : Nat} (h : b ≤ ns.length) : (cut ns a b).length = b - a := by
  unfold cut
  rw [List.length_take, List.length_drop]
  omega
theorem mem_cut {ns : List Nat} {a b n : Nat} (h : n ∈ cut ns a b) : n ∈ ns := List.mem_of_mem_drop (List.mem_of_mem_take h)
theorem Bytes.cut {ns : List Nat} {a b : Nat} (h : Bytes ns) : Bytes (cut ns a b) := fun n hn => h n (mem_cut hn)
theorem cutV_ints (ns : List Nat) (a b : Nat) : cutV (vInts ns) (some (a : Int)) (some (b : Int)) = vInts (cut ns a b) := by
  unfold cutV cut
  rw [sIx_nat, sIx_nat, vInts_len]
  show _ = List.map _ (List.take _ (List.drop _ ns))
  rw [List.map_take, List.map_drop]
  by_cases ha : a ≤ ns.length
  · rw [Nat.min_eq_left ha]
    by_cases hb : b ≤ ns.length
    · rw [Nat.min_eq_left hb]
    · rw [Nat.min_eq_right (by omega)]
      rw [List.take_of_length_le (by rw [List.length_drop, List.length_map]; omega), List.take_of_length_le (by rw [List.length_drop, List.length_map]; omega)]
  · have e1 : ∀ k, (List.map (fun n : Nat => V.int (n : Nat)) ns).drop k = [] ∨ k < ns.length := fun k => by
      rcases Nat.lt_or_ge k ns.length with q | q
      · exact .inr q
      · exact .inl (List.drop_eq_nil_of_le (by rw [List.length_map]; exact q))
    have h1 := (e1 a).resolve_right (by omega)
    have h2 := (e1 (min a ns.length)).resolve_right (by omega)
    rw [h1, h2, List.take_nil, List.take_nil]
theorem cutV_tail (ns : List Nat) (a : Nat) : cutV (vInts ns) (some (a : Int)) none = vInts (cut ns a ns.length) := by
  have e := cutV_ints ns a ns.length
  rw [← e]
  unfold cutV
  rw [sIx_nat, sIx_nat, vInts_len, Nat.min_self]
  rfl
/-- the number of big-endian octets -/
def num (l : List Nat) : Nat := l.foldl (fun a b => a * 256 + b) 0
def snum (l : List Nat) : Int := if 128 ≤ l.headD 0 then (num l : Int) - 1 - (num (List.replicate l.length 255) : Nat) else (num l : Nat)
theorem num_snoc (l : List Nat) (b : Nat) : num (l ++ [b]) = num l * 256 + b := by
  unfold num
  rw [List.foldl_append]
  rfl
theorem flat_ints (k : Nat) (ns : List Nat) : (List.replicate k (vInts ns)).flatten = vInts (List.replicate k ns).flatten := by
  induction k with
  | zero => rfl
  | succ k ih => rw [List.replicate_succ, List.replicate_succ, List.flatten_cons, List.flatten_cons, vInts_app, ih]
theorem flat_one (k n : Nat) : (List.replicate k [n]).flatten = List.replicate k n := by
  induction k with
  | zero => rfl
  | succ k ih => rw [List.replicate_succ, List.replicate_succ, List.flatten_cons, ih]; rfl
end G58

namespace G58
open PySem PySem.Spec PyProof.Rows L2
def topS (i : Nat) : Stmt := PySem.Challenge.pw_nestfile_k72_texts_of_values_and_of_none.main.body.getD i (.Pass ⟨0, 0, 0, 0⟩)
abbrev sLaw : Stmt := topS 54
/-- an own exception class -/
structure ExC (K : PySem.W.Frag) (C f : Addr) : Prop where
  ox : OexC K C
  xf : XfC K C
  ini : PySem.W.findIn K (.ref C) "__init__" = some (some (.ref f))
  ti : PySem.W.typeIn K (.ref f) = some (.type "function")
end G58

set_option Elab.async false
set_option linter.all false
set_option pp.maxSteps 2500
set_option maxRecDepth 100000
set_option maxHeartbeats 4000000
/-! Defs that are entered where no container's text is being made; texts of containers. -/
namespace G58
open PySem PySem.Spec PyProof.Rows L2
/-- FnOk, entered with no guard on the stack -/
structure FnG (P : Program) (w : World) (K : PySem.W.Frag) (mg : Str → Option Value) (base : Heap) (CX : CXT) (k : Nat) (f : Addr) (fd : FuncData) (ps : List Str) (sp : Sp) : Prop where
  len : ∀ vs H Q E, sp vs H Q E → vs.length = ps.length
  run : ∀ (A : Around) (outer : List Env) (s : Shared) (H : Hp) (args : Args) (us : List Value) (vs : List V) (Q : VK) (E : XK), A.guards = some [] → Room k A → Env0 P w K mg base A outer s H → BindsTo s fd args (ps.zip us) → Vals vs us → sp vs H Q E →
    codeAny (model P w) A (.call (.ref f) args) (CR CX outer P w H s Q E) s
section
variable {P : Program} {w : World} {K : PySem.W.Frag} {mg : Str → Option Value} {base : Heap}
/-- a def by its body, where no guard stands on the stack -/
theorem okG {x qual : Str} {st : Stmt} {f : Addr} {fd : FuncData} {N ps : List Str} {k : Nat} {sp : Sp} (F : Fun K x qual st f fd) (S : FnScope N ps (defScope st)) (len : ∀ vs H Q E, sp vs H Q E → vs.length = ps.length)
    (hbody : ∀ (cdv : Value) (A : Around) (outer : List Env) (s : Shared) (H : Hp) (vs : List V) (Q : VK) (E : XK), (A.deeper (envOfC qual (defScope st) s.heap.objs.size f cdv)).guards = some [] → Room k (A.deeper (envOfC qual (defScope st) s.heap.objs.size f cdv)) → sp vs H Q E →
      ∃ t, PSs (cxOf CX0 P w K mg base N qual (defScope st) f cdv A outer s H E).nox (defBody st) t ∧ t { nx := fun _ H' => Q .non H', rt := Q } (start N vs) H) : FnG P w K mg base CX0 (k + 1) f fd ps sp := by
  obtain ⟨oc, od, kV, doc, pm, an, cdv, ct, osl, rfl, lk, hcd⟩ := F.ex
  refine ⟨len, fun A outer s H args us vs Q E hgu hr e0 hb r hsp => ?_⟩
  have hlen := len _ _ _ _ hsp
  have inK : K.In s.heap := e0.mod.kin.keeps fun b o e => (e0.bs b o e).1
  have noLim : s.heap.NoLimit := e0.mod.nolimit.keeps fun b o e => (e0.bs b o e).1
  have kinds : ∀ y ∈ ps.zip us, (defScope st).names.lookup y.1 = some .local ∨ ((defScope st).names.lookup y.1 = some .cell ∧ ((cellsFrom (s.heap.objs.size + 1) (defScope st).names []).lookup y.1).isSome = true) := by
    rintro ⟨n, v⟩ hy
    exact (S.par n (List.of_mem_zip hy).1).imp id fun q => ⟨q, PySem.W.cellsFrom_some _ _ _ (.inl q)⟩
  refine codeAny_call_function hr.depth (inK _ _ lk) rfl S.co S.gen rfl (PySem.W.codeRec_of inK hcd) (hb _ _ _ _ ?_)
  refine wpAny_newFunctionEnv_cells S.kind kinds fun env he s1 entered => ?_
  subst he
  refine ⟨noLim.keeps entered.toInCall.keep, codeAny_func ?_⟩
  obtain ⟨t, ht0, hq⟩ := hbody cdv A outer s H vs Q E hgu (hr.deeper _) hsp
  have ht := ht0.nox
  have I0 : Inv (cxOf CX0 P w K mg base N qual (defScope st) f cdv A outer s H E) [] (start N vs) H s1 := inv_start S hr.hd e0 hlen r entered
  refine wpAny_mono (ht.run [] s1 (start N vs) H _ I0 hq) (fun fl s' hs => ?_) fun _ _ hs => hs
  cases fl with
  | ret u =>
    obtain ⟨v, σ', H', J, rv, q⟩ := hs
    exact ⟨v, H', J.os, J.bare, J.base, J.hok, rv, q⟩
  | next =>
    obtain ⟨σ', H', J, q⟩ := hs
    exact ⟨.non, H', J.os, J.bare, J.base, J.hok, rfl, q⟩
  | brk =>
    obtain ⟨_, _, _, q⟩ := hs
    exact q.elim
  | cont =>
    obtain ⟨_, _, _, q⟩ := hs
    exact q.elim
end
section
variable {X : Cx} {CX : CXT} {k : Nat} {f : Addr} {fd : FuncData} {ps : List Str} {sp : Sp} {ds : List Value} {dvs : List V} {E : XK} {x : Str} {p pos : Pos} {e : Expr} {es : List Expr} {t : TA}
theorem run_G {pins : List (Addr × Obj)} {σ : L2.St} {H : Hp} {s : Shared} {Q : VK} {us : List Value} {vs : List V} (hgu : X.A.guards = some []) (F : FnG X.prog X.w X.K X.mg X.base CX k f fd ps sp) (hr : Room k X.A) (hb : Binds X.K fd ps ds) (hd : Vals dvs ds) (hx : Passes CX X E)
    (I : Inv X pins σ H s) (r : Vals vs us) (h : sp (vs ++ dvs) H Q E) : wpAny (model X.prog X.w) X.A (call (.ref f) us) (EP X pins σ Q) X.xe s := by
  have rAll : Vals (vs ++ dvs) (us ++ ds) := r.append hd
  have hlen : (us ++ ds).length = ps.length := rAll.length.symm.trans (F.len _ _ _ _ h)
  refine wpAny_call (codeAny_mono (F.run X.A X.stack s H ⟨us, []⟩ (us ++ ds) (vs ++ dvs) Q E hgu hr I.env0 (hb s us I.kIn hlen) rAll h) fun r s' hq => ?_)
  cases r with
  | error e => exact hx pins σ H s e s' I hq
  | ok fl =>
    cases fl with
    | ret u => exact I.after hq
    | next => exact hq.elim
    | brk => exact hq.elim
    | cont => exact hq.elim
theorem pe_callG (hgu : X.A.guards = some []) (F : FnG X.prog X.w X.K X.mg X.base CX k f fd ps sp) (hr : Room k X.A) (hg : Gl X x) (hm : X.mg x = some (.ref f)) (hk : PySem.W.keepIn X.K (.ref f) = true) (hb : Binds X.K fd ps ds) (hd : Vals dvs ds) (hx : Passes CX X E)
    (ha : PA X (e :: es) t) (hdb : (x == ("__debug__" : Str)) = false := by decide) (he : starEach (e :: es) X.env = (false, eval e X.env) :: starEach es X.env := by rfl) (hpl : (backTo pos (starEach es X.env)).any (·.1) = false := by rfl) :
    PE X (.Call (.Name x p) (e :: es) [] pos) (tCall sp dvs E t) :=
  ⟨fun pins s σ H Q I h => wpAny_Call_Name_kw (ld_glob I hg hm (PySem.W.callWith_K (h₀ := X.base) I.ok.mod.kin hk (thn (ha.run pos pins s σ H _ I h) fun _ _ ⟨_, _, I1, r, q⟩ => ⟨I1.kIn, run_G hgu F hr hb hd hx I1 r q⟩) he hpl) hdb)⟩
/-- repr(x) of lists and tuples -/
theorem call_reprD {X : Cx} (hgu : X.A.guards = some []) (hu : X.A.units + 64 < cLine) : CallR X (.builtin "repr") (fun xs H Q => ∃ (a : Addr) (d : PyData), xs = [.ref a] ∧ Dp X.K H (.ref a) d ∧ d.showable = true ∧ d.hasDict = false ∧ d.depth ≤ 60 ∧ d.shown.length ≤ sizeLine ∧ Q (.str d.shown) H) := by
  intro pins s σ H xs us Q I r h
  obtain ⟨a, d, rfl, hd, hs, hdd, hdp, hz, q⟩ := h
  obtain ⟨u, rfl, ru⟩ := r.one
  cases ru
  obtain ⟨as, rd⟩ := Dp.reads I d _ _ hd rfl
  exact PySem.repr_of_reads' rd hs (fun z => by rw [hdd] at z; cases z) hgu (by omega) (fun _ _ e => e) (fun h' u tk hk => ⟨.str d.shown, H, I.kept hk, ⟨u, rfl⟩, q⟩) hz
/-- the law, called with no guard on the stack -/
theorem law_callG {P : Program} {w : World} {K : PySem.W.Frag} {mg mb : Str → Option Value} {k : Nat} {fa a : Addr} {fd : FuncData} {x : Str} {sp : Sp} {s₁ : Shared} {vs : List Value} {ns : List Int}
    (KX : K.In s₁.heap) (hns : s₁.heap.Ns mainGlobals mg) (hb : s₁.heap.Ns builtinsNs mb) (hbb : ∀ x : Str, x ≠ "__name__" → mb x = bootBuiltins x) (hlim : s₁.heap.NoLimit) (hg : s₁.gens = #[])
    (ha : s₁.heap.get? a = some { cls := .type "list", data := .seq vs.toArray }) (hi : IntsAre vs ns) (hl : ns.length ≤ sizeLine) (hr : Room k callerA)
    (F : ∀ base : Heap, K.In base → base.Ns mainGlobals mg → FnG P w K mg base CX0 k fa fd [x] sp) (hbind : ∀ (s : Shared) (u : Value), BindsTo s fd ⟨[u], []⟩ [(x, u)])
    (hsp : ∀ H : Hp, SqL K H a (ns.map V.int) → sp [.ref a] H (fun v _ => v = .bl true) fun _ _ _ => False) :
    codeAny (model P w) callerA (.call (.ref fa) ⟨[.ref a], []⟩) (fun r s' => r = .ok (.ret (.bool true)) ∧ OldK s₁.heap s'.heap ∧ s'.os = s₁.os ∧ AllBare s'.gens) s₁ := by
  have rv := vals_ints hi
  have lv := hi.length
  -- from a heap in which at most the script is tracked
  have core : ∀ H : Hp, SqL K H a (ns.map V.int) → HOk P w H s₁.heap → (∀ b o, H b = some o → b = a ∧ K.lookup a = none ∧ ∃ ob, o = .frz ob (.lst (ns.map V.int))) →
      codeAny (model P w) callerA (.call (.ref fa) ⟨[.ref a], []⟩) (fun r s' => r = .ok (.ret (.bool true)) ∧ OldK s₁.heap s'.heap ∧ s'.os = s₁.os ∧ AllBare s'.gens) s₁ := by
    intro H hS hok hA
    have off : ∀ {b : Addr}, b ≠ a → H b = none := fun {b} n => by
      cases q : H b with
      | none => rfl
      | some o => exact absurd (hA b o q).1 n
    have low : ∀ {b : Addr} {o : Obj}, s₁.heap.get? b = some o → (∀ us n, o.data ≠ .seq us n) → (hidT s₁.heap H).get? b = some o := fun {b o} e n => hidT_get e (off fun z => by
      rw [z, ha] at e
      cases e
      exact n _ _ rfl)
    have ns' : ∀ {b : Addr} {m : Str → Option Value}, s₁.heap.Ns b m → (hidT s₁.heap H).Ns b m := fun {b m} ⟨o, es, ep, e, d, r⟩ => ⟨o, es, ep, low e (fun us n z => by rw [d] at z; cases z), d, r⟩
    have kIn : K.In (hidT s₁.heap H) := fun b o e => hidT_get (KX b o e) (by
      cases q : H b with
      | none => rfl
      | some u =>
        obtain ⟨rfl, hk, _⟩ := hA b u q
        rw [hk] at e
        cases e)
    obtain ⟨mc, l1, l2⟩ := hlim
    have md : L2.Mod K mg (hidT s₁.heap H) := ⟨kIn, ns' hns, ⟨mb, ns' hb, hbb⟩, ⟨mc, ns' l1, l2⟩⟩
    have e0 : Env0 P w K mg (hidT s₁.heap H) callerA [] s₁ H := ⟨rfl, md, fun b o e => of_hidT e, Nat.le_of_eq (hidT_size _ _), trivial, (fun b z => nomatch z), hok, .of_eq hg⟩
    refine codeAny_mono ((F _ kIn (ns' hns)).run callerA [] s₁ H ⟨[.ref a], []⟩ [.ref a] [.ref a] _ _ rfl hr e0 (hbind s₁ (.ref a)) (.cons rfl .nil) (hsp H hS)) fun r s' h => ?_
    cases r with
    | error e =>
      exact h.elim
    | ok fl =>
      cases fl with
      | next => exact h.elim
      | brk => exact h.elim
      | cont => exact h.elim
      | ret u =>
        obtain ⟨v, H', os, bare, un, hok', r', q⟩ := h
        have q' : v = .bl true := q
        subst q'
        obtain rfl : u = Value.bool true := r'
        have same : ∀ b o, s₁.heap.get? b = some o → s'.heap.get? b = some o := fun b o e => by
          cases q : H b with
          | none => exact un.keep b o e q (fun z => nomatch z) (fun z => nomatch z)
          | some u =>
            obtain ⟨_, _, ob, rfl⟩ := hA b u q
            obtain ⟨e1, _⟩ := hok b _ q
            obtain ⟨e2, _⟩ := hok' b _ (un.frzs b ob _ q)
            rw [e] at e1
            cases e1
            exact e2
        exact ⟨rfl, ⟨fun b o e => .inl (same b o e), fun b o e => ⟨o, same b o e⟩⟩, os, bare⟩
  cases hk : K.lookup a with
  | some o =>
    have e := KX a o hk
    rw [ha] at e
    cases e
    exact core (fun _ => none) (.inr ⟨_, vs.toArray, _, hk, rfl, rfl, rfl, by rw [List.size_toArray, lv]; exact hl, by simpa using rv⟩) (fun b u z => nomatch z) (fun b o z => nomatch z)
  | none =>
    refine core (fun b => if b = a then some (.frz { cls := .type "list", data := .seq vs.toArray } (.lst (ns.map V.int))) else none) (.inl (.inr ⟨{ cls := .type "list", data := .seq vs.toArray }, if_pos rfl⟩)) (fun b u z => ?_) (fun b o z => ?_)
    · by_cases hb : b = a
      · have z' := (if_pos hb).symm.trans z
        cases z'
        rw [hb]
        exact ⟨ha, by rw [List.length_map]; exact hl, vs, _, rv, ha⟩
      · have z' := (if_neg hb).symm.trans z
        cases z'
    · by_cases hb : b = a
      · have z' := (if_pos hb).symm.trans z
        cases z'
        exact ⟨hb, hk, _, rfl⟩
      · have z' := (if_neg hb).symm.trans z
        cases z'
/-- what the top must have written for such a law -/
def LawG (l : PySem.W.OpenLaw) (w : World) (K : PySem.W.Frag) (k n : Nat) (x : Str) (mg : Str → Option Value) (fa : Addr) : Prop :=
  ∃ (fd : FuncData) (sp : Sp), (∀ (s : Shared) (u : Value), BindsTo s fd ⟨[u], []⟩ [(x, u)]) ∧
    (∀ (H : Hp) (a : Addr) (ns : List Int), ns.length ≤ n → SqL K H a (ns.map V.int) → sp [.ref a] H (fun v _ => v = .bl true) fun _ _ _ => False) ∧
    ∀ base : Heap, K.In base → base.Ns mainGlobals mg → FnG l.prog w K mg base CX0 k fa fd [x] sp
theorem walk_G {l : PySem.W.OpenLaw} {n k : Nat} {q : Program} {loose : List Str} {XP : (Str → Option Value) → Heap → Prop} {YP : World → Heap → Prop} {d : DefRec} {K : Params → PySem.W.Frag} {x : Str}
    (hn : l.most = some n) (hn2 : n ≤ sizeLine) (hdf : d.params.defaults = []) (hr : Room k callerA) (hY : ∀ (w : World) (h : Heap), YP w h → (K w.params).In h)
    (F : ∀ (w : World) (mg : Str → Option Value) (fa : Addr) (h : Heap), YP w h → (K w.params).In h → h.Ns mainGlobals mg → mg d.name = some (.ref fa) → LawG l w (K w.params) k n x mg fa) :
    PySem.W.WalkO q loose XP YP l.row.toRowW d [] (fun f vs => PySem.call f vs) :=
  Att.attach_callB hn hdf fun w s₀ s₁ mg mb fa o pm cd doc a vs ns G Y _ _ _ hmg hobj hints hlen _ hg => by
    obtain ⟨fd, sp, hb, hsp, hF⟩ := F w mg fa _ Y (hY w _ Y) G.T.g hmg
    exact law_callG (hY w _ Y) G.T.g G.T.b G.T.builtins G.T.nolimit hg hobj hints (Nat.le_trans hlen hn2) hr hF hb fun H hS => hsp H a ns hlen hS
end
end G58

set_option Elab.async false
set_option linter.all false
set_option maxRecDepth 100000
set_option maxHeartbeats 4000000
/-! k75: the base. -/
namespace G58
open PySem PySem.Spec PyProof.Rows L2
end G58

set_option Elab.async false
set_option linter.all false
set_option maxRecDepth 100000
set_option maxHeartbeats 4000000
/-! C() of an own class without an __init__ of its own. -/
namespace G58
open PySem PySem.Spec PyProof.Rows L2
/-- what such a class must have to be made -/
structure Mk0 (K : PySem.W.Frag) (C : Addr) : Prop where
  makes : PySem.W.makesIn K C = true
  init : PySem.W.findIn K (.ref C) "__init__" = some (some (.builtin "object.__init__"))
  kp : PySem.W.keepIn K (.ref C) = true
def tMk0 (C : Addr) : TE := fun _ H Q => ∀ x dx, H x = none → H dx = none → dx ≠ x → Q (.ref x) (upd (upd H dx (.own x)) x (.ins C dx []))
section
variable {X : Cx} {C : Addr} {x : Str} {p pos : Pos}
theorem run_mk0 {pins : List (Addr × Obj)} {σ : L2.St} {H : Hp} {s : Shared} {Q : VK} (M : Mk0 X.K C) (I : Inv X pins σ H s)
    (h : ∀ x dx, H x = none → H dx = none → dx ≠ x → Q (.ref x) (upd (upd H dx (.own x)) x (.ins C dx []))) :
    wpAny (model X.prog X.w) X.A (call (.ref C) []) (EP X pins σ Q) X.xe s := by
  have hq := h (s.heap.objs.size + 1) s.heap.objs.size (I.hok.fresh (Nat.le_succ _)) (I.hok.fresh (Nat.le_refl _)) (Nat.ne_of_lt (Nat.lt_succ_self _))
  have I2 := Inv.made (C := C) I
  have Y := PySem.W.makes_of (M := model X.prog X.w) I.kIn M.makes
  have hx : ((s.heap.push PySem.W.emptyDict).push (PySem.W.instObj C s.heap.objs.size)).get? (s.heap.objs.size + 1) = some (PySem.W.instObj C s.heap.objs.size) := by
    have := Heap.get?_push_size (s.heap.push PySem.W.emptyDict) (o := PySem.W.instObj C s.heap.objs.size) rfl
    rwa [Heap.size_push] at this
  have t1 : PySem.W.Looks (model X.prog X.w) ((s.heap.push PySem.W.emptyDict).push (PySem.W.instObj C s.heap.objs.size)) (typeOf (.ref (s.heap.objs.size + 1))) (.ref C) := (PySem.W.Looks.ld hx).andThen .now
  have t2 : PySem.W.Looks (model X.prog X.w) ((s.heap.push PySem.W.emptyDict).push (PySem.W.instObj C s.heap.objs.size)) (isInstance (.ref (s.heap.objs.size + 1)) (.type "object")) true := t1.andThen (Y.top.keeps fun b o e => Heap.get?_push_of_some _ (Heap.get?_push_of_some _ e))
  refine wpAny_call (make_map0 (s := s) I.kIn M.makes M.init (fun self => PySem.W.Looks.of_pure (PySem.W.oi_bind self)) ?_)
  refine codeAny_call_builtin PySem.W.oi_plain PySem.W.entry_oi (@PySem.W.check_slot (model X.prog X.w) _ _ _ "object.__init__" "object" "__init__" (.ref (s.heap.objs.size + 1)) [] [] _ PySem.W.oi_kind PySem.W.oi_split t2 (PySem.W.oi_args (.ref (s.heap.objs.size + 1))) ?_)
  rw [PySem.W.oi_run]
  exact wpAny_pure (And.intro rfl ⟨V.ref (s.heap.objs.size + 1), _, I2, rfl, hq⟩)
/-- C() -/
theorem pe_mk0 (M : Mk0 X.K C) (hg : Gl X x) (hm : X.mg x = some (.ref C)) (hdb : (x == ("__debug__" : Str)) = false := by decide) : PE X (.Call (.Name x p) [] [] pos) (tMk0 C) := by
  refine ⟨fun pins s σ H Q I h => ?_⟩
  refine wpAny_Call_Name_kw (ld_glob I hg hm ?_ hdb)
  exact PySem.W.callWith_K0 I.kIn M.kp (run_mk0 M I h)
end
end G58

set_option Elab.async false
set_option linter.all false
set_option pp.maxSteps 2500
set_option maxRecDepth 100000
set_option maxHeartbeats 1000000
/-! An own ==, with any result, and anything on the other side. -/
namespace G58
open PySem PySem.Spec PyProof.Rows L2
/-- the type of a value, as an own == asks for it -/
inductive TyOf (K : PySem.W.Frag) (H : Hp) : V → Value → Prop
  | non : TyOf K H .non (.type "NoneType")
  | bl (b : Bool) : TyOf K H (.bl b) (.type "bool")
  | int (i : Int) : TyOf K H (.int i) (.type "int")
  | str (z : Str) : TyOf K H (.str z) (.type "str")
  | lst {a : Addr} {xs : List V} : SqL K H a xs → TyOf K H (.ref a) (.type "list")
  | tup {a : Addr} {xs : List V} : SqT K H a xs → TyOf K H (.ref a) (.type "tuple")
  | ins {a C dx : Addr} {fs : List (Str × V)} : H a = some (.ins C dx fs) → TyOf K H (.ref a) (.ref C)
section
variable {X : Cx} {pins : List (Addr × Obj)} {σ : L2.St} {H : Hp} {s : Shared}
theorem TyOf.looks {y : V} {tb u : Value} (t : TyOf X.K H y tb) (I : Inv X pins σ H s) (r : RelV y u) (M : Model) : PySem.W.Looks M s.heap (typeOf u) tb := by
  cases t with
  | non =>
    cases r
    exact .of_pure rfl
  | bl b =>
    cases r
    exact .of_pure rfl
  | int i =>
    obtain ⟨t, rfl⟩ := r
    exact .of_pure rfl
  | str z =>
    obtain ⟨t, rfl⟩ := r
    exact .of_pure rfl
  | lst h =>
    cases r
    obtain ⟨its, _, pl, _⟩ := I.list h
    obtain ⟨o, ho, hc, _⟩ := pl.isList
    exact hc ▸ (PySem.W.Looks.ld ho).andThen .now
  | tup h =>
    cases r
    obtain ⟨its, _, pl, _⟩ := I.tuple h
    obtain ⟨o, ho, hc, _⟩ := pl
    exact hc ▸ (PySem.W.Looks.ld ho).andThen .now
  | ins h =>
    cases r
    obtain ⟨mA, J, _⟩ := ins_get I.hok h
    obtain ⟨od, J, _⟩ := J.look
    exact J.type
/-- an own ==, as its def promises -/
def rEqO (K : PySem.W.Frag) (C : Addr) (sp : Sp) (E : XK) : R2 := fun x y H Q => ∃ (a dx : Addr) (fs : List (Str × V)) (tb : Value), x = .ref a ∧ H a = some (.ins C dx fs) ∧ TyOf K H y tb ∧ PySem.W.notFirst K C tb = true ∧ sp [x, y] H (fun v H' => ∃ b : Bool, v = .bl b ∧ Q (.bl b) H') E
theorem op_eqO {CX : CXT} {C f : Addr} {fd : FuncData} {ps : List Str} {sp : Sp} {E : XK} {n : Nat} (F : FnOk X.prog X.w X.K X.mg X.base CX n f fd ps sp)
    (hs : PySem.W.findIn X.K (.ref C) "__eq__" = some (some (.ref f))) (hf : PySem.W.isFn X.K (.ref f) = true) (hb : Binds X.K fd ps []) (hx : Passes CX X E) (hr : Room n X.A) : OpR X (compareOp .Eq) (rEqO X.K C sp E) := by
  intro pins s σ H x y v u Q I rx ry h
  obtain ⟨a, dx, fs, tb, rfl, ha, ty, nf, hsp⟩ := h
  cases rx
  obtain ⟨mA, J, _⟩ := ins_get I.hok ha
  obtain ⟨od, J, _⟩ := J.look
  obtain ⟨m, hF⟩ := I.fr
  show wpAny (model X.prog X.w) X.A (richCompare .Eq (.ref a) u) (EP X pins σ Q) X.xe s
  refine PySem.W.cmp_K (op := .Eq) (tb := tb) hr.units0 hF I.ok.mod.kin J (ty.looks I ry _) nf hs hf ?_
  have hl := F.len _ _ _ _ hsp
  have r2 : Vals [V.ref a, y] [Value.ref a, u] := .cons rfl (.cons ry .nil)
  refine wpAny_call (codeAny_mono (F.run X.A X.stack s H ⟨[.ref a, u], []⟩ [.ref a, u] [.ref a, y] _ E hr I.env0 (by
    have := hb s [.ref a, u] I.kIn (by simpa using hl)
    simpa using this) r2 hsp) fun r s' hq => ?_)
  cases r with
  | error e => exact hx pins σ H s e s' I hq
  | ok fl =>
    cases fl with
    | ret w =>
      obtain ⟨z, H', I', rz, b, ez, q⟩ := I.after hq
      subst ez
      cases rz
      exact ⟨.bl b, H', I', rfl, q⟩
    | next => exact False.elim hq
    | brk => exact False.elim hq
    | cont => exact False.elim hq
/-- != of an own class with its own ==, by object's __ne__ -/
theorem ifBound_objNe {M : Model} {A : Around} {E : Value → Shared → Prop} {s : Shared} {K : PySem.W.Frag} {x C : Addr} {ox : Obj} {od : Option Obj} {args : List Value} {Q : Option Value → Shared → Prop} (X : K.In s.heap) (I : PySem.W.InstAt s.heap x ox C od) (hs : PySem.W.findIn K (.ref C) "__ne__" = some (some (.builtin "object.__ne__")))
    (h : wpAny M A (call (.builtin "object.__ne__") (.ref x :: args)) (fun v => Q (some v)) E s) : wpAny M A (callSpecialIfBound? (.ref x) "__ne__" args) Q E s := by
  simp only [callSpecialIfBound?, bindSpecialIfBound?]
  refine wpAny_holding (wpAny_bind (wpAny_bind (wpAny_bind (I.type.here ((PySem.W.looks_findIn X hs).here ?_)))))
  refine wpAny_bind (wpAny_askSetting (wpAny_ite ?_))
  have fin : wpAny M A (call (.builtin "object.__ne__") ([.ref x] ++ args) >>= fun v => pure (some v)) Q E s := wpAny_bind (wpAny_mono h (fun v s' h' => wpAny_pure h') fun _ _ h' => h')
  split
  · exact wpAny_bind (wpAny_of_eq (F.cmp_object.ne.bind _) (wpAny_pure (by exact fin)))
  · exact wpAny_tryCatch (wpAny_bind (wpAny_of_eq (F.cmp_object.ne.bind _) (wpAny_pure (by exact fin))))
def rNeO (K : PySem.W.Frag) (C : Addr) (sp : Sp) (E : XK) : R2 := fun x y H Q => ∃ (a dx : Addr) (fs : List (Str × V)) (tb : Value), x = .ref a ∧ H a = some (.ins C dx fs) ∧ TyOf K H y tb ∧ PySem.W.notFirst K C tb = true ∧ sp [x, y] H (fun v H' => ∃ b : Bool, v = .bl b ∧ Q (.bl (!b)) H') E
theorem op_neO {CX : CXT} {C f : Addr} {fd : FuncData} {ps : List Str} {sp : Sp} {E : XK} {n : Nat} (F1 : FnOk X.prog X.w X.K X.mg X.base CX n f fd ps sp)
    (hm : PySem.W.mroIn X.K C (.type "object") = some true) (hn : PySem.W.findIn X.K (.ref C) "__ne__" = some (some (.builtin "object.__ne__")))
    (hs : PySem.W.findIn X.K (.ref C) "__eq__" = some (some (.ref f))) (hf : PySem.W.isFn X.K (.ref f) = true) (hb : Binds X.K fd ps []) (hx : Passes CX X E) (hr : Room (n + 1) X.A) : OpR X (compareOp .NotEq) (rNeO X.K C sp E) := by
  intro pins s σ H x y v u Q I rx ry h
  obtain ⟨a, dx, fs, tb, rfl, ha, ty, nf, hsp⟩ := h
  cases rx
  obtain ⟨mA, J, _⟩ := ins_get I.hok ha
  obtain ⟨od, J, _⟩ := J.look
  have sb : Sub X n X.A.in1 := Sub.in1 ⟨hr, rfl⟩
  have kin := I.kIn
  have own : wpAny (model X.prog X.w) X.A.in1 (call (.ref f) [.ref a, u]) (fun r s' => ∃ b : Bool, r = .bool b ∧ EP X pins σ Q (.bool (!b)) s') X.xe s := by
    have e0 : Env0 X.prog X.w X.K X.mg X.base X.A.in1 X.stack s H := by
      have e := I.env0
      exact ⟨by rw [sb.fr]; exact e.frames, e.mod, e.bs, e.bsz, e.funs, e.frf, e.hok, e.bare⟩
    have hl := F1.len _ _ _ _ hsp
    have r2 : Vals [V.ref a, y] [Value.ref a, u] := .cons rfl (.cons ry .nil)
    refine wpAny_call (codeAny_mono (F1.run X.A.in1 X.stack s H ⟨[.ref a, u], []⟩ [.ref a, u] [.ref a, y] _ E sb.room e0 (by
      have := hb s [.ref a, u] I.kIn (by simpa using hl)
      simpa using this) r2 hsp) fun r s' hq => ?_)
    cases r with
    | error e => exact hx pins σ H s e s' I hq
    | ok fl =>
      cases fl with
      | ret w =>
        obtain ⟨z, H', I', rz, b, ez, q⟩ := I.after hq
        subst ez
        cases rz
        exact ⟨b, rfl, .bl (!b), H', I', rfl, q⟩
      | next => exact False.elim hq
      | brk => exact False.elim hq
      | cont => exact False.elim hq
  have entry : wpAny (model X.prog X.w) X.A.in1 (Builtin.«object.__ne__» ⟨[.ref a, u], []⟩) (fun fin s' => ∃ b : Bool, fin = .done (.ret (.bool (!b))) ∧ EP X pins σ Q (.bool (!b)) s') X.xe s := by
    have two : wpAny (model X.prog X.w) X.A.in1 (callSpecialIfBound? (.ref a) "__eq__" [u]) (fun r s' => ∃ b : Bool, r = some (.bool b) ∧ EP X pins σ Q (.bool (!b)) s') X.xe s :=
      PySem.W.ifBound_K kin J hs hf (wpAny_mono own (fun r s' z => by
        obtain ⟨b, rfl, q⟩ := z
        exact ⟨b, rfl, q⟩) fun _ _ e => e)
    have hu : X.A.in1.units < cLine := sb.room.units0
    unfold Builtin.«object.__ne__»
    repeat (first | with_reducible refine wpAny_cRoomFor hu ?_ | with_reducible refine wpAny_mono two (fun r s' z => ?_) (fun _ _ e => e) | wp_step)
    obtain ⟨b, rfl, q⟩ := z
    refine wpAny_bind (wpAny_truthy_bool (wpAny_pure ?_))
    exact ⟨b, rfl, q⟩
  have one : wpAny (model X.prog X.w) X.A (tryCompare (.ref a) "__ne__" u) (fun r s' => ∃ w, r = some w ∧ EP X pins σ Q w s') X.xe s := by
    unfold tryCompare
    refine wpAny_bind (ifBound_objNe kin J hn (wpAny_call (codeAny_call_builtin F.cmp_object.ne.plain F.cmpEntry_ne (PySem.W.check_slot F.cmpKind_ne F.cmpSplit_ne (J.type.andThen (PySem.W.looks_mroIn kin hm)) (F.cmpArgs_ne _ _) (wpAny_mono entry (fun fin s' z => ?_) fun _ _ e => ?_)))))
    · obtain ⟨b, rfl, q⟩ := z
      exact wpAny_pure ⟨.bool (!b), rfl, q⟩
    · exact e
  have hty := ty.looks I ry (model X.prog X.w)
  have hu0 : X.A.units < cLine := hr.units0
  show wpAny (model X.prog X.w) X.A (richCompare .NotEq (.ref a) u) (EP X pins σ Q) X.xe s
  unfold richCompare
  simp only [oneThing_ref]
  refine wpAny_holding (wpAny_bind (wpAny_cRoomFor hu0 ?_))
  refine wpAny_bind (J.type.here (wpAny_bind (hty.here ?_)))
  split
  · rename_i q
    have e : PySem.W.subIn X.K tb (.ref C) = some false := by
      rcases Bool.or_eq_true_iff.mp nf with e | e
      · rw [beq_iff_eq.mp e] at q; simp at q
      · exact beq_iff_eq.mp e
    refine wpAny_bind ((PySem.W.looks_subIn kin e).here ?_)
    simp only [Bool.false_eq_true, if_false]
    refine wpAny_bind (wpAny_mono one (fun r s' z => ?_) fun _ _ e => e)
    obtain ⟨v, rfl, hq⟩ := z
    exact wpAny_pure hq
  · refine wpAny_bind (wpAny_pure ?_)
    simp only [Bool.false_eq_true, if_false]
    refine wpAny_bind (wpAny_mono one (fun r s' z => ?_) fun _ _ e => e)
    obtain ⟨v, rfl, hq⟩ := z
    exact wpAny_pure hq
end
end G58

set_option Elab.async false
set_option linter.all false
set_option pp.maxSteps 2500
set_option maxRecDepth 100000
set_option maxHeartbeats 1000000
/-! A lambda as a value that is kept: its function object is known. -/
namespace G58
open PySem PySem.Spec PyProof.Rows L2 LamX
/-- the function object of a lambda -/
def LamO (f c' : Addr) (q : Str) (params : Arguments) (body : Expr) (scope : Scope) (cl : List (Str × Addr)) : HO := .ext fun h => ∃ pm ctv, h.get? f = some (PySem.W.kla_obj "<lambda>" q params body scope cl pm c' ctv)
section
variable {X : Cx} {pins : List (Addr × Obj)} {σ : L2.St} {H : Hp} {s : Shared}
theorem lam_laid {f c' : Addr} {q : Str} {params : Arguments} {body : Expr} {scope : Scope} {cl : List (Str × Addr)} {pm ctv : Value} {t' : Nat} (I : Inv X pins σ H s) (hf : s.heap.objs.size = f) (nf : H f = none) :
    Inv X pins σ (upd H f (LamO f c' q params body scope cl)) { s with heap := s.heap.push (PySem.W.kla_obj "<lambda>" q params body scope cl pm c' ctv), toks := t' } := by
  subst hf
  refine I.laid (fun b o e => Heap.get?_push_of_some _ e) (Nat.le_refl _) ?_
  exact ⟨⟨pm, ctv, Heap.get?_push_size _ rfl⟩, ⟨_, Heap.get?_push_size _ rfl⟩, fun h1 h2 ⟨a, b, e⟩ st => ⟨a, b, st _ e⟩⟩
/-- the lambda is made; its function object is known -/
theorem lam_make3 {T : List (Addr × Str)} {c P : Addr} {params : Arguments} {body : Expr} {scope : Scope} {pos : Pos} {E : Value → Shared → Prop} {Q : Value → Shared → Prop} (I : Inv X pins σ H s) (TB : TabB X.base X.mg c P) (hcode : X.env.code = .ref c)
    (hm : (P, X.env.qual ++ "<lambda>") ∈ T) (hu : ∀ p ∈ T, p.1 = P → p.2 = X.env.qual ++ "<lambda>") (hT : Tabs T H) (hdef : defaultsOf params X.env = ([], [])) (hfree : ∀ y ∈ scope.names, y.2 = .free → ∃ c, X.env.cells.lookup y.1 = some c)
    (h : ∀ (f c' : Addr) (H1 : Hp) (s' : Shared), Inv X pins σ H1 s' → ExtN H H1 → Tabs T H1 →
      H1 f = some (LamO f c' (X.env.qual ++ "<lambda>") params body scope (cloFrom X.env.cells scope.names [])) → H1 c' = some (CodeO c' (X.env.qual ++ "<lambda>")) → Q (.ref f) s') :
    wpAny (model X.prog X.w) X.A (eval (.Lambda params body scope pos) X.env) Q E s := by
  obtain ⟨ps, hP, ht, ha⟩ := hT _ hm
  refine PySem.W.kla_eval hdef ?_
  have bP : s.heap.BuiltinsAt X.mg P := TB.bm.keeps I.bk
  have hP' : s.heap.get? P = some { cls := .none, data := .fields ps } := I.hok P _ hP
  have lamne : ∀ f c' (ps : Array Value), LamO f c' (X.env.qual ++ "<lambda>") params body scope (cloFrom X.env.cells scope.names []) ≠ .tbl ps := fun f c' ps z => by
    unfold LamO at z
    cases z
  cases hc : codeAmong pos ps.toList with
  | none =>
    refine PySem.W.kla_makeFunction (mg := X.mg) (c := c) (P := P) (ps := ps) (closure_ok hfree) I.ok.glob (I.mod.glob.keeps I.bk) hcode (TB.code.keeps I.bk) hP' ht hc TB.gP bP fun c' ctv h' tk hx hge hlt hrec htb => ?_
    obtain ⟨c2, oc, vs, t, e2, hoc, hd, hv⟩ := hrec
    cases e2
    have hsz : s.heap.objs.size ≤ h'.objs.size := Nat.le_trans hge (Nat.le_of_lt hlt)
    have nC : H c' = none := I.hok.fresh hge
    have I1 := inv_table (t' := tk) (more := #[rawInt pos.line, rawInt pos.col, .ref c']) (h' := h') I hP hx htb hge ⟨oc, vs, t, hoc, hd, hv⟩
    have hE : ExtN H (upd (upd H P (.tbl (ps ++ #[rawInt pos.line, rawInt pos.col, .ref c']))) c' (CodeO c' (X.env.qual ++ "<lambda>"))) := fun b o e n => by
      rw [upd_ne (ne_of_none e nC), upd_ne (fun z => n ps (Option.some.inj (e.symm.trans (by rw [z]; exact hP))))]
      exact e
    have eL : (ps ++ #[rawInt pos.line, rawInt pos.col, .ref c']).toList = ps.toList ++ [rawInt pos.line, rawInt pos.col, .ref c'] := by simp
    have T1 : Tabs T (upd (upd H P (.tbl (ps ++ #[rawInt pos.line, rawInt pos.col, .ref c']))) c' (CodeO c' (X.env.qual ++ "<lambda>"))) := fun p hp => by
      by_cases hb : p.1 = P
      · rw [hu p hp hb, hb]
        refine ⟨_, by rw [upd_ne (ne_of_none hP nC), upd_same], by rw [eL]; exact PySem.TriplesOk_snoc _ _ _ _ ht, fun p' cv hcv => ?_⟩
        rw [eL] at hcv
        rcases among_app _ ht hcv with z | z
        · obtain ⟨c0, e1, e2⟩ := ha p' cv z
          exact ⟨c0, e1, hE _ _ e2 codeO_ne⟩
        · exact ⟨c', z, upd_same⟩
      · obtain ⟨ps', a1, a2, a3⟩ := hT p hp
        refine ⟨ps', by rw [upd_ne (ne_of_none a1 nC), upd_ne hb]; exact a1, a2, fun p' cv hcv => ?_⟩
        obtain ⟨c0, e1, e2⟩ := a3 p' cv hcv
        exact ⟨c0, e1, hE _ _ e2 codeO_ne⟩
    have eCo : (upd (upd H P (.tbl (ps ++ #[rawInt pos.line, rawInt pos.col, .ref c']))) c' (CodeO c' (X.env.qual ++ "<lambda>"))) c' = some (CodeO c' (X.env.qual ++ "<lambda>")) := upd_same
    generalize upd (upd H P (.tbl (ps ++ #[rawInt pos.line, rawInt pos.col, .ref c']))) c' (CodeO c' (X.env.qual ++ "<lambda>")) = HX at I1 hE T1 eCo
    have nf : HX h'.objs.size = none := I1.hok.fresh (Nat.le_refl _)
    have I2 := lam_laid (f := h'.objs.size) (c' := c') (q := X.env.qual ++ "<lambda>") (params := params) (body := body) (scope := scope) (cl := cloFrom X.env.cells scope.names []) (pm := (X.mg "__name__").getD .none) (ctv := ctv) (t' := tk) I1 rfl nf
    have e2 : ∀ b o, HX b = some o → (upd HX h'.objs.size (LamO h'.objs.size c' (X.env.qual ++ "<lambda>") params body scope (cloFrom X.env.cells scope.names []))) b = some o := fun b o e => by
      rw [upd_ne (ne_of_none e nf)]
      exact e
    exact h h'.objs.size c' _ _ I2 (hE.trans (ExtN.of e2)) (T1.ext e2) upd_same (e2 _ _ eCo)
  | some cv =>
    obtain ⟨c', e, hco⟩ := ha pos cv hc
    subst e
    refine PySem.W.kla_makeFunctionHit (mg := X.mg) (c := c) (P := P) (ps := ps) (closure_ok hfree) I.ok.glob (I.mod.glob.keeps I.bk) hcode (TB.code.keeps I.bk) hP' ht hc bP fun ctv h' tk hx hsz => ?_
    have I1 : Inv X pins σ H { s with heap := h' } := I.kept (t' := s.toks) hx
    have nf : H h'.objs.size = none := I1.hok.fresh (Nat.le_refl _)
    have I2 := lam_laid (f := h'.objs.size) (c' := c') (q := X.env.qual ++ "<lambda>") (params := params) (body := body) (scope := scope) (cl := cloFrom X.env.cells scope.names []) (pm := (X.mg "__name__").getD .none) (ctv := ctv) (t' := tk) I1 rfl nf
    have e2 : ∀ b o, H b = some o → (upd H h'.objs.size (LamO h'.objs.size c' (X.env.qual ++ "<lambda>") params body scope (cloFrom X.env.cells scope.names []))) b = some o := fun b o e => by
      rw [upd_ne (ne_of_none e nf)]
      exact e
    exact h h'.objs.size c' _ _ I2 (ExtN.of e2) (hT.ext e2) upd_same (e2 _ _ hco)
/-- lambda: e, as a value -/
def tLamO (q : Str) (cells : List (Str × Addr)) (T : List (Addr × Str)) (params : Arguments) (body : Expr) (scope : Scope) : TE := fun _ H Q => Tabs T H ∧ ∀ (f c' : Addr) (H1 : Hp), ExtN H H1 → Tabs T H1 → H1 f = some (LamO f c' q params body scope (cloFrom cells scope.names [])) → H1 c' = some (CodeO c' q) → Q (.ref f) H1
theorem pe_lamO {T : List (Addr × Str)} {c P : Addr} {params : Arguments} {body : Expr} {scope : Scope} {pos : Pos} (TB : TabB X.base X.mg c P) (hcode : X.env.code = .ref c)
    (hm : (P, X.env.qual ++ "<lambda>") ∈ T) (hu : ∀ p ∈ T, p.1 = P → p.2 = X.env.qual ++ "<lambda>") (hdef : defaultsOf params X.env = ([], [])) (L : LamS X.env.scope scope) :
    PE X (.Lambda params body scope pos) (tLamO (X.env.qual ++ "<lambda>") X.env.cells T params body scope) :=
  ⟨fun pins s σ H Q I h => lam_make3 I TB hcode hm hu h.1 hdef (L.has I.ok) fun f c' H1 s' I1 eN T1 hf hc => ⟨.ref f, H1, I1, rfl, h.2 f c' H1 eN T1 hf hc⟩⟩
/-- a lambda of this frame that an expression gives, called -/
theorem pe_callL {fe : Expr} {tf : TE} {E : XK} {k : Nat} {pos : Pos} {ok : Addr → Hp → TE → Prop} (hf : PE X fe tf)
    (hA : ∀ f H te, ok f H te → ∃ (c' : Addr) (params : Arguments) (body : Expr) (scope : Scope), H f = some (LamO f c' (X.env.qual ++ "<lambda>") params body scope (cloFrom X.env.cells scope.names [])) ∧ H c' = some (CodeO c' (X.env.qual ++ "<lambda>")) ∧ LamS X.env.scope scope ∧
      (∀ (pm cv ctv : Value), bindArgs (PySem.W.kla_fn "<lambda>" (X.env.qual ++ "<lambda>") params body scope (cloFrom X.env.cells scope.names []) pm cv ctv) ⟨[], []⟩ = pure []) ∧
      ∀ (A : Around) (outer : List Env) (s : Shared) (H : Hp), Room k (A.deeper (lamEnv X scope s.heap.objs.size f c')) → PE (lamCx X A outer s H E scope f c') body te)
    (hr : Room (k + 1) X.A) (hx : Passes (L2.CX X.prog X.w) X E)
    (ht : eval (.Call fe [] [] pos) X.env = (do
      let f ← eval fe X.env
      callWith pos f [] (backTo pos (starEach [] X.env)) (backToKw pos (keywordEach [] X.env))) := by rfl) :
    PE X (.Call fe [] [] pos) (fun σ H Q => tf σ H fun v H1 => ∃ f te, v = .ref f ∧ ok f H1 te ∧ te σ H1 Q) := by
  refine ⟨fun pins s σ H Q I h => ?_⟩
  rw [ht]
  refine wpAny_bind (thn (hf.run pins s σ H _ I h) fun u s1 ⟨v, H1, I1, r1, f, te, ev, hok, q1⟩ => ?_)
  subst ev
  cases r1
  obtain ⟨c', params, body, scope, hl, hc, L, hbind, hbody⟩ := hA f H1 te hok
  obtain ⟨⟨pm, ctv, of1⟩, _, _⟩ := I1.hok f _ hl
  obtain ⟨⟨oc, vs, t, hoc, hdc, hvc⟩, _, _⟩ := I1.hok c' _ hc
  refine PySem.W.callWith_F0 ⟨_, _, _, _, of1⟩ ?_
  have rc : codeAny (model X.prog X.w) X.A (.call (.ref f) ⟨[], []⟩) (CR (L2.CX X.prog X.w) X.stack X.prog X.w H1 s1 Q E) s1 := by
    refine PySem.W.kla_callFunE hr.depth of1 rfl L.co L.gen rfl ⟨c', oc, vs, t, rfl, hoc, hdc, hvc⟩ ?_
    rw [hbind]
    refine wpAny_pure (wpAny_newFunctionEnv (fun y hy => (L.own y hy).2) (fun y hy => absurd hy (by simp)) (fun h₁ hns hsb => ⟨I1.nolimit.fresh _ hsb, ?_⟩) L.kind)
    show codeAny _ _ (.expr body (lamEnv X scope s1.heap.objs.size f c')) _ _
    have kp : ∀ b o, s1.heap.get? b = some o → h₁.get? b = some o := fun b o e => hsb.extBut b o (Nat.ne_of_lt (Heap.lt_size e)) (Heap.get?_push_of_some _ e)
    have J : Inv (lamCx X X.A X.stack s1 H1 E scope f c') [] σ H1 { s1 with heap := h₁, toks := s1.toks + ([] : List (Str × Value)).length } :=
      lam_start2 I1 L I1.env0 hr.hd (Un.kept fun _ _ e => e) hns kp
    refine PySem.W.kla_codeExpr (wpAny_mono ((hbody _ _ s1 H1 (hr.deeper _)).run [] _ _ H1 Q J q1) (fun v s' hq => ?_) fun e s' hq => hq)
    obtain ⟨w', H', J', rv, q⟩ := hq
    exact ⟨w', H', J'.os, J'.bare, J'.base, J'.hok, rv, q⟩
  refine wpAny_call (codeAny_mono rc fun r s' hq => ?_)
  cases r with
  | error e => exact hx pins σ H1 s1 e s' I1 hq
  | ok fl =>
    cases fl with
    | ret u => exact I1.after hq
    | next => exact False.elim hq
    | brk => exact False.elim hq
    | cont => exact False.elim hq
end
end G58

set_option Elab.async false
set_option linter.all false
set_option maxRecDepth 100000
set_option maxHeartbeats 4000000
/-! The entry of a law with one table of code objects, no guard on the stack. -/
namespace G58
open PySem PySem.Spec PyProof.Rows L2 LamX
/-- the law, called with no guard on the stack; the table at pT of the code object at cc is known -/
theorem law_callGT {P : Program} {w : World} {K : PySem.W.Frag} {mg mb : Str → Option Value} {k : Nat} {fa a cc pT : Addr} {fd : FuncData} {x : Str} {sp : Sp} {s₁ : Shared} {vs : List Value} {ns : List Int}
    (KX : K.In s₁.heap) (hns : s₁.heap.Ns mainGlobals mg) (hb : s₁.heap.Ns builtinsNs mb) (hbb : ∀ x : Str, x ≠ "__name__" → mb x = bootBuiltins x) (hlim : s₁.heap.NoLimit) (hg : s₁.gens = #[])
    (hP : s₁.heap.get? pT = some { cls := .none, data := .fields #[] }) (nP : K.lookup pT = none) (hC : PySem.W.CodeHd s₁.heap cc pT)
    (hbm : ∃ (bm : Addr) (ob : Obj), mg "__builtins__" = some (.ref bm) ∧ bm ≠ builtinsNs ∧ s₁.heap.get? bm = some ob ∧ ob.cls = .type "module" ∧ ob.dict = some builtinsNs ∧ ob.data = .plain)
    (ha : s₁.heap.get? a = some { cls := .type "list", data := .seq vs.toArray }) (hi : IntsAre vs ns) (hl : ns.length ≤ sizeLine) (hr : Room k callerA)
    (F : ∀ base : Heap, K.In base → base.Ns mainGlobals mg → TabB base mg cc pT → FnG P w K mg base CX0 k fa fd [x] sp) (hbind : ∀ (s : Shared) (u : Value), BindsTo s fd ⟨[u], []⟩ [(x, u)])
    (hsp : ∀ H : Hp, H pT = some (.tbl #[]) → SqL K H a (ns.map V.int) → sp [.ref a] H (fun v _ => v = .bl true) fun _ _ _ => False) :
    codeAny (model P w) callerA (.call (.ref fa) ⟨[.ref a], []⟩) (fun r s' => r = .ok (.ret (.bool true)) ∧ OldK s₁.heap s'.heap ∧ s'.os = s₁.os ∧ AllBare s'.gens) s₁ := by
  have rv := vals_ints hi
  have lv := hi.length
  have naP : a ≠ pT := fun z => by
    rw [z, hP] at ha
    injection ha with ha
    injection ha with _ _ ha
    cases ha
  have core : ∀ H : Hp, H pT = some (.tbl #[]) → SqL K H a (ns.map V.int) → HOk P w H s₁.heap → (∀ b o, H b = some o → (b = pT ∧ o = .tbl #[]) ∨ (b = a ∧ K.lookup a = none ∧ ∃ ob, o = .frz ob (.lst (ns.map V.int)))) →
      codeAny (model P w) callerA (.call (.ref fa) ⟨[.ref a], []⟩) (fun r s' => r = .ok (.ret (.bool true)) ∧ OldK s₁.heap s'.heap ∧ s'.os = s₁.os ∧ AllBare s'.gens) s₁ := by
    intro H hHT hS hok hA
    have low : ∀ {b : Addr} {o : Obj}, s₁.heap.get? b = some o → (∀ us n, o.data ≠ .seq us n) → o.data ≠ .fields #[] → (hidT s₁.heap H).get? b = some o := fun {b o} e n1 n2 => hidT_get e (by
      cases q : H b with
      | none => rfl
      | some u =>
        rcases hA b u q with ⟨z, _⟩ | ⟨z, _⟩
        · rw [z, hP] at e
          cases e
          exact absurd rfl n2
        · rw [z, ha] at e
          cases e
          exact absurd rfl (n1 _ _))
    have ns' : ∀ {b : Addr} {m : Str → Option Value}, s₁.heap.Ns b m → (hidT s₁.heap H).Ns b m := fun {b m} ⟨o, es, ep, e, d, r⟩ => ⟨o, es, ep, low e (fun us n z => by rw [d] at z; cases z) (fun z => by rw [d] at z; cases z), d, r⟩
    have kIn : K.In (hidT s₁.heap H) := fun b o e => hidT_get (KX b o e) (by
      cases q : H b with
      | none => rfl
      | some u =>
        rcases hA b u q with ⟨z, _⟩ | ⟨z, hk, _⟩
        · rw [z, nP] at e
          cases e
        · rw [z, hk] at e
          cases e)
    obtain ⟨mc, l1, l2⟩ := hlim
    have md : L2.Mod K mg (hidT s₁.heap H) := ⟨kIn, ns' hns, ⟨mb, ns' hb, hbb⟩, ⟨mc, ns' l1, l2⟩⟩
    have tb : TabB (hidT s₁.heap H) mg cc pT := by
      refine ⟨?_, ?_, fun z => ?_⟩
      · obtain ⟨o, us, file, tf, flags, tg, inF, text, tt, e1, r1, r2, r3, r⟩ := hC
        refine ⟨o, us, file, tf, flags, tg, inF, text, tt, low e1 (fun us' n z => by rw [r2] at z; cases z) (fun z => ?_), r1, r2, r3, r⟩
        rw [r2] at z
        injection z with z
        rw [z] at r3
        cases r3
      · obtain ⟨bm, ob, b1, b2, b3, b4, b5, b6⟩ := hbm
        refine ⟨bm, ob, b1, b2, fun q => ?_, fun q => ?_, low b3 (fun us n z => by rw [b6] at z; cases z) (fun z => by rw [b6] at z; cases z), b4, b5, b6⟩
        · obtain ⟨o, es, ep, e, hd, _⟩ := hns
          rw [q, e] at b3
          cases b3
          rw [hd] at b6
          cases b6
        · rw [q, hP] at b3
          cases b3
          cases b6
      · obtain ⟨o, es, ep, e, hd, _⟩ := hns
        rw [z, hP] at e
        cases e
        cases hd
    have e0 : Env0 P w K mg (hidT s₁.heap H) callerA [] s₁ H := ⟨rfl, md, fun b o e => of_hidT e, Nat.le_of_eq (hidT_size _ _), trivial, (fun b z => nomatch z), hok, .of_eq hg⟩
    refine codeAny_mono ((F _ kIn (ns' hns) tb).run callerA [] s₁ H ⟨[.ref a], []⟩ [.ref a] [.ref a] _ _ rfl hr e0 (hbind s₁ (.ref a)) (.cons rfl .nil) (hsp H hHT hS)) fun r s' h => ?_
    cases r with
    | error e => exact h.elim
    | ok fl =>
      cases fl with
      | next => exact h.elim
      | brk => exact h.elim
      | cont => exact h.elim
      | ret u =>
        obtain ⟨v, H', os, bare, un, hok', r', q⟩ := h
        have q' : v = .bl true := q
        subst q'
        obtain rfl : u = Value.bool true := r'
        obtain ⟨more, hm⟩ := un.tbls pT #[] hHT
        have tab2 : s'.heap.get? pT = some { cls := .none, data := .fields (#[] ++ more) } := hok' pT _ hm
        rw [Array.empty_append] at tab2
        have same : ∀ b o, b ≠ pT → s₁.heap.get? b = some o → s'.heap.get? b = some o := fun b o nb e => by
          cases q : H b with
          | none => exact un.keep b o e q (fun z => nomatch z) (fun z => nomatch z)
          | some u =>
            rcases hA b u q with ⟨z, _⟩ | ⟨_, _, ob, rfl⟩
            · exact absurd z nb
            · obtain ⟨e1, _⟩ := hok b _ q
              obtain ⟨e2, _⟩ := hok' b _ (un.frzs b ob _ q)
              rw [e] at e1
              cases e1
              exact e2
        refine ⟨rfl, ⟨fun b o e => ?_, fun b o e => ?_⟩, os, bare⟩
        · by_cases hb : b = pT
          · rw [hb] at e ⊢
            rw [hP] at e
            cases e
            exact .inr (.inl ⟨(hC.tab hP).isCodeTable, rfl, #[], more, rfl, by rw [Array.empty_append]; exact tab2⟩)
          · exact .inl (same b o hb e)
        · by_cases hb : b = pT
          · rw [hb]
            exact ⟨_, tab2⟩
          · exact ⟨o, same b o hb e⟩
  cases hk : K.lookup a with
  | some o =>
    have e := KX a o hk
    rw [ha] at e
    cases e
    refine core (fun b => if b = pT then some (.tbl #[]) else none) (if_pos rfl) (.inr ⟨_, vs.toArray, _, hk, rfl, rfl, rfl, by rw [List.size_toArray, lv]; exact hl, by simpa using rv⟩) (fun b u z => ?_) (fun b o z => ?_)
    · by_cases hb : b = pT
      · have z' := (if_pos hb).symm.trans z
        cases z'
        rw [hb]
        exact hP
      · have z' := (if_neg hb).symm.trans z
        cases z'
    · by_cases hb : b = pT
      · have z' := (if_pos hb).symm.trans z
        cases z'
        exact .inl ⟨hb, rfl⟩
      · have z' := (if_neg hb).symm.trans z
        cases z'
  | none =>
    refine core (fun b => if b = a then some (.frz { cls := .type "list", data := .seq vs.toArray } (.lst (ns.map V.int))) else if b = pT then some (.tbl #[]) else none) ((if_neg (Ne.symm naP)).trans (if_pos rfl)) (.inl (.inr ⟨{ cls := .type "list", data := .seq vs.toArray }, if_pos rfl⟩)) (fun b u z => ?_) (fun b o z => ?_)
    · by_cases hb : b = a
      · have z' := (if_pos hb).symm.trans z
        cases z'
        rw [hb]
        exact ⟨ha, by rw [List.length_map]; exact hl, vs, _, rv, ha⟩
      · have z1 := (if_neg hb).symm.trans z
        by_cases hb2 : b = pT
        · have z' := (if_pos hb2).symm.trans z1
          cases z'
          rw [hb2]
          exact hP
        · have z' := (if_neg hb2).symm.trans z1
          cases z'
    · by_cases hb : b = a
      · have z' := (if_pos hb).symm.trans z
        cases z'
        exact .inr ⟨hb, hk, _, rfl⟩
      · have z1 := (if_neg hb).symm.trans z
        by_cases hb2 : b = pT
        · have z' := (if_pos hb2).symm.trans z1
          cases z'
          exact .inl ⟨hb2, rfl⟩
        · have z' := (if_neg hb2).symm.trans z1
          cases z'
/-- what the top must have written for such a law -/
def LawGT (l : PySem.W.OpenLaw) (w : World) (K : PySem.W.Frag) (k n : Nat) (x : Str) (mg : Str → Option Value) (fa : Addr) (h : Heap) : Prop :=
  ∃ (fd : FuncData) (cc pT : Addr) (sp : Sp), h.get? pT = some { cls := .none, data := .fields #[] } ∧ K.lookup pT = none ∧ PySem.W.CodeHd h cc pT ∧ (∀ (s : Shared) (u : Value), BindsTo s fd ⟨[u], []⟩ [(x, u)]) ∧
    (∀ (H : Hp) (a : Addr) (ns : List Int), ns.length ≤ n → H pT = some (.tbl #[]) → SqL K H a (ns.map V.int) → sp [.ref a] H (fun v _ => v = .bl true) fun _ _ _ => False) ∧
    ∀ base : Heap, K.In base → base.Ns mainGlobals mg → TabB base mg cc pT → FnG l.prog w K mg base CX0 k fa fd [x] sp
theorem walk_GTE {l : PySem.W.OpenLaw} {n k : Nat} {q : Program} {loose : List Str} {XP : (Str → Option Value) → Heap → Prop} {YP : World → Heap → Prop} {d : DefRec} {x : Str}
    (hn : l.most = some n) (hn2 : n ≤ sizeLine) (hdf : d.params.defaults = []) (hr : Room k callerA)
    (F : ∀ (w : World) (mg : Str → Option Value) (fa : Addr) (h : Heap), YP w h → h.Ns mainGlobals mg → mg d.name = some (.ref fa) → ∃ K : PySem.W.Frag, K.In h ∧ LawGT l w K k n x mg fa h) :
    PySem.W.WalkO q loose XP YP l.row.toRowW d [] (fun f vs => PySem.call f vs) :=
  Att.attach_callB hn hdf fun w s₀ s₁ mg mb fa o pm cd doc a vs ns G Y _ _ _ hmg hobj hints hlen _ hg => by
    obtain ⟨K, KX, fd, cc, pT, sp, hP, nP, hC, hb, hsp, hF⟩ := F w mg fa _ Y G.T.g hmg
    exact law_callGT KX G.T.g G.T.b G.T.builtins G.T.nolimit hg hP nP hC G.T.bmain hobj hints (Nat.le_trans hlen hn2) hr hF hb fun H hT hS => hsp H a ns hlen hT hS
end G58

set_option Elab.async false
set_option linter.all false
set_option maxRecDepth 100000
set_option maxHeartbeats 4000000
/-! The text by places; what the top holds. -/
namespace G58.V
open PySem PySem.Spec PyProof.Rows L2
abbrev siV : Stmt := inClass (topS 2) 0
abbrev siL : Stmt := inClass (topS 3) 0
abbrev siB : Stmt := inClass (topS 4) 0
abbrev sIsi : Stmt := topS 11
abbrev sIsb : Stmt := topS 12
abbrev sArb : Stmt := topS 13
abbrev sArp : Stmt := topS 14
abbrev sRef : Stmt := topS 15
abbrev siW : Stmt := inClass (topS 16) 0
abbrev sCnW : Stmt := inClass (topS 16) 1
abbrev sFaW : Stmt := inClass (topS 16) 2
abbrev siD : Stmt := inClass (topS 17) 0
abbrev sCnD : Stmt := inClass (topS 17) 1
abbrev sFaD : Stmt := inClass (topS 17) 2
abbrev siU : Stmt := inClass (topS 18) 0
abbrev sCnU : Stmt := inClass (topS 18) 1
abbrev sFaU : Stmt := inClass (topS 18) 2
abbrev siR : Stmt := inClass (topS 19) 0
abbrev sCnR : Stmt := inClass (topS 19) 1
abbrev sFaR : Stmt := inClass (topS 19) 2
abbrev siT : Stmt := inClass (topS 20) 0
abbrev sCnT : Stmt := inClass (topS 20) 1
abbrev sFaT : Stmt := inClass (topS 20) 2
abbrev sIss : Stmt := topS 21
abbrev sIsl : Stmt := topS 22
abbrev sWp : Stmt := topS 23
abbrev sIns : Stmt := topS 24
abbrev sDep : Stmt := topS 25
abbrev sPrt : Stmt := topS 26
abbrev sChk : Stmt := topS 27
abbrev sSin : Stmt := inClass (topS 33) 0
abbrev sSgn : Stmt := inClass (topS 33) 1
abbrev sIsa : Stmt := inClass (topS 33) 2
abbrev sRfu : Stmt := inClass (topS 33) 3
abbrev sExp : Stmt := inClass (topS 33) 4
abbrev sFns : Stmt := inClass (topS 33) 5
abbrev sFig : Stmt := inClass (topS 33) 6
abbrev sSit : Stmt := inClass (topS 33) 7
abbrev sHxn : Stmt := inClass (topS 33) 8
abbrev sOcr : Stmt := inClass (topS 33) 9
abbrev sUnh : Stmt := inClass (topS 33) 10
abbrev sRlh : Stmt := inClass (topS 33) 11
abbrev sLtd : Stmt := inClass (topS 33) 12
abbrev sStg : Stmt := inClass (topS 33) 13
abbrev sMng : Stmt := inClass (topS 33) 14
abbrev sGon : Stmt := inClass (topS 33) 15
abbrev sLsh : Stmt := inClass (topS 33) 16
abbrev sAdm : Stmt := inClass (topS 33) 17
abbrev sDch : Stmt := inClass (topS 33) 18
abbrev sVlu : Stmt := inClass (topS 33) 19
abbrev sRdv : Stmt := topS 34
abbrev sSrc : Stmt := topS 36
abbrev sDrw : Stmt := topS 37
abbrev sPik : Stmt := topS 38
abbrev sByt : Stmt := topS 42
abbrev sItg : Stmt := topS 43
abbrev sStr : Stmt := topS 44
abbrev sWid : Stmt := topS 45
abbrev sLea : Stmt := topS 46
abbrev sHex : Stmt := topS 39
abbrev sQuo : Stmt := topS 40
abbrev sWri : Stmt := topS 41
abbrev sUnf : Stmt := topS 47
abbrev sTre : Stmt := topS 48
abbrev sTxx : Stmt := topS 49
abbrev sDue : Stmt := topS 50
abbrev sSai : Stmt := topS 51
abbrev sNrt : Stmt := topS 52
abbrev sRgt : Stmt := topS 53
structure Ad where
  (cNoValue cLarge cBadText cWide cData cUid cReal cDate cScanner cNestError cUnfit fiV fiL fiB fIsi fIsb fArb fArp fRef fiW fCnW fFaW fiD fCnD fFaD fiU fCnU fFaU fiR fCnR fFaR fiT fCnT fFaT fIss fIsl fWp fIns fDep fPrt fChk fSin fSgn fIsa fRfu fExp fFns fFig fSit fHxn fOcr fUnh fRlh fLtd fStg fMng fGon fLsh fAdm fDch fVlu fRdv fSrc fDrw fPik fByt fItg fStr fWid fLea fHex fQuo fWri fUnf fTre fTxx fDue fSai fNrt fRgt : Addr)
structure Txt (K : PySem.W.Frag) (mg : Str → Option Value) (a : Ad) : Prop where
  xNoValue : ExC K a.cNoValue a.fiV
  noNoValue_path : PySem.W.findIn K (.ref a.cNoValue) "path" = some none
  xLarge : ExC K a.cLarge a.fiL
  noLarge_what : PySem.W.findIn K (.ref a.cLarge) "what" = some none
  xBadText : ExC K a.cBadText a.fiB
  noBadText_place : PySem.W.findIn K (.ref a.cBadText) "place" = some none
  mkWide : Mk K a.cWide a.fiW
  clWide : Cls K a.cWide
  nWide_units : NoAttr K a.cWide "units"
  mtCnW : Meth K a.cWide "class_name" a.fCnW
  mtFaW : Meth K a.cWide "facts" a.fFaW
  mkData : Mk K a.cData a.fiD
  clData : Cls K a.cData
  nData_octets : NoAttr K a.cData "octets"
  mtCnD : Meth K a.cData "class_name" a.fCnD
  mtFaD : Meth K a.cData "facts" a.fFaD
  mkUid : Mk K a.cUid a.fiU
  clUid : Cls K a.cUid
  nUid_number : NoAttr K a.cUid "number"
  mtCnU : Meth K a.cUid "class_name" a.fCnU
  mtFaU : Meth K a.cUid "facts" a.fFaU
  mkReal : Mk K a.cReal a.fiR
  clReal : Cls K a.cReal
  nReal_octets : NoAttr K a.cReal "octets"
  mtCnR : Meth K a.cReal "class_name" a.fCnR
  mtFaR : Meth K a.cReal "facts" a.fFaR
  mkDate : Mk K a.cDate a.fiT
  clDate : Cls K a.cDate
  nDate_octets : NoAttr K a.cDate "octets"
  mtCnT : Meth K a.cDate "class_name" a.fCnT
  mtFaT : Meth K a.cDate "facts" a.fFaT
  mkScanner : Mk K a.cScanner a.fSin
  clScanner : Cls K a.cScanner
  nScanner_text : NoAttr K a.cScanner "text"
  nScanner_place : NoAttr K a.cScanner "place"
  mtSgn : Meth K a.cScanner "sign" a.fSgn
  mtIsa : Meth K a.cScanner "is_at" a.fIsa
  mtRfu : Meth K a.cScanner "refuse" a.fRfu
  mtExp : Meth K a.cScanner "expect" a.fExp
  mtFns : Meth K a.cScanner "finish" a.fFns
  mtFig : Meth K a.cScanner "figures_here" a.fFig
  mtSit : Meth K a.cScanner "integer" a.fSit
  mtHxn : Meth K a.cScanner "hex_number" a.fHxn
  mtOcr : Meth K a.cScanner "octet_run" a.fOcr
  mtUnh : Meth K a.cScanner "units_here" a.fUnh
  mtRlh : Meth K a.cScanner "real_here" a.fRlh
  mtLtd : Meth K a.cScanner "lettered" a.fLtd
  mtStg : Meth K a.cScanner "string" a.fStg
  mtMng : Meth K a.cScanner "meaning" a.fMng
  mtGon : Meth K a.cScanner "goes_on" a.fGon
  mtLsh : Meth K a.cScanner "list_here" a.fLsh
  mtAdm : Meth K a.cScanner "add_member" a.fAdm
  mtDch : Meth K a.cScanner "dictionary_here" a.fDch
  mtVlu : Meth K a.cScanner "value" a.fVlu
  gcNoValue : mg "NoValue" = some (.ref a.cNoValue)
  gcLarge : mg "Large" = some (.ref a.cLarge)
  gcBadText : mg "BadText" = some (.ref a.cBadText)
  gcWide : mg "Wide" = some (.ref a.cWide)
  gcData : mg "Data" = some (.ref a.cData)
  gcUid : mg "Uid" = some (.ref a.cUid)
  gcReal : mg "Real" = some (.ref a.cReal)
  gcDate : mg "Date" = some (.ref a.cDate)
  gcScanner : mg "Scanner" = some (.ref a.cScanner)
  gcNestError : mg "NestError" = some (.ref a.cNestError)
  gcUnfit : mg "Unfit" = some (.ref a.cUnfit)
  gIsi : mg "is_integer" = some (.ref a.fIsi)
  gIsb : mg "is_between" = some (.ref a.fIsb)
  gArb : mg "are_between" = some (.ref a.fArb)
  gArp : mg "are_plain" = some (.ref a.fArp)
  gRef : mg "refuse" = some (.ref a.fRef)
  gIss : mg "is_string" = some (.ref a.fIss)
  gIsl : mg "is_leaf" = some (.ref a.fIsl)
  gWp : mg "wrong_path" = some (.ref a.fWp)
  gIns : mg "inside" = some (.ref a.fIns)
  gDep : mg "depth_of" = some (.ref a.fDep)
  gPrt : mg "parts_of" = some (.ref a.fPrt)
  gChk : mg "check" = some (.ref a.fChk)
  gRdv : mg "read_value" = some (.ref a.fRdv)
  gSrc : mg "_law_source" = some (.ref a.fSrc)
  gDrw : mg "_law_draw" = some (.ref a.fDrw)
  gPik : mg "_law_pick" = some (.ref a.fPik)
  gByt : mg "_law_bytes" = some (.ref a.fByt)
  gItg : mg "_law_integer" = some (.ref a.fItg)
  gStr : mg "_law_string" = some (.ref a.fStr)
  gWid : mg "_law_wide" = some (.ref a.fWid)
  gLea : mg "_law_leaf" = some (.ref a.fLea)
  gHex : mg "_law_hex" = some (.ref a.fHex)
  gQuo : mg "_law_quoted" = some (.ref a.fQuo)
  gWri : mg "_law_written" = some (.ref a.fWri)
  gUnf : mg "_law_unfit" = some (.ref a.fUnf)
  gTre : mg "_law_tree" = some (.ref a.fTre)
  gTxx : mg "_law_text" = some (.ref a.fTxx)
  gDue : mg "_law_due" = some (.ref a.fDue)
  gSai : mg "_law_said" = some (.ref a.fSai)
  gNrt : mg "_law_numbers_right" = some (.ref a.fNrt)
  gRgt : mg "_law_right" = some (.ref a.fRgt)
  kLEAST_INTEGER : ∃ t, mg "LEAST_INTEGER" = some (.int (-9223372036854775808) t)
  kGREATEST : ∃ t, mg "GREATEST" = some (.int 18446744073709551615 t)
  kMOST_DEPTH : ∃ t, mg "MOST_DEPTH" = some (.int 100 t)
  kMOST_PARTS : ∃ t, mg "MOST_PARTS" = some (.int 20000 t)
  kMOST_FIGURES : ∃ t, mg "MOST_FIGURES" = some (.int 20 t)
  kFIGURES : ∃ t, mg "FIGURES" = some (.str "0123456789" t)
  kHEX : ∃ t, mg "HEX" = some (.str "0123456789abcdef" t)
  blen : mg "len" = none
  bisinstance : mg "isinstance" = none
  bstr : mg "str" = none
  bint : mg "int" = none
  bbool : mg "bool" = none
  babs : mg "abs" = none
  brange : mg "range" = none
  blist : mg "list" = none
  btuple : mg "tuple" = none
  bdict : mg "dict" = none
  ball : mg "all" = none
  benumerate : mg "enumerate" = none
  bsorted : mg "sorted" = none
  bord : mg "ord" = none
  bmax : mg "max" = none
  bmin : mg "min" = none
  bsum : mg "sum" = none
  brepr : mg "repr" = none
  bzip : mg "zip" = none
  hn : PySem.W.specialIn K (.builtin "object.__class__") "__get__" = some (some (.builtin "getset_descriptor.__get__"))
  htk : PySem.W.takesIn K (.builtin "object.__class__") = some true
  al_NoneType : PySem.W.kitAny K (.type "NoneType") [.type "bool", .ref a.cWide, .ref a.cData, .ref a.cUid, .ref a.cReal, .ref a.cDate] = some false
  ld_NoneType : PySem.W.kitAny K (.type "NoneType") [.type "list", .type "dict"] = some false
  kw_NoneType : PySem.W.kitOne K (.type "NoneType") (.ref a.cWide) = some false
  al_bool : PySem.W.kitAny K (.type "bool") [.type "bool", .ref a.cWide, .ref a.cData, .ref a.cUid, .ref a.cReal, .ref a.cDate] = some true
  ld_bool : PySem.W.kitAny K (.type "bool") [.type "list", .type "dict"] = some false
  al_int : PySem.W.kitAny K (.type "int") [.type "bool", .ref a.cWide, .ref a.cData, .ref a.cUid, .ref a.cReal, .ref a.cDate] = some false
  ld_int : PySem.W.kitAny K (.type "int") [.type "list", .type "dict"] = some false
  kw_int : PySem.W.kitOne K (.type "int") (.ref a.cWide) = some false
  al_str : PySem.W.kitAny K (.type "str") [.type "bool", .ref a.cWide, .ref a.cData, .ref a.cUid, .ref a.cReal, .ref a.cDate] = some false
  ld_str : PySem.W.kitAny K (.type "str") [.type "list", .type "dict"] = some false
  kw_str : PySem.W.kitOne K (.type "str") (.ref a.cWide) = some false
  al_tuple : PySem.W.kitAny K (.type "tuple") [.type "bool", .ref a.cWide, .ref a.cData, .ref a.cUid, .ref a.cReal, .ref a.cDate] = some false
  ld_tuple : PySem.W.kitAny K (.type "tuple") [.type "list", .type "dict"] = some false
  al_dict : PySem.W.kitAny K (.type "dict") [.type "bool", .ref a.cWide, .ref a.cData, .ref a.cUid, .ref a.cReal, .ref a.cDate] = some false
  ld_dict : PySem.W.kitAny K (.type "dict") [.type "list", .type "dict"] = some true
  al_list : PySem.W.kitAny K (.type "list") [.type "bool", .ref a.cWide, .ref a.cData, .ref a.cUid, .ref a.cReal, .ref a.cDate] = some false
  ld_list : PySem.W.kitAny K (.type "list") [.type "list", .type "dict"] = some true
  haWide : PySem.W.findIn K (.ref a.cWide) "__class__" = some (some (.builtin "object.__class__"))
  hmWide : PySem.W.mroIn K a.cWide (.type "object") = some true
  alWide : PySem.W.kitAny K (.ref a.cWide) [.type "bool", .ref a.cWide, .ref a.cData, .ref a.cUid, .ref a.cReal, .ref a.cDate] = some true
  ldWide : PySem.W.kitAny K (.ref a.cWide) [.type "list", .type "dict"] = some false
  kwWide : PySem.W.kitOne K (.ref a.cWide) (.ref a.cWide) = some true
  koWide_list : PySem.W.kitOne K (.ref a.cWide) (.type "list") = some false
  koWide_dict : PySem.W.kitOne K (.ref a.cWide) (.type "dict") = some false
  koWide_bool : PySem.W.kitOne K (.ref a.cWide) (.type "bool") = some false
  koWide_int : PySem.W.kitOne K (.ref a.cWide) (.type "int") = some false
  koWide_str : PySem.W.kitOne K (.ref a.cWide) (.type "str") = some false
  haData : PySem.W.findIn K (.ref a.cData) "__class__" = some (some (.builtin "object.__class__"))
  hmData : PySem.W.mroIn K a.cData (.type "object") = some true
  alData : PySem.W.kitAny K (.ref a.cData) [.type "bool", .ref a.cWide, .ref a.cData, .ref a.cUid, .ref a.cReal, .ref a.cDate] = some true
  ldData : PySem.W.kitAny K (.ref a.cData) [.type "list", .type "dict"] = some false
  kwData : PySem.W.kitOne K (.ref a.cData) (.ref a.cWide) = some false
  koData_list : PySem.W.kitOne K (.ref a.cData) (.type "list") = some false
  koData_dict : PySem.W.kitOne K (.ref a.cData) (.type "dict") = some false
  koData_bool : PySem.W.kitOne K (.ref a.cData) (.type "bool") = some false
  koData_int : PySem.W.kitOne K (.ref a.cData) (.type "int") = some false
  koData_str : PySem.W.kitOne K (.ref a.cData) (.type "str") = some false
  haUid : PySem.W.findIn K (.ref a.cUid) "__class__" = some (some (.builtin "object.__class__"))
  hmUid : PySem.W.mroIn K a.cUid (.type "object") = some true
  alUid : PySem.W.kitAny K (.ref a.cUid) [.type "bool", .ref a.cWide, .ref a.cData, .ref a.cUid, .ref a.cReal, .ref a.cDate] = some true
  ldUid : PySem.W.kitAny K (.ref a.cUid) [.type "list", .type "dict"] = some false
  kwUid : PySem.W.kitOne K (.ref a.cUid) (.ref a.cWide) = some false
  koUid_list : PySem.W.kitOne K (.ref a.cUid) (.type "list") = some false
  koUid_dict : PySem.W.kitOne K (.ref a.cUid) (.type "dict") = some false
  koUid_bool : PySem.W.kitOne K (.ref a.cUid) (.type "bool") = some false
  koUid_int : PySem.W.kitOne K (.ref a.cUid) (.type "int") = some false
  koUid_str : PySem.W.kitOne K (.ref a.cUid) (.type "str") = some false
  haReal : PySem.W.findIn K (.ref a.cReal) "__class__" = some (some (.builtin "object.__class__"))
  hmReal : PySem.W.mroIn K a.cReal (.type "object") = some true
  alReal : PySem.W.kitAny K (.ref a.cReal) [.type "bool", .ref a.cWide, .ref a.cData, .ref a.cUid, .ref a.cReal, .ref a.cDate] = some true
  ldReal : PySem.W.kitAny K (.ref a.cReal) [.type "list", .type "dict"] = some false
  kwReal : PySem.W.kitOne K (.ref a.cReal) (.ref a.cWide) = some false
  koReal_list : PySem.W.kitOne K (.ref a.cReal) (.type "list") = some false
  koReal_dict : PySem.W.kitOne K (.ref a.cReal) (.type "dict") = some false
  koReal_bool : PySem.W.kitOne K (.ref a.cReal) (.type "bool") = some false
  koReal_int : PySem.W.kitOne K (.ref a.cReal) (.type "int") = some false
  koReal_str : PySem.W.kitOne K (.ref a.cReal) (.type "str") = some false
  haDate : PySem.W.findIn K (.ref a.cDate) "__class__" = some (some (.builtin "object.__class__"))
  hmDate : PySem.W.mroIn K a.cDate (.type "object") = some true
  alDate : PySem.W.kitAny K (.ref a.cDate) [.type "bool", .ref a.cWide, .ref a.cData, .ref a.cUid, .ref a.cReal, .ref a.cDate] = some true
  ldDate : PySem.W.kitAny K (.ref a.cDate) [.type "list", .type "dict"] = some false
  kwDate : PySem.W.kitOne K (.ref a.cDate) (.ref a.cWide) = some false
  koDate_list : PySem.W.kitOne K (.ref a.cDate) (.type "list") = some false
  koDate_dict : PySem.W.kitOne K (.ref a.cDate) (.type "dict") = some false
  koDate_bool : PySem.W.kitOne K (.ref a.cDate) (.type "bool") = some false
  koDate_int : PySem.W.kitOne K (.ref a.cDate) (.type "int") = some false
  koDate_str : PySem.W.kitOne K (.ref a.cDate) (.type "str") = some false
  emNoValue_NoValue : PySem.W.exmOne K (.ref a.cNoValue) (.ref a.cNoValue) = some true
  emLarge_NoValue : PySem.W.exmOne K (.ref a.cLarge) (.ref a.cNoValue) = some false
  emLarge_Large : PySem.W.exmOne K (.ref a.cLarge) (.ref a.cLarge) = some true
  mkUnfit : PySem.W.makesIn K a.cUnfit = true
  inUnfit : PySem.W.findIn K (.ref a.cUnfit) "__init__" = some (some (.builtin "object.__init__"))
  kpUnfit : PySem.W.keepIn K (.ref a.cUnfit) = true
  pgUnfit : PySem.W.plainGet K a.cUnfit Str.empty = true
  hdUnfit : PySem.W.hasDictIn K a.cUnfit = true
  poUnfit : PySem.W.plainOver K a.cUnfit = true
  saUnfit : PySem.W.findIn K (.ref a.cUnfit) "__setattr__" = some (some (.builtin "object.__setattr__"))
  haUnfit : PySem.W.findIn K (.ref a.cUnfit) "__class__" = some (some (.builtin "object.__class__"))
  hmUnfit : PySem.W.mroIn K a.cUnfit (.type "object") = some true
  alUnfit : PySem.W.kitAny K (.ref a.cUnfit) [.type "bool", .ref a.cWide, .ref a.cData, .ref a.cUid, .ref a.cReal, .ref a.cDate] = some false
  koUnfit_list : PySem.W.kitOne K (.ref a.cUnfit) (.type "list") = some false
  koUnfit_dict : PySem.W.kitOne K (.ref a.cUnfit) (.type "dict") = some false
  koUnfit_bool : PySem.W.kitOne K (.ref a.cUnfit) (.type "bool") = some false
  koUnfit_int : PySem.W.kitOne K (.ref a.cUnfit) (.type "int") = some false
  koUnfit_str : PySem.W.kitOne K (.ref a.cUnfit) (.type "str") = some false
  kw_list : PySem.W.kitOne K (.type "list") (.ref a.cWide) = some false
  ku_list : PySem.W.kitOne K (.type "list") (.ref a.cUid) = some false
  kw_dict : PySem.W.kitOne K (.type "dict") (.ref a.cWide) = some false
  ku_dict : PySem.W.kitOne K (.type "dict") (.ref a.cUid) = some false
  kuWide : PySem.W.kitOne K (.ref a.cWide) (.ref a.cUid) = some false
  kdWide : PySem.W.kitOne K (.ref a.cWide) (.ref a.cData) = some false
  krWide : PySem.W.kitOne K (.ref a.cWide) (.ref a.cReal) = some false
  kuData : PySem.W.kitOne K (.ref a.cData) (.ref a.cUid) = some false
  kdData : PySem.W.kitOne K (.ref a.cData) (.ref a.cData) = some true
  krData : PySem.W.kitOne K (.ref a.cData) (.ref a.cReal) = some false
  kuUid : PySem.W.kitOne K (.ref a.cUid) (.ref a.cUid) = some true
  kdUid : PySem.W.kitOne K (.ref a.cUid) (.ref a.cData) = some false
  krUid : PySem.W.kitOne K (.ref a.cUid) (.ref a.cReal) = some false
  kuReal : PySem.W.kitOne K (.ref a.cReal) (.ref a.cUid) = some false
  kdReal : PySem.W.kitOne K (.ref a.cReal) (.ref a.cData) = some false
  krReal : PySem.W.kitOne K (.ref a.cReal) (.ref a.cReal) = some true
  kuDate : PySem.W.kitOne K (.ref a.cDate) (.ref a.cUid) = some false
  kdDate : PySem.W.kitOne K (.ref a.cDate) (.ref a.cData) = some false
  krDate : PySem.W.kitOne K (.ref a.cDate) (.ref a.cReal) = some false
  koWide_tuple : PySem.W.kitOne K (.ref a.cWide) (.type "tuple") = some false
  koData_tuple : PySem.W.kitOne K (.ref a.cData) (.type "tuple") = some false
  koUid_tuple : PySem.W.kitOne K (.ref a.cUid) (.type "tuple") = some false
  koReal_tuple : PySem.W.kitOne K (.ref a.cReal) (.type "tuple") = some false
  koDate_tuple : PySem.W.kitOne K (.ref a.cDate) (.type "tuple") = some false
structure Df (K : PySem.W.Frag) (a : Ad) where
  (diV diL diB dIsi dIsb dArb dArp dRef diW dCnW dFaW diD dCnD dFaD diU dCnU dFaU diR dCnR dFaR diT dCnT dFaT dIss dIsl dWp dIns dDep dPrt dChk dSin dSgn dIsa dRfu dExp dFns dFig dSit dHxn dOcr dUnh dRlh dLtd dStg dMng dGon dLsh dAdm dDch dVlu dRdv dSrc dDrw dPik dByt dItg dStr dWid dLea dHex dQuo dWri dUnf dTre dTxx dDue dSai dNrt dRgt : FuncData)
  FiV : Fun K "__init__" "NoValue.__init__" siV a.fiV diV
  biV : L2.Binds K diV ["self", "path"] []
  FiL : Fun K "__init__" "Large.__init__" siL a.fiL diL
  biL : L2.Binds K diL ["self", "what"] []
  FiB : Fun K "__init__" "BadText.__init__" siB a.fiB diB
  biB : L2.Binds K diB ["self", "place"] []
  FIsi : Fun K "is_integer" "is_integer" sIsi a.fIsi dIsi
  bIsi : L2.Binds K dIsi ["thing"] []
  FIsb : Fun K "is_between" "is_between" sIsb a.fIsb dIsb
  bIsb : L2.Binds K dIsb ["thing", "least", "most"] []
  FArb : Fun K "are_between" "are_between" sArb a.fArb dArb
  bArb : L2.Binds K dArb ["things", "least", "most"] []
  FArp : Fun K "are_plain" "are_plain" sArp a.fArp dArp
  bArp : L2.Binds K dArp ["units"] []
  FRef : Fun K "refuse" "refuse" sRef a.fRef dRef
  bRef : L2.Binds K dRef ["is_good"] []
  FiW : Fun K "__init__" "Wide.__init__" siW a.fiW diW
  biW : L2.Binds K diW ["self", "units"] []
  FCnW : Fun K "class_name" "Wide.class_name" sCnW a.fCnW dCnW
  bCnW : L2.Binds K dCnW ["self"] []
  FFaW : Fun K "facts" "Wide.facts" sFaW a.fFaW dFaW
  bFaW : L2.Binds K dFaW ["self"] []
  FiD : Fun K "__init__" "Data.__init__" siD a.fiD diD
  biD : L2.Binds K diD ["self", "octets"] []
  FCnD : Fun K "class_name" "Data.class_name" sCnD a.fCnD dCnD
  bCnD : L2.Binds K dCnD ["self"] []
  FFaD : Fun K "facts" "Data.facts" sFaD a.fFaD dFaD
  bFaD : L2.Binds K dFaD ["self"] []
  FiU : Fun K "__init__" "Uid.__init__" siU a.fiU diU
  biU : L2.Binds K diU ["self", "number"] []
  FCnU : Fun K "class_name" "Uid.class_name" sCnU a.fCnU dCnU
  bCnU : L2.Binds K dCnU ["self"] []
  FFaU : Fun K "facts" "Uid.facts" sFaU a.fFaU dFaU
  bFaU : L2.Binds K dFaU ["self"] []
  FiR : Fun K "__init__" "Real.__init__" siR a.fiR diR
  biR : L2.Binds K diR ["self", "octets"] []
  FCnR : Fun K "class_name" "Real.class_name" sCnR a.fCnR dCnR
  bCnR : L2.Binds K dCnR ["self"] []
  FFaR : Fun K "facts" "Real.facts" sFaR a.fFaR dFaR
  bFaR : L2.Binds K dFaR ["self"] []
  FiT : Fun K "__init__" "Date.__init__" siT a.fiT diT
  biT : L2.Binds K diT ["self", "octets"] []
  FCnT : Fun K "class_name" "Date.class_name" sCnT a.fCnT dCnT
  bCnT : L2.Binds K dCnT ["self"] []
  FFaT : Fun K "facts" "Date.facts" sFaT a.fFaT dFaT
  bFaT : L2.Binds K dFaT ["self"] []
  FIss : Fun K "is_string" "is_string" sIss a.fIss dIss
  bIss : L2.Binds K dIss ["thing"] []
  FIsl : Fun K "is_leaf" "is_leaf" sIsl a.fIsl dIsl
  bIsl : L2.Binds K dIsl ["thing"] []
  FWp : Fun K "wrong_path" "wrong_path" sWp a.fWp dWp
  bWp : L2.Binds K dWp ["thing", "path"] []
  FIns : Fun K "inside" "inside" sIns a.fIns dIns
  bIns : L2.Binds K dIns ["thing"] []
  FDep : Fun K "depth_of" "depth_of" sDep a.fDep dDep
  bDep : L2.Binds K dDep ["thing"] []
  FPrt : Fun K "parts_of" "parts_of" sPrt a.fPrt dPrt
  bPrt : L2.Binds K dPrt ["thing"] []
  FChk : Fun K "check" "check" sChk a.fChk dChk
  bChk : L2.Binds K dChk ["value"] []
  FSin : Fun K "__init__" "Scanner.__init__" sSin a.fSin dSin
  bSin : L2.Binds K dSin ["self", "text"] []
  FSgn : Fun K "sign" "Scanner.sign" sSgn a.fSgn dSgn
  bSgn : L2.Binds K dSgn ["self"] []
  FIsa : Fun K "is_at" "Scanner.is_at" sIsa a.fIsa dIsa
  bIsa : L2.Binds K dIsa ["self", "signs"] []
  FRfu : Fun K "refuse" "Scanner.refuse" sRfu a.fRfu dRfu
  bRfu : L2.Binds K dRfu ["self"] []
  FExp : Fun K "expect" "Scanner.expect" sExp a.fExp dExp
  bExp : L2.Binds K dExp ["self", "signs"] []
  FFns : Fun K "finish" "Scanner.finish" sFns a.fFns dFns
  bFns : L2.Binds K dFns ["self"] []
  FFig : Fun K "figures_here" "Scanner.figures_here" sFig a.fFig dFig
  bFig : L2.Binds K dFig ["self"] []
  FSit : Fun K "integer" "Scanner.integer" sSit a.fSit dSit
  bSit : L2.Binds K dSit ["self"] []
  FHxn : Fun K "hex_number" "Scanner.hex_number" sHxn a.fHxn dHxn
  bHxn : L2.Binds K dHxn ["self", "count"] []
  FOcr : Fun K "octet_run" "Scanner.octet_run" sOcr a.fOcr dOcr
  bOcr : L2.Binds K dOcr ["self", "least"] []
  FUnh : Fun K "units_here" "Scanner.units_here" sUnh a.fUnh dUnh
  bUnh : L2.Binds K dUnh ["self"] []
  FRlh : Fun K "real_here" "Scanner.real_here" sRlh a.fRlh dRlh
  bRlh : L2.Binds K dRlh ["self"] []
  FLtd : Fun K "lettered" "Scanner.lettered" sLtd a.fLtd dLtd
  bLtd : L2.Binds K dLtd ["self"] []
  FStg : Fun K "string" "Scanner.string" sStg a.fStg dStg
  bStg : L2.Binds K dStg ["self"] []
  FMng : Fun K "meaning" "Scanner.meaning" sMng a.fMng dMng
  bMng : L2.Binds K dMng ["self", "signs", "value"] []
  FGon : Fun K "goes_on" "Scanner.goes_on" sGon a.fGon dGon
  bGon : L2.Binds K dGon ["self", "closing"] []
  FLsh : Fun K "list_here" "Scanner.list_here" sLsh a.fLsh dLsh
  bLsh : L2.Binds K dLsh ["self"] []
  FAdm : Fun K "add_member" "Scanner.add_member" sAdm a.fAdm dAdm
  bAdm : L2.Binds K dAdm ["self", "found"] []
  FDch : Fun K "dictionary_here" "Scanner.dictionary_here" sDch a.fDch dDch
  bDch : L2.Binds K dDch ["self"] []
  FVlu : Fun K "value" "Scanner.value" sVlu a.fVlu dVlu
  bVlu : L2.Binds K dVlu ["self"] []
  FRdv : Fun K "read_value" "read_value" sRdv a.fRdv dRdv
  bRdv : L2.Binds K dRdv ["text"] []
  FSrc : Fun K "_law_source" "_law_source" sSrc a.fSrc dSrc
  bSrc : L2.Binds K dSrc ["_law_cell"] []
  FDrw : Fun K "_law_draw" "_law_draw" sDrw a.fDrw dDrw
  bDrw : L2.Binds K dDrw ["_law_source_here", "_law_many"] []
  FPik : Fun K "_law_pick" "_law_pick" sPik a.fPik dPik
  bPik : L2.Binds K dPik ["_law_source_here", "_law_items"] []
  FByt : Fun K "_law_bytes" "_law_bytes" sByt a.fByt dByt
  bByt : L2.Binds K dByt ["_law_source_here", "_law_many"] []
  FItg : Fun K "_law_integer" "_law_integer" sItg a.fItg dItg
  bItg : L2.Binds K dItg ["_law_source_here"] []
  FStr : Fun K "_law_string" "_law_string" sStr a.fStr dStr
  bStr : L2.Binds K dStr ["_law_source_here"] []
  FWid : Fun K "_law_wide" "_law_wide" sWid a.fWid dWid
  bWid : L2.Binds K dWid ["_law_source_here"] []
  FLea : Fun K "_law_leaf" "_law_leaf" sLea a.fLea dLea
  bLea : L2.Binds K dLea ["_law_source_here"] []
  FHex : Fun K "_law_hex" "_law_hex" sHex a.fHex dHex
  bHex : L2.Binds K dHex ["_law_some"] []
  FQuo : Fun K "_law_quoted" "_law_quoted" sQuo a.fQuo dQuo
  bQuo : L2.Binds K dQuo ["_law_word"] []
  FWri : Fun K "_law_written" "_law_written" sWri a.fWri dWri
  bWri : L2.Binds K dWri ["_law_thing"] []
  FUnf : Fun K "_law_unfit" "_law_unfit" sUnf a.fUnf dUnf
  bUnf : L2.Binds K dUnf ["_law_source_here"] []
  FTre : Fun K "_law_tree" "_law_tree" sTre a.fTre dTre
  bTre : L2.Binds K dTre ["_law_source_here", "_law_deep", "_law_rare"] []
  FTxx : Fun K "_law_text" "_law_text" sTxx a.fTxx dTxx
  bTxx : L2.Binds K dTxx ["_law_source_here", "_law_thing"] []
  FDue : Fun K "_law_due" "_law_due" sDue a.fDue dDue
  bDue : L2.Binds K dDue ["_law_thing"] []
  FSai : Fun K "_law_said" "_law_said" sSai a.fSai dSai
  bSai : L2.Binds K dSai ["_law_word"] []
  FNrt : Fun K "_law_numbers_right" "_law_numbers_right" sNrt a.fNrt dNrt
  bNrt : L2.Binds K dNrt ["_law_source_here"] []
  FRgt : Fun K "_law_right" "_law_right" sRgt a.fRgt dRgt
  bRgt : L2.Binds K dRgt ["_law_source_here"] []
end G58.V

set_option Elab.async false
set_option linter.all false
set_option pp.maxSteps 2500
set_option maxRecDepth 100000
set_option maxHeartbeats 4000000
/-! k01: arguments, the checks of the package. -/
namespace G58.V
open PySem PySem.Spec PyProof.Rows L2 LamX
def rTupB (K : PySem.W.Frag) : List V → Hp → VK → Prop := fun xs H Q => ∃ p ys, xs = [.ref p] ∧ SqB K H p ys ∧ ∀ t H', Same H H' → SqT K H' t ys → Q (.ref t) H'
theorem call_tupB {X : Cx} : CallR X (.type "tuple") (rTupB X.K) := by
  intro pins s σ H xs us Q Iv r h
  obtain ⟨p, ys, e, hb, q⟩ := h
  exact call_tuple_of pins s σ H xs us Q Iv r ⟨p, ys, e, hb.imp (fun c => ⟨c, fun l hl => q l _ (same_new (Same.refl H) hl) (.inl (.inl upd_same))⟩) (fun c => ⟨c, q p H (Same.refl H) c⟩)⟩
theorem ExtN.same {H H1 H2 : Hp} (x : ExtN H H1) (y : Same H1 H2) : ExtN H H2 := x.trans (.of y)
theorem sqL_x {K : PySem.W.Frag} {H H' : Hp} {a : Addr} {xs : List V} (h : SqL K H a xs) (e : ExtN H H') : SqL K H' a xs := by
  rcases h with (h | ⟨o, h⟩) | h
  · exact .inl (.inl (e _ _ h fun ps z => nomatch z))
  · exact .inl (.inr ⟨o, e _ _ h fun ps z => nomatch z⟩)
  · exact .inr h
theorem sqT_x {K : PySem.W.Frag} {H H' : Hp} {a : Addr} {xs : List V} (h : SqT K H a xs) (e : ExtN H H') : SqT K H' a xs := by
  rcases h with (h | ⟨o, h⟩) | h
  · exact .inl (.inl (e _ _ h fun ps z => nomatch z))
  · exact .inl (.inr ⟨o, e _ _ h fun ps z => nomatch z⟩)
  · exact .inr h
theorem sqB_x {K : PySem.W.Frag} {H H' : Hp} {a : Addr} {xs : List V} (h : SqB K H a xs) (e : ExtN H H') : SqB K H' a xs := h.imp (fun h => sqL_x h e) fun h => sqT_x h e
theorem sqL_ty {K : PySem.W.Frag} {H : Hp} {a : Addr} {xs : List V} (h : SqL K H a xs) : TyX K H (.ref a) (.type "list") := by
  rcases h with (h | ⟨o, h⟩) | ⟨o, its, n, h, hc, _⟩
  · exact .base (.lst h)
  · exact .base (.frz h)
  · exact .kList h hc
theorem sqT_ty {K : PySem.W.Frag} {H : Hp} {a : Addr} {xs : List V} (h : SqT K H a xs) : TyX K H (.ref a) (.type "tuple") := by
  rcases h with (h | ⟨o, h⟩) | ⟨o, its, n, h, hc, _⟩
  · exact .base (.tup h)
  · exact .fTuple h
  · exact .kTuple h hc
theorem tyX_x {K : PySem.W.Frag} {H H' : Hp} {v : V} {t : Value} (h : TyX K H v t) (e : ExtN H H') : TyX K H' v t := by
  cases h with
  | base b =>
    cases b with
    | non => exact .base .non
    | bl y => exact .base (.bl y)
    | int i => exact .base (.int i)
    | str y => exact .base (.str y)
    | flt y => exact .base (.flt y)
    | lst h => exact .base (.lst (e _ _ h fun ps z => nomatch z))
    | frz h => exact .base (.frz (e _ _ h fun ps z => nomatch z))
    | tup h => exact .base (.tup (e _ _ h fun ps z => nomatch z))
    | dK h => exact .base (.dK (e _ _ h fun ps z => nomatch z))
    | dT h => exact .base (.dT (e _ _ h fun ps z => nomatch z))
    | ins h c1 c2 c3 c4 c5 => exact .base (.ins (e _ _ h fun ps z => nomatch z) c1 c2 c3 c4 c5)
  | byt b => exact .byt b
  | set h => exact .set (e _ _ h fun ps z => nomatch z)
  | kList h c => exact .kList h c
  | kTuple h c => exact .kTuple h c
  | kDict h c => exact .kDict h c
  | fTuple h => exact .fTuple (e _ _ h fun ps z => nomatch z)
  | fDict h => exact .fDict (e _ _ h fun ps z => nomatch z)
/-- an item of a row: an integer, or of another kind -/
def ItOk (K : PySem.W.Frag) (H : Hp) (v : V) : Prop := (∃ i, v = .int i) ∨ ((∀ i, v ≠ .int i) ∧ ∃ n, TyX K H v (.type n) ∧ n ∈ ["NoneType", "bool", "str", "dict", "list", "tuple"])
theorem ItOk.extN {K : PySem.W.Frag} {H H' : Hp} {v : V} (h : ItOk K H v) (e : ExtN H H') : ItOk K H' v := h.imp id fun ⟨a, n, b, c⟩ => ⟨a, n, tyX_x b e, c⟩
def isIn (lo hi : Int) : V → Bool
  | .int i => decide (lo ≤ i) && decide (i ≤ hi)
  | _ => false
theorem isIn_not {lo hi : Int} {v : V} (h : ∀ i, v ≠ .int i) : isIn lo hi v = false := by
  cases v with
  | int i => exact absurd rfl (h i)
  | _ => rfl
def isI : V → Bool
  | .int _ => true
  | _ => false
theorem isI_not {v : V} (h : ∀ i, v ≠ .int i) : isI v = false := by
  cases v with
  | int i => exact absurd rfl (h i)
  | _ => rfl
def plainI (n : Int) : Bool := decide (32 ≤ n) && decide (n ≤ 126) && !decide (n = 37)
def spIsi (K : PySem.W.Frag) : Sp := fun vs H Q _ => ∃ v, vs = [v] ∧ ItOk K H v ∧ Q (.bl (isI v)) H
def spBtw (K : PySem.W.Frag) : Sp := fun vs H Q _ => ∃ (v : V) (lo hi : Int), vs = [v, .int lo, .int hi] ∧ ItOk K H v ∧ Q (.bl (isIn lo hi v)) H
/-- what is handed in: a number, a list or tuple, something else -/
inductive Arg where
  | num (n : Int)
  | row (xs : List V)
  | oth
def ArgAt (K : PySem.W.Frag) (H : Hp) (v : V) : Arg → Prop
  | .num n => v = .int n
  | .row xs => ∃ p, v = .ref p ∧ SqB K H p xs ∧ xs.length ≤ 100000 ∧ ∀ x ∈ xs, ItOk K H x
  | .oth => (∀ i, v ≠ .int i) ∧ ∃ n, TyX K H v (.type n) ∧ n ∈ ["NoneType", "bool", "str", "dict"]
theorem ArgAt.extN {K : PySem.W.Frag} {H H' : Hp} {v : V} : ∀ {g : Arg}, ArgAt K H v g → ExtN H H' → ArgAt K H' v g
  | .num _, h, _ => h
  | .row _, ⟨p, a, b, c, d⟩, e => ⟨p, a, sqB_x b e, c, fun x hx => (d x hx).extN e⟩
  | .oth, ⟨a, n, b, c⟩, e => ⟨a, n, tyX_x b e, c⟩
theorem ArgAt.it {K : PySem.W.Frag} {H : Hp} {v : V} : ∀ {g : Arg}, ArgAt K H v g → ItOk K H v
  | .num n, h => .inl ⟨n, h⟩
  | .row _, ⟨p, a, b, c, d⟩ => by
    subst a
    refine .inr ⟨fun i z => (nomatch z), ?_⟩
    rcases b with b | b
    · exact ⟨_, sqL_ty b, by simp⟩
    · exact ⟨_, sqT_ty b, by simp⟩
  | .oth, ⟨a, n, b, c⟩ => .inr ⟨a, n, b, by
    simp only [List.mem_cons, List.not_mem_nil, or_false] at c
    rcases c with rfl | rfl | rfl | rfl <;> simp⟩
def Arg.btw (lo hi : Int) : Arg → Bool
  | .row xs => xs.all (isIn lo hi)
  | _ => false
theorem kLT {K : PySem.W.Frag} {n : String} {b1 b2 : Bool} (h1 : kitB n "list" = some b1) (h2 : kitB n "tuple" = some b2) : PySem.W.kitAny K (.type n) [.type "list", .type "tuple"] = some (b1 || b2) := by
  refine kitAny_cons (kit_ty h1) (fun e => ?_) fun e => by rw [e]; rfl
  refine kitAny_cons (kit_ty h2) (fun e2 => ?_) fun e2 => by rw [e2, Bool.or_true]
  rw [e, e2]
  rfl
def spArb (K : PySem.W.Frag) : Sp := fun vs H Q _ => ∃ (v : V) (g : Arg) (lo hi : Int), vs = [v, .int lo, .int hi] ∧ ArgAt K H v g ∧ ∀ H', Same H H' → Q (.bl (g.btw lo hi)) H'
def spArp (K : PySem.W.Frag) : Sp := fun vs H Q _ => ∃ (p : Addr) (ns : List Int), vs = [.ref p] ∧ SqB K H p (ns.map V.int) ∧ ns.length ≤ 100000 ∧ ∀ H', Same H H' → Q (.bl (ns.all plainI)) H'
section
variable {P : Program} {w : World} {K : PySem.W.Frag} {mg : Str → Option Value} {base : Heap} {a : Ad}
theorem scIsi : FnScope ["thing"] ["thing"] (defScope sIsi) := ⟨rfl, rfl, rfl, by decide +kernel, rfl, by decide +kernel, by decide +kernel⟩
theorem ok_isi (D : Df K a) (T : Txt K mg a) : FnOk P w K mg base CX0 1 a.fIsi D.dIsi ["thing"] (spIsi K) := by
  refine D.FIsi.ok scIsi (fun vs H Q E h => ?_) (fun cdv A outer s H vs Q E hr h => ?_)
  · obtain ⟨v, rfl, _⟩ := h
    rfl
  · obtain ⟨v, rfl, h, k⟩ := h
    refine ⟨_, (pss_one (ps_ret (pe_and (pe_callB call_isi (by rfl) T.bisinstance (by decide +kernel) (pa_cons (pv 0) (pa_cons (pe_bltn (v := .ty "int") rfl T.bint (by decide +kernel) rfl) pa_nil))) (pe_one (pe_not (pe_callB call_isi (by rfl) T.bisinstance (by decide +kernel) (pa_cons (pv 0) (pa_cons (pe_bltn (v := .ty "bool") rfl T.bbool (by decide +kernel) rfl) pa_nil)))))))), ?_⟩
    rcases h with ⟨i, rfl⟩ | ⟨hn, n, ty, hm⟩
    · refine ⟨_, rfl, .int i, .ty "int", _, _, true, rfl, .ty _, .base (.int i), kit_ty (by decide +kernel), true, rfl, iteT ?_⟩
      exact ⟨_, rfl, .int i, .ty "bool", _, _, false, rfl, .ty _, .base (.int i), kit_ty (by decide +kernel), false, rfl, k⟩
    · rw [isI_not hn] at k
      simp only [List.mem_cons, List.not_mem_nil, or_false] at hm
      rcases hm with rfl | rfl | rfl | rfl | rfl | rfl
      · exact ⟨_, rfl, v, .ty "int", _, _, false, rfl, .ty _, ty, kit_ty (by decide +kernel), false, rfl, iteF k⟩
      · refine ⟨_, rfl, v, .ty "int", _, _, true, rfl, .ty _, ty, kit_ty (by decide +kernel), true, rfl, iteT ?_⟩
        exact ⟨_, rfl, v, .ty "bool", _, _, true, rfl, .ty _, ty, kit_ty (by decide +kernel), true, rfl, k⟩
      · exact ⟨_, rfl, v, .ty "int", _, _, false, rfl, .ty _, ty, kit_ty (by decide +kernel), false, rfl, iteF k⟩
      · exact ⟨_, rfl, v, .ty "int", _, _, false, rfl, .ty _, ty, kit_ty (by decide +kernel), false, rfl, iteF k⟩
      · exact ⟨_, rfl, v, .ty "int", _, _, false, rfl, .ty _, ty, kit_ty (by decide +kernel), false, rfl, iteF k⟩
      · exact ⟨_, rfl, v, .ty "int", _, _, false, rfl, .ty _, ty, kit_ty (by decide +kernel), false, rfl, iteF k⟩
theorem scIsb : FnScope ["thing", "least", "most"] ["thing", "least", "most"] (defScope sIsb) := ⟨rfl, rfl, rfl, by decide +kernel, rfl, by decide +kernel, by decide +kernel⟩
theorem ok_isb (D : Df K a) (T : Txt K mg a) : FnOk P w K mg base CX0 2 a.fIsb D.dIsb ["thing", "least", "most"] (spBtw K) := by
  have GIsi : FnOk P w K mg base CX0 1 a.fIsi D.dIsi ["thing"] (spIsi K) := ok_isi D T
  refine D.FIsb.ok scIsb (fun vs H Q E h => ?_) (fun cdv A outer s H vs Q E hr h => ?_)
  · obtain ⟨v, lo, hi, rfl, _⟩ := h
    rfl
  · obtain ⟨v, lo, hi, rfl, h, k⟩ := h
    refine ⟨_, (pss_one (ps_ret (pe_and (pe_call GIsi hr rfl T.gIsi D.FIsi.kp D.bIsi .nil pass0 (pa_cons (pv 0) pa_nil)) (pe_one (pe_chain op_le op_le (pv 1) (pv 0) (pv 2)))))), ?_⟩
    refine ⟨_, rfl, v, rfl, h, _, rfl, ?_⟩
    rcases h with ⟨i, rfl⟩ | ⟨hn, _⟩
    · refine iteT ⟨_, rfl, _, rfl, _, _, rfl, rfl, _, rfl, ?_⟩
      have k : Q (.bl (decide (lo ≤ i) && decide (i ≤ hi))) H := k
      by_cases c1 : lo ≤ i
      · rw [decide_eq_true c1]
        rw [decide_eq_true c1, Bool.true_and] at k
        exact iteT ⟨_, rfl, _, _, rfl, rfl, k⟩
      · rw [decide_eq_false c1]
        rw [decide_eq_false c1, Bool.false_and] at k
        exact iteF k
    · rw [isI_not hn]
      rw [isIn_not hn] at k
      exact iteF k
theorem scArb : FnScope ["things", "least", "most", "one"] ["things", "least", "most"] (defScope sArb) := ⟨rfl, rfl, rfl, by decide +kernel, rfl, by decide +kernel, by decide +kernel⟩
theorem ok_arb (D : Df K a) (T : Txt K mg a) : FnOk P w K mg base CX0 3 a.fArb D.dArb ["things", "least", "most"] (spArb K) := by
  have GIsb : FnOk P w K mg base CX0 2 a.fIsb D.dIsb ["thing", "least", "most"] (spBtw K) := ok_isb D T
  refine D.FArb.ok scArb (fun vs H Q E h => ?_) (fun cdv A outer s H vs Q E hr h => ?_)
  · obtain ⟨v, g, lo, hi, rfl, _⟩ := h
    rfl
  · obtain ⟨v, g, lo, hi, rfl, h, k⟩ := h
    refine ⟨_, (pss_one (ps_ret (pe_and (pe_callB call_isiT (by rfl) T.bisinstance (by decide +kernel) (pa_cons (pv 0) (pa_cons (pe_tup (pa_cons (pe_bltn (v := .ty "list") rfl T.blist (by decide +kernel) rfl) (pa_cons (pe_bltn (v := .ty "tuple") rfl T.btuple (by decide +kernel) rfl) pa_nil))) pa_nil))) (pe_one (pe_callB (cr_all rfl) (by rfl) T.ball (by decide +kernel) (pa_cons (pe_lc (te := tCall (spBtw K) [] E0 (tCons (tVar 3) (tCons (tVar 1) (tCons (tVar 2) tNil)))) (own := [("one", 3)]) (g := (gName 3)) (tt := tYes) rfl scArb.nd (pi_or (pi_list (pv 0)) (pi_tup (pv 0))) (blkOk_by (N := ["things", "least", "most", "one"]) (sc := defScope sArb) (by decide +kernel)) (fun _ _ _ _ _ => (pg_name (i := 3) scArb.nd rfl (.inl rfl))) (fun _ _ _ _ _ => pts_nil) (fun _ _ _ _ _ => (pe_call GIsb hr rfl T.gIsb D.FIsb.kp D.bIsb .nil pass0 (pa_cons (pv 3) (pa_cons (pv 1) (pa_cons (pv 2) pa_nil)))))) pa_nil)))))), ?_⟩
    obtain ⟨n, b1, b2, ty, e1, e2, cs⟩ : ∃ (n : String) (b1 b2 : Bool), TyX K H v (.type n) ∧ kitB n "list" = some b1 ∧ kitB n "tuple" = some b2 ∧ (((b1 || b2) = false ∧ g.btw lo hi = false) ∨ ((b1 || b2) = true ∧ ∃ p xs, g = .row xs ∧ v = .ref p ∧ SqB K H p xs ∧ xs.length ≤ 100000 ∧ ∀ x ∈ xs, ItOk K H x)) := by
      cases g with
      | num n =>
        cases (show v = .int n from h)
        exact ⟨"int", false, false, .base (.int n), by decide +kernel, by decide +kernel, .inl ⟨rfl, rfl⟩⟩
      | row xs =>
        obtain ⟨p, rfl, hS, hl, hi⟩ := h
        rcases hS with hS | hS
        · exact ⟨"list", true, false, sqL_ty hS, by decide +kernel, by decide +kernel, .inr ⟨rfl, p, xs, rfl, rfl, .inl hS, hl, hi⟩⟩
        · exact ⟨"tuple", false, true, sqT_ty hS, by decide +kernel, by decide +kernel, .inr ⟨rfl, p, xs, rfl, rfl, .inr hS, hl, hi⟩⟩
      | oth =>
        obtain ⟨_, n, ty, hm⟩ := h
        simp only [List.mem_cons, List.not_mem_nil, or_false] at hm
        rcases hm with rfl | rfl | rfl | rfl
        · exact ⟨_, false, false, ty, by decide +kernel, by decide +kernel, .inl ⟨rfl, rfl⟩⟩
        · exact ⟨_, false, false, ty, by decide +kernel, by decide +kernel, .inl ⟨rfl, rfl⟩⟩
        · exact ⟨_, false, false, ty, by decide +kernel, by decide +kernel, .inl ⟨rfl, rfl⟩⟩
        · exact ⟨_, false, false, ty, by decide +kernel, by decide +kernel, .inl ⟨rfl, rfl⟩⟩
    refine ⟨_, rfl, by show 2 ≤ sizeLine; decide, fun t ht => ?_⟩
    have s1 := same_new (o := .tup [V.ty "list", V.ty "tuple"]) (Same.refl H) ht
    have et : (upd H t (.tup [V.ty "list", V.ty "tuple"])) t = some (.tup [V.ty "list", V.ty "tuple"]) := upd_same
    generalize upd H t (.tup [V.ty "list", V.ty "tuple"]) = H1 at s1 et ⊢
    refine ⟨v, t, _, _, _, b1 || b2, rfl, et, .cons (.ty _) (.cons (.ty _) .nil), tyX_x ty (.of s1), kLT e1 e2, _, rfl, ?_⟩
    rcases cs with ⟨e, eg⟩ | ⟨e, p, xs, rfl, rfl, hS, hl, hit⟩
    · rw [e]
      rw [eg] at k
      exact iteF (k H1 s1)
    rw [e]
    have step : ∀ (DL : Addr), H1 DL = none → ∀ (i : Nat) (y : V) (H2 : Hp), i < xs.length → (H2 DL = some (.lst (((xs.take i).map (isIn lo hi)).map V.bl)) ∧ Same H1 H2) → xs[i]? = some y → (tCall (spBtw K) [] E0 (tCons (tVar 3) (tCons (tVar 1) (tCons (tVar 2) tNil)))) [some (.ref p), some (.int lo), some (.int hi), some y] H2 (fun y H4 => ∃ acc, H4 DL = some (.lst acc) ∧ acc.length < sizeLine ∧ (upd H4 DL (.lst (acc ++ [y]))) DL = some (.lst (((xs.take (i + 1)).map (isIn lo hi)).map V.bl)) ∧ Same H1 (upd H4 DL (.lst (acc ++ [y])))) := by
      intro DL hDL i y H2 hi2 ⟨e1, s2⟩ hy
      refine ⟨_, rfl, _, rfl, _, rfl, y, lo, hi, rfl, (hit y (List.mem_of_getElem? hy)).extN (.of (s1.trans s2)), _, e1, ?_, ?_, fun b o e => ?_⟩
      · rw [List.length_map, List.length_map, List.length_take]
        exact Nat.lt_of_le_of_lt (by omega : _ ≤ 100000) (by decide)
      · rw [upd_same, List.take_add_one, hy, List.map_append, List.map_append]
        rfl
      · rw [upd_ne (ne_of_none e hDL)]
        exact s2 _ _ e
    have last : ∀ (DL : Addr) (H2 : Hp), (H2 DL = some (.lst (((xs.take xs.length).map (isIn lo hi)).map V.bl)) ∧ Same H1 H2) → ∃ (q : Addr) (bs : List Bool), [V.ref DL] = [V.ref q] ∧ SqL K H2 q (bs.map V.bl) ∧ Q (.bl (bs.all id)) H2 := by
      intro DL H2 ⟨e1, s2⟩
      rw [List.take_length] at e1
      refine ⟨DL, _, rfl, .inl (.inl e1), ?_⟩
      rw [List.all_map]
      exact k H2 (s1.trans s2)
    refine iteT ?_
    rcases hS with hS | hS
    · refine .inl ⟨_, rfl, p, rfl, ⟨_, s1.seq hS⟩, fun DL hDL => lc_it (walk_list (K := K) (a := p) (xs := xs)) (fun i H' => H' DL = some (.lst (((xs.take i).map (isIn lo hi)).map V.bl)) ∧ Same H1 H') ⟨by rw [List.take_zero]; exact upd_same, same_new (Same.refl H1) hDL⟩ (fun _ _ _ q => Same.seq (s1.trans q.2) hS) ?_ ?_⟩
      · rintro i y H1' H2 hi2 q ⟨rfl, hy⟩
        exact ⟨rfl, step DL hDL i y H2 hi2 q hy⟩
      · rintro H2 q
        exact last DL H2 q
    · refine .inr ⟨_, rfl, p, rfl, ⟨_, Same.tup s1 hS⟩, fun DL hDL => lc_it (walk_tup (K := K) (a := p) (xs := xs)) (fun i H' => H' DL = some (.lst (((xs.take i).map (isIn lo hi)).map V.bl)) ∧ Same H1 H') ⟨by rw [List.take_zero]; exact upd_same, same_new (Same.refl H1) hDL⟩ (fun _ _ _ q => Same.tup (s1.trans q.2) hS) ?_ ?_⟩
      · rintro i y H1' H2 hi2 q ⟨rfl, hy⟩
        exact ⟨rfl, step DL hDL i y H2 hi2 q hy⟩
      · rintro H2 q
        exact last DL H2 q
theorem scArp : FnScope ["units", "unit"] ["units"] (defScope sArp) := ⟨rfl, rfl, rfl, by decide +kernel, rfl, by decide +kernel, by decide +kernel⟩
theorem ok_arp (D : Df K a) (T : Txt K mg a) : FnOk P w K mg base CX0 1 a.fArp D.dArp ["units"] (spArp K) := by
  refine D.FArp.ok scArp (fun vs H Q E h => ?_) (fun cdv A outer s H vs Q E hr h => ?_)
  · obtain ⟨p, ns, rfl, _⟩ := h
    rfl
  · obtain ⟨p, ns, rfl, hS, hl, k⟩ := h
    refine ⟨_, (pss_one (ps_ret (pe_callB (cr_all rfl) (by rfl) T.ball (by decide +kernel) (pa_cons (pe_lc (own := [("unit", 1)]) (g := (gName 1)) (tt := tYes) rfl scArp.nd (pi_or (pi_list (pv 0)) (pi_tup (pv 0))) (blkOk_by (N := ["units", "unit"]) (sc := defScope sArp) (by decide +kernel)) (fun _ _ _ _ _ => (pg_name (i := 1) scArp.nd rfl (.inl rfl))) (fun _ _ _ _ _ => pts_nil) (fun _ _ _ _ _ => (pe_and (pe_chain op_le op_le pe_int (pv 1) pe_int) (pe_one (pe_cmpR op_ne (pv 1) pe_int (nomark _)))))) pa_nil)))), ?_⟩
    have step : ∀ (DL : Addr), H DL = none → ∀ (i : Nat) (y : V) (H1 : Hp), i < (ns.map V.int).length → (H1 DL = some (.lst (((ns.take i).map plainI).map V.bl)) ∧ Same H H1) → (ns.map V.int)[i]? = some y → ∃ n, y = .int n ∧ ∃ acc, H1 DL = some (.lst acc) ∧ acc.length < sizeLine ∧ (upd H1 DL (.lst (acc ++ [.bl (plainI n)]))) DL = some (.lst (((ns.take (i + 1)).map plainI).map V.bl)) ∧ Same H (upd H1 DL (.lst (acc ++ [.bl (plainI n)]))) := by
      intro DL hDL i y H1 hi ⟨e1, s1⟩ hy
      rw [List.getElem?_map] at hy
      obtain ⟨n, hn, rfl⟩ := Option.map_eq_some_iff.mp hy
      refine ⟨n, rfl, _, e1, ?_, ?_, fun b o e => ?_⟩
      · rw [List.length_map, List.length_map, List.length_take]
        exact Nat.lt_of_le_of_lt (by omega : _ ≤ 100000) (by decide)
      · rw [upd_same, List.take_add_one, hn, List.map_append, List.map_append]
        rfl
      · rw [upd_ne (ne_of_none e hDL)]
        exact s1 _ _ e
    have last : ∀ (DL : Addr) (H1 : Hp), (H1 DL = some (.lst (((ns.take (ns.map V.int).length).map plainI).map V.bl)) ∧ Same H H1) → ∃ (q : Addr) (bs : List Bool), [V.ref DL] = [V.ref q] ∧ SqL K H1 q (bs.map V.bl) ∧ Q (.bl (bs.all id)) H1 := by
      intro DL H1 ⟨e1, s1⟩
      rw [List.length_map, List.take_length] at e1
      refine ⟨DL, _, rfl, .inl (.inl e1), ?_⟩
      rw [List.all_map]
      exact k H1 s1
    rcases hS with hS | hS
    · refine .inl ⟨_, rfl, p, rfl, ⟨_, hS⟩, fun DL hDL => lc_it (walk_list (K := K) (a := p) (xs := ns.map V.int)) (fun i H' => H' DL = some (.lst (((ns.take i).map plainI).map V.bl)) ∧ Same H H') ⟨by rw [List.take_zero]; exact upd_same, same_new (Same.refl H) hDL⟩ (fun _ _ _ q => Same.seq q.2 hS) ?_ ?_⟩
      · rintro i y H1' H1 hi q ⟨rfl, hy⟩
        obtain ⟨n, rfl, fin⟩ := step DL hDL i y H1 hi q hy
        have eU : plainI n = (decide (32 ≤ n) && decide (n ≤ 126) && !decide (n = 37)) := rfl
        refine ⟨rfl, ⟨_, rfl, _, _, rfl, rfl, _, rfl, ?_⟩⟩
        by_cases c1 : 32 ≤ n
        · rw [decide_eq_true c1]
          refine iteT ⟨_, _, rfl, rfl, _, rfl, ?_⟩
          by_cases c2 : n ≤ 126
          · rw [decide_eq_true c2]
            refine iteT ⟨_, rfl, rfl, ?_⟩
            have e3 : (!decide (V.int n = V.int 37)) = plainI n := by
              rw [eU, decide_eq_true c1, decide_eq_true c2]
              simp only [Bool.true_and]
              rw [show decide (V.int n = V.int 37) = decide (n = 37) from decide_eq_decide.mpr ⟨fun h => V.int.inj h, fun h => by rw [h]⟩]
            rw [e3]
            exact fin
          · rw [decide_eq_false c2]
            refine iteF ?_
            have e3 : false = plainI n := by
              rw [eU, decide_eq_false c2, Bool.and_false, Bool.false_and]
            rw [e3]
            exact fin
        · rw [decide_eq_false c1]
          refine iteF ⟨_, rfl, iteF ?_⟩
          have e3 : false = plainI n := by
            rw [eU, decide_eq_false c1, Bool.false_and, Bool.false_and]
          rw [e3]
          exact fin
      · rintro H1 q
        exact last DL H1 q
    · refine .inr ⟨_, rfl, p, rfl, ⟨_, hS⟩, fun DL hDL => lc_it (walk_tup (K := K) (a := p) (xs := ns.map V.int)) (fun i H' => H' DL = some (.lst (((ns.take i).map plainI).map V.bl)) ∧ Same H H') ⟨by rw [List.take_zero]; exact upd_same, same_new (Same.refl H) hDL⟩ (fun _ _ _ q => Same.tup q.2 hS) ?_ ?_⟩
      · rintro i y H1' H1 hi q ⟨rfl, hy⟩
        obtain ⟨n, rfl, fin⟩ := step DL hDL i y H1 hi q hy
        have eU : plainI n = (decide (32 ≤ n) && decide (n ≤ 126) && !decide (n = 37)) := rfl
        refine ⟨rfl, ⟨_, rfl, _, _, rfl, rfl, _, rfl, ?_⟩⟩
        by_cases c1 : 32 ≤ n
        · rw [decide_eq_true c1]
          refine iteT ⟨_, _, rfl, rfl, _, rfl, ?_⟩
          by_cases c2 : n ≤ 126
          · rw [decide_eq_true c2]
            refine iteT ⟨_, rfl, rfl, ?_⟩
            have e3 : (!decide (V.int n = V.int 37)) = plainI n := by
              rw [eU, decide_eq_true c1, decide_eq_true c2]
              simp only [Bool.true_and]
              rw [show decide (V.int n = V.int 37) = decide (n = 37) from decide_eq_decide.mpr ⟨fun h => V.int.inj h, fun h => by rw [h]⟩]
            rw [e3]
            exact fin
          · rw [decide_eq_false c2]
            refine iteF ?_
            have e3 : false = plainI n := by
              rw [eU, decide_eq_false c2, Bool.and_false, Bool.false_and]
            rw [e3]
            exact fin
        · rw [decide_eq_false c1]
          refine iteF ⟨_, rfl, iteF ?_⟩
          have e3 : false = plainI n := by
            rw [eU, decide_eq_false c1, Bool.false_and, Bool.false_and]
          rw [e3]
          exact fin
      · rintro H1 q
        exact last DL H1 q
end
end G58.V

set_option Elab.async false
set_option linter.all false
set_option pp.maxSteps 2500
set_option maxRecDepth 100000
set_option maxHeartbeats 4000000
/-! k01: the constructors, facts, ==. -/
namespace G58.V
open PySem PySem.Spec PyProof.Rows L2 LamX
/-- the five classes -/
inductive Wy where
  | w | d | u | r | t
def Wy.cls (a : Ad) : Wy → Addr
  | .w => a.cWide
  | .d => a.cData
  | .u => a.cUid
  | .r => a.cReal
  | .t => a.cDate
def Wy.fld : Wy → Str
  | .w => "units"
  | .u => "number"
  | _ => "octets"
def Wy.num : Wy → Nat
  | .w => 0
  | .d => 1
  | .u => 2
  | .r => 3
  | .t => 4
def plainV : V → Bool
  | .int n => plainI n
  | _ => false
def Arg.good : Wy → Arg → Bool
  | .w, .row xs => xs.all (isIn 0 65535) && !xs.all plainV
  | .d, .row xs => xs.all (isIn 0 255)
  | .u, .num n => decide (0 ≤ n) && decide (n ≤ 18446744073709551615)
  | .r, .row xs => xs.all (isIn 0 255) && (decide (xs.length = 4) || decide (xs.length = 8))
  | .t, .row xs => xs.all (isIn 0 255) && decide (xs.length = 8)
  | _, _ => false
def FldAt (K : PySem.W.Frag) (H : Hp) (v : V) : Arg → Prop
  | .num n => v = .int n
  | .row xs => ∃ t, v = .ref t ∧ SqT K H t xs
  | .oth => False
theorem FldAt.extN {K : PySem.W.Frag} {H H' : Hp} {v : V} : ∀ {g : Arg}, FldAt K H v g → ExtN H H' → FldAt K H' v g
  | .num _, h, _ => h
  | .row _, ⟨p, a, b⟩, e => ⟨p, a, sqT_x b e⟩
  | .oth, h, _ => h
/-- a thing in memory -/
def ThAt (K : PySem.W.Frag) (a : Ad) (H : Hp) (p : Addr) (y : Wy) (g : Arg) : Prop := ∃ dx v, H p = some (.ins (y.cls a) dx [(y.fld, v)]) ∧ FldAt K H v g
theorem ThAt.extN {K : PySem.W.Frag} {a : Ad} {H H' : Hp} {p : Addr} {y : Wy} {g : Arg} (h : ThAt K a H p y g) (e : ExtN H H') : ThAt K a H' p y g := by
  obtain ⟨dx, v, h1, h2⟩ := h
  exact ⟨dx, v, e _ _ h1 (fun ps z => nomatch z), h2.extN e⟩
def pthF (t : Addr) : List (Str × V) := [("path", .ref t)]
def OutW (K : PySem.W.Frag) (a : Ad) (H : Hp) (ps : List V) (E : XK) : Prop := ∀ d t H', Same H H' → H' d = some (.xd (pthF t)) → SqT K H' t ps → E (.ref a.cNoValue) (some d) H'
theorem OutW.same {K : PySem.W.Frag} {a : Ad} {H H1 : Hp} {ps : List V} {E : XK} (h : OutW K a H ps E) (s : Same H H1) : OutW K a H1 ps E := fun d t H' s2 e1 e2 => h d t H' (s.trans s2) e1 e2
abbrev OutV (K : PySem.W.Frag) (a : Ad) (H : Hp) (E : XK) : Prop := OutW K a H [] E
theorem OutV.same {K : PySem.W.Frag} {a : Ad} {H H1 : Hp} {E : XK} (h : OutV K a H E) (s : Same H H1) : OutV K a H1 E := OutW.same h s
def spEV (K : PySem.W.Frag) (C : Addr) : Sp := fun vs H Q _ => ∃ (x t : Addr) (ps : List V), vs = [.ref x, .ref t] ∧ SqT K H t ps ∧ H x = some (exo x C none) ∧ ∀ t' H', Same H H' → SqT K H' t' ps → ∀ dx, H' dx = none → dx ≠ x → Q .non (upd (upd H' dx (exd dx (pthF t'))) x (exo x C (some dx)))
def spRef (K : PySem.W.Frag) (a : Ad) : Sp := fun vs H Q E => ∃ b : Bool, vs = [.bl b] ∧ (b = true → Q .non H) ∧ (b = false → OutV K a H E)
/-- all is kept but what is at x -/
def ButX (x : Addr) (H H' : Hp) : Prop := ∀ b o, H b = some o → b ≠ x → H' b = some o
def spInit (K : PySem.W.Frag) (a : Ad) (y : Wy) : Sp := fun vs H Q E => ∃ (x dx : Addr) (v : V) (g : Arg), vs = [.ref x, v] ∧ H x = some (.ins (y.cls a) dx []) ∧ ArgAt K H v g ∧ (g.good y = true → ∀ H' v', ButX x H H' → H' x = some (.ins (y.cls a) dx [(y.fld, v')]) → FldAt K H' v' g → Q .non H') ∧ (g.good y = false → OutV K a H E)
theorem sqT_upd {K : PySem.W.Frag} {H : Hp} {t x : Addr} {xs : List V} {C dx : Addr} {fs : List (Str × V)} {o : HO} (h : SqT K H t xs) (hx : H x = some (.ins C dx fs)) : SqT K (upd H x o) t xs := by
  rcases h with (h | ⟨ob, h⟩) | h
  · have n : t ≠ x := fun z => by
      rw [z, hx] at h
      cases h
    exact .inl (.inl (by rw [upd_ne n]; exact h))
  · have n : t ≠ x := fun z => by
      rw [z, hx] at h
      cases h
    exact .inl (.inr ⟨ob, by rw [upd_ne n]; exact h⟩)
  · exact .inr h
theorem fin_row {K : PySem.W.Frag} {H H2 : Hp} {x t C dx : Addr} {f : Str} {xs : List V} {R : Hp → Prop} (s : Same H H2) (hx : H x = some (.ins C dx [])) (ht : SqT K H2 t xs)
    (k : ∀ H' v', ButX x H H' → H' x = some (.ins C dx [(f, v')]) → FldAt K H' v' (.row xs) → R H') : R (upd H2 x (.ins C dx [(f, .ref t)])) :=
  k _ (.ref t) (fun b o e n => by
    rw [upd_ne n]
    exact s _ _ e) upd_same ⟨t, rfl, sqT_upd ht (s _ _ hx)⟩
theorem ints_of {lo hi : Int} : ∀ {xs : List V}, xs.all (isIn lo hi) = true → ∃ ns : List Int, xs = ns.map V.int ∧ ∀ n ∈ ns, lo ≤ n ∧ n ≤ hi
  | [], _ => ⟨[], rfl, fun _ z => nomatch z⟩
  | x :: xs, h => by
    rw [List.all_cons, Bool.and_eq_true] at h
    obtain ⟨ns, e, hn⟩ := ints_of h.2
    cases x with
    | int n =>
      have h1 : (decide (lo ≤ n) && decide (n ≤ hi)) = true := h.1
      rw [Bool.and_eq_true, decide_eq_true_eq, decide_eq_true_eq] at h1
      exact ⟨n :: ns, by rw [e]; rfl, fun m hm => by
        rcases List.mem_cons.mp hm with rfl | hm
        · exact h1
        · exact hn m hm⟩
    | _ => exact absurd h.1 Bool.false_ne_true
theorem plain_ints (ns : List Int) : (ns.map V.int).all plainV = ns.all plainI := by
  rw [List.all_map]
  rfl
theorem btw_row {g : Arg} {lo hi : Int} (h : g.btw lo hi = true) : ∃ xs, g = .row xs ∧ xs.all (isIn lo hi) = true := by
  cases g with
  | row xs => exact ⟨xs, rfl, h⟩
  | num n => exact absurd h Bool.false_ne_true
  | oth => exact absurd h Bool.false_ne_true
theorem in48 (n : Nat) : inV (.int (n : Nat)) [.int 4, .int 8] = (decide (n = 4) || decide (n = 8)) := by
  have e : ∀ a b : Int, eqV (.int a) (.int b) = decide (a = b) := fun a b => rfl
  have h : inV (.int (n : Nat)) [.int 4, .int 8] = (eqV (.int 4) (.int (n : Nat)) || (eqV (.int 8) (.int (n : Nat)) || false)) := rfl
  rw [h, e, e, Bool.or_false]
  exact congr (congrArg or (decide_eq_decide.mpr ⟨fun h => by omega, fun h => by omega⟩)) (decide_eq_decide.mpr ⟨fun h => by omega, fun h => by omega⟩)
theorem good_d (g : Arg) : g.good .d = g.btw 0 255 := by
  cases g <;> rfl
section
variable {P : Program} {w : World} {K : PySem.W.Frag} {mg : Str → Option Value} {base : Heap} {a : Ad}
theorem sciV : FnScope ["self", "path"] ["self", "path"] (defScope siV) := ⟨rfl, rfl, rfl, by decide +kernel, rfl, by decide +kernel, by decide +kernel⟩
theorem ok_iV (D : Df K a) (T : Txt K mg a) : FnOk P w K mg base CX0 1 a.fiV D.diV ["self", "path"] (spEV K a.cNoValue) := by
  refine D.FiV.ok sciV (fun vs H Q E h => ?_) (fun cdv A outer s H vs Q E hr h => ?_)
  · obtain ⟨x, t, ps, rfl, _⟩ := h
    rfl
  · obtain ⟨x, t, ps, rfl, ht, hx, k⟩ := h
    refine ⟨_, pss_one (ps_ost (pv 0) (pe_ifExp (pt_val (pe_callB call_isiT (by rfl) T.bisinstance (by decide +kernel) (pa_cons (pv 1) (pa_cons (pe_tup (pa_cons (pe_bltn (v := .ty "list") rfl T.blist (by decide +kernel) rfl) (pa_cons (pe_bltn (v := .ty "tuple") rfl T.btuple (by decide +kernel) rfl) pa_nil))) pa_nil)))) (pe_callTy call_tupB (by rfl) T.btuple (by decide +kernel) (pa_cons (pv 1) pa_nil)) (pv 1))), ?_⟩
    refine ⟨_, rfl, by show 2 ≤ sizeLine; decide, fun q hq => ?_⟩
    have s1 := same_new (o := .tup [V.ty "list", V.ty "tuple"]) (Same.refl H) hq
    have et : (upd H q (.tup [V.ty "list", V.ty "tuple"])) q = some (.tup [V.ty "list", V.ty "tuple"]) := upd_same
    generalize upd H q (.tup [V.ty "list", V.ty "tuple"]) = H1 at s1 et ⊢
    refine ⟨.ref t, q, _, _, _, true, rfl, et, .cons (.ty _) (.cons (.ty _) .nil), tyX_x (sqT_ty ht) (.of s1), kLT (by decide +kernel : kitB "tuple" "list" = some false) (by decide +kernel), _, rfl, iteT ?_⟩
    refine ⟨_, rfl, t, ps, rfl, .inr (Same.tup s1 ht), fun t' H' s2 h2 => ?_⟩
    exact ⟨_, rfl, x, a.cNoValue, rfl, T.xNoValue.ox, T.noNoValue_path, .inl ⟨s2 _ _ (s1 _ _ hx), fun dx h3 h4 => k t' H' (s1.trans s2) h2 dx h3 h4⟩⟩
theorem mk_readV {C : Addr} {t : Addr} {ps : List V} {H1 : Hp} {Qx : XK} (ht : SqT K H1 t ps) (h : ∀ d t' H', Same H1 H' → H' d = some (.xd (pthF t')) → SqT K H' t' ps → Qx (.ref C) (some d) H') (x : Addr) (hx : H1 x = none) :
    spEV K C (.ref x :: ([.ref t] ++ [])) (upd H1 x (exo x C none)) (fun u H2 => u = .non ∧ ∃ (d : Addr) (fs : List (Str × V)), H2 x = some (exo x C (some d)) ∧ H2 d = some (exd d fs) ∧ H1 d = none ∧ Qx (.ref C) (some d) (upd (del H2 x) d (.xd fs))) (fun _ _ _ => False) := by
  have s0 := same_new (o := exo x C none) (Same.refl H1) hx
  refine ⟨x, t, ps, rfl, Same.tup s0 ht, upd_same, fun t' H' s1 h2 dx h3 h4 => ?_⟩
  have hd : H1 dx = none := by
    cases e : H1 dx with
    | none => rfl
    | some o =>
      have := s1 _ _ (s0 _ _ e)
      rw [h3] at this
      cases this
  refine ⟨rfl, dx, pthF t', upd_same, by rw [upd_ne h4, upd_same], hd, ?_⟩
  have hxx : H' x = some (exo x C none) := s1 _ _ upd_same
  refine h dx t' _ (fun b o e => ?_) upd_same ?_
  · have n1 : b ≠ dx := ne_of_none e hd
    have n2 : b ≠ x := ne_of_none e hx
    rw [upd_ne n1, del_ne n2, upd_ne n2, upd_ne n1]
    exact s1 _ _ (s0 _ _ e)
  · rcases h2 with (h2 | ⟨o, h2⟩) | h2
    · have n1 : t' ≠ dx := ne_of_none h2 h3
      have n2 : t' ≠ x := fun z => by
        rw [z, hxx] at h2
        cases h2
      refine .inl (.inl ?_)
      rw [upd_ne n1, del_ne n2, upd_ne n2, upd_ne n1]
      exact h2
    · have n1 : t' ≠ dx := ne_of_none h2 h3
      have n2 : t' ≠ x := fun z => by
        rw [z, hxx] at h2
        cases h2
      refine .inl (.inr ⟨o, ?_⟩)
      rw [upd_ne n1, del_ne n2, upd_ne n2, upd_ne n1]
      exact h2
    · exact .inr h2
theorem scRef : FnScope ["is_good"] ["is_good"] (defScope sRef) := ⟨rfl, rfl, rfl, by decide +kernel, rfl, by decide +kernel, by decide +kernel⟩
theorem ok_ref (D : Df K a) (T : Txt K mg a) : FnOk P w K mg base (L2.CX P w) 3 a.fRef D.dRef ["is_good"] (spRef K a) := by
  have GiV : FnOk P w K mg base CX0 1 a.fiV D.diV ["self", "path"] (spEV K a.cNoValue) := ok_iV D T
  refine D.FRef.okX scRef (fun vs H Q E h => ?_) (fun cdv A outer s H vs Q E hr h => ?_)
  · obtain ⟨b, rfl, _⟩ := h
    rfl
  · obtain ⟨b, rfl, k1, k2⟩ := h
    refine ⟨_, (pss_one (ps_if (pt_not (pt_val (pv 0))) (pss_one (ps_raise rfl (takes_of rfl rfl rfl rfl) (pmk_oex T.xNoValue.ox T.xNoValue.ini T.xNoValue.ti GiV hr D.biV .nil pass0 rfl T.gcNoValue (pa_cons (pe_tup pa_nil) pa_nil)))) pss_nil)), ?_⟩
    cases b with
    | true => exact ⟨_, rfl, true, rfl, iteF (k1 rfl)⟩
    | false =>
      refine ⟨_, rfl, false, rfl, iteT ?_⟩
      refine ⟨by show 0 ≤ sizeLine; decide, fun t ht => ⟨by show 1 ≤ 1000; decide, mk_readV (.inl (.inl upd_same)) fun d t' H' s2 e1 e2 => ?_⟩⟩
      exact k2 rfl d t' H' ((same_new (Same.refl H) ht).trans s2) e1 e2
theorem sciD : FnScope ["self", "octets"] ["self", "octets"] (defScope siD) := ⟨rfl, rfl, rfl, by decide +kernel, rfl, by decide +kernel, by decide +kernel⟩
theorem ok_iD (D : Df K a) (T : Txt K mg a) : FnOk P w K mg base (L2.CX P w) 4 a.fiD D.diD ["self", "octets"] (spInit K a .d) := by
  have GArb : FnOk P w K mg base CX0 3 a.fArb D.dArb ["things", "least", "most"] (spArb K) := ok_arb D T
  have GRef : FnOk P w K mg base (L2.CX P w) 3 a.fRef D.dRef ["is_good"] (spRef K a) := ok_ref D T
  refine D.FiD.okX sciD (fun vs H Q E h => ?_) (fun cdv A outer s H vs Q E hr h => ?_)
  · obtain ⟨x, dx, v, g, rfl, _⟩ := h
    rfl
  · obtain ⟨x, dx, v, g, rfl, hx, hv, k1, k2⟩ := h
    refine ⟨_, (pss_cons (ps_expr (pe_call GRef hr rfl T.gRef D.FRef.kp D.bRef .nil (passes_call (takes_of rfl rfl rfl rfl) (fun _ _ _ _ q => q)) (pa_cons (pe_call GArb hr rfl T.gArb D.FArb.kp D.bArb .nil pass0 (pa_cons (pv 1) (pa_cons pe_int (pa_cons pe_int pa_nil)))) pa_nil))) (pss_one (ps_fld (pv 0) (pe_callTy call_tupB (by rfl) T.btuple (by decide +kernel) (pa_cons (pv 1) pa_nil)) rfl))), ?_⟩
    refine ⟨_, rfl, v, g, 0, 255, rfl, hv, fun H1 s1 => ?_⟩
    refine ⟨_, rfl, fun e => ?_, fun e => (k2 ((good_d g).trans e)).same s1⟩
    obtain ⟨xs, rfl, _⟩ := btw_row e
    obtain ⟨p, rfl, hS, hl, hi⟩ := hv
    refine ⟨_, rfl, p, xs, rfl, sqB_x hS (.of s1), fun t H2 s2 ht => ⟨_, rfl, x, a.cData, dx, [], rfl, s2 _ _ (s1 _ _ hx), T.clData, T.nData_octets, by show 0 < 1000; decide, ?_⟩⟩
    exact fin_row (s1.trans s2) hx ht (k1 ((good_d _).trans e))
theorem sciW : FnScope ["self", "units"] ["self", "units"] (defScope siW) := ⟨rfl, rfl, rfl, by decide +kernel, rfl, by decide +kernel, by decide +kernel⟩
theorem ok_iW (D : Df K a) (T : Txt K mg a) : FnOk P w K mg base (L2.CX P w) 4 a.fiW D.diW ["self", "units"] (spInit K a .w) := by
  have GArb : FnOk P w K mg base CX0 3 a.fArb D.dArb ["things", "least", "most"] (spArb K) := ok_arb D T
  have GArp : FnOk P w K mg base CX0 1 a.fArp D.dArp ["units"] (spArp K) := ok_arp D T
  have GRef : FnOk P w K mg base (L2.CX P w) 3 a.fRef D.dRef ["is_good"] (spRef K a) := ok_ref D T
  refine D.FiW.okX sciW (fun vs H Q E h => ?_) (fun cdv A outer s H vs Q E hr h => ?_)
  · obtain ⟨x, dx, v, g, rfl, _⟩ := h
    rfl
  · obtain ⟨x, dx, v, g, rfl, hx, hv, k1, k2⟩ := h
    have hr1 : Room 1 _ := hr.mono (by decide)
    refine ⟨_, (pss_cons (ps_expr (pe_call GRef hr rfl T.gRef D.FRef.kp D.bRef .nil (passes_call (takes_of rfl rfl rfl rfl) (fun _ _ _ _ q => q)) (pa_cons (pe_and (pe_call GArb hr rfl T.gArb D.FArb.kp D.bArb .nil pass0 (pa_cons (pv 1) (pa_cons pe_int (pa_cons pe_int pa_nil)))) (pe_one (pe_not (pe_call GArp hr1 rfl T.gArp D.FArp.kp D.bArp .nil pass0 (pa_cons (pv 1) pa_nil))))) pa_nil))) (pss_one (ps_fld (pv 0) (pe_callTy call_tupB (by rfl) T.btuple (by decide +kernel) (pa_cons (pv 1) pa_nil)) rfl))), ?_⟩
    refine ⟨_, rfl, v, g, 0, 65535, rfl, hv, fun H1 s1 => ⟨_, rfl, ?_⟩⟩
    by_cases c : g.btw 0 65535 = true
    · rw [c]
      refine iteT ?_
      obtain ⟨xs, rfl, hb⟩ := btw_row c
      obtain ⟨p, rfl, hS, hl, hi⟩ := hv
      obtain ⟨ns, rfl, hn⟩ := ints_of hb
      refine ⟨_, rfl, p, ns, rfl, sqB_x hS (.of s1), by rw [List.length_map] at hl; exact hl, fun H2 s2 => ⟨_, rfl, ?_⟩⟩
      have eg : Arg.good .w (.row (ns.map V.int)) = !ns.all plainI := by
        show ((ns.map V.int).all (isIn 0 65535) && !(ns.map V.int).all plainV) = _
        rw [hb, plain_ints, Bool.true_and]
      refine ⟨_, rfl, fun e => ?_, fun e => (k2 (eg.trans e)).same (s1.trans s2)⟩
      refine ⟨_, rfl, p, ns.map V.int, rfl, sqB_x hS (.of (s1.trans s2)), fun t H3 s3 ht => ⟨_, rfl, x, a.cWide, dx, [], rfl, s3 _ _ (s2 _ _ (s1 _ _ hx)), T.clWide, T.nWide_units, by show 0 < 1000; decide, ?_⟩⟩
      exact fin_row ((s1.trans s2).trans s3) hx ht (k1 (eg.trans e))
    · have c' : g.btw 0 65535 = false := by
        cases e : g.btw 0 65535 with
        | true => exact absurd e c
        | false => rfl
      rw [c']
      refine iteF ⟨_, rfl, fun e => Bool.noConfusion e, fun _ => (k2 ?_).same s1⟩
      cases g with
      | row xs =>
        show (xs.all (isIn 0 65535) && !xs.all plainV) = false
        rw [show xs.all (isIn 0 65535) = false from c', Bool.false_and]
      | num n => rfl
      | oth => rfl
theorem sciU : FnScope ["self", "number"] ["self", "number"] (defScope siU) := ⟨rfl, rfl, rfl, by decide +kernel, rfl, by decide +kernel, by decide +kernel⟩
theorem ok_iU (D : Df K a) (T : Txt K mg a) : FnOk P w K mg base (L2.CX P w) 4 a.fiU D.diU ["self", "number"] (spInit K a .u) := by
  have GIsb : FnOk P w K mg base CX0 2 a.fIsb D.dIsb ["thing", "least", "most"] (spBtw K) := ok_isb D T
  have GRef : FnOk P w K mg base (L2.CX P w) 3 a.fRef D.dRef ["is_good"] (spRef K a) := ok_ref D T
  refine D.FiU.okX sciU (fun vs H Q E h => ?_) (fun cdv A outer s H vs Q E hr h => ?_)
  · obtain ⟨x, dx, v, g, rfl, _⟩ := h
    rfl
  · obtain ⟨x, dx, v, g, rfl, hx, hv, k1, k2⟩ := h
    obtain ⟨tG, kGREATEST⟩ := T.kGREATEST
    have hr2 : Room 2 _ := hr.mono (by decide)
    refine ⟨_, (pss_cons (ps_expr (pe_call GRef hr rfl T.gRef D.FRef.kp D.bRef .nil (passes_call (takes_of rfl rfl rfl rfl) (fun _ _ _ _ q => q)) (pa_cons (pe_call GIsb hr2 rfl T.gIsb D.FIsb.kp D.bIsb .nil pass0 (pa_cons (pv 1) (pa_cons pe_int (pa_cons (pe_glob (v := .int 18446744073709551615) rfl kGREATEST ⟨_, rfl⟩) pa_nil)))) pa_nil))) (pss_one (ps_fld (pv 0) (pv 1) rfl))), ?_⟩
    refine ⟨_, rfl, v, 0, 18446744073709551615, rfl, hv.it, ?_⟩
    have eg : g.good .u = isIn 0 18446744073709551615 v := by
      cases g with
      | num n =>
        cases (show v = .int n from hv)
        rfl
      | row xs =>
        obtain ⟨p, rfl, _⟩ := hv
        rfl
      | oth => exact (isIn_not hv.1).symm
    refine ⟨_, rfl, fun e => ?_, fun e => k2 (eg.trans e)⟩
    have k3 := k1 (eg.trans e)
    refine ⟨_, rfl, _, rfl, x, a.cUid, dx, [], rfl, hx, T.clUid, T.nUid_number, by show 0 < 1000; decide, ?_⟩
    refine k3 _ v (fun b o e n => by rw [upd_ne n]; exact e) upd_same ?_
    cases g with
    | num n => exact hv
    | row xs => exact absurd (eg.trans e) Bool.false_ne_true
    | oth => exact absurd (eg.trans e) Bool.false_ne_true
theorem sciR : FnScope ["self", "octets"] ["self", "octets"] (defScope siR) := ⟨rfl, rfl, rfl, by decide +kernel, rfl, by decide +kernel, by decide +kernel⟩
theorem ok_iR (D : Df K a) (T : Txt K mg a) : FnOk P w K mg base (L2.CX P w) 4 a.fiR D.diR ["self", "octets"] (spInit K a .r) := by
  have GArb : FnOk P w K mg base CX0 3 a.fArb D.dArb ["things", "least", "most"] (spArb K) := ok_arb D T
  have GRef : FnOk P w K mg base (L2.CX P w) 3 a.fRef D.dRef ["is_good"] (spRef K a) := ok_ref D T
  refine D.FiR.okX sciR (fun vs H Q E h => ?_) (fun cdv A outer s H vs Q E hr h => ?_)
  · obtain ⟨x, dx, v, g, rfl, _⟩ := h
    rfl
  · obtain ⟨x, dx, v, g, rfl, hx, hv, k1, k2⟩ := h
    refine ⟨_, (pss_cons (ps_expr (pe_call GRef hr rfl T.gRef D.FRef.kp D.bRef .nil (passes_call (takes_of rfl rfl rfl rfl) (fun _ _ _ _ q => q)) (pa_cons (pe_and (pe_call GArb hr rfl T.gArb D.FArb.kp D.bArb .nil pass0 (pa_cons (pv 1) (pa_cons pe_int (pa_cons pe_int pa_nil)))) (pe_one (pe_cmpR op_in_seq (pe_callB call_len_seq (by rfl) T.blen PySem.boot_len (pa_cons (pv 1) pa_nil)) (pe_tup (pa_cons pe_int (pa_cons pe_int pa_nil))) rfl))) pa_nil))) (pss_one (ps_fld (pv 0) (pe_callTy call_tupB (by rfl) T.btuple (by decide +kernel) (pa_cons (pv 1) pa_nil)) rfl))), ?_⟩
    refine ⟨_, rfl, v, g, 0, 255, rfl, hv, fun H1 s1 => ⟨_, rfl, ?_⟩⟩
    by_cases c : g.btw 0 255 = true
    · rw [c]
      refine iteT ?_
      obtain ⟨xs, rfl, hb⟩ := btw_row c
      obtain ⟨p, rfl, hS, hl, hi⟩ := hv
      have hin : inV (.int (xs.length : Nat)) [.int 4, .int 8] = (decide (xs.length = 4) || decide (xs.length = 8)) := in48 _
      refine ⟨_, rfl, p, xs, rfl, sqB_x hS (.of s1), by show 2 ≤ sizeLine; decide, fun q hq => ⟨q, _, rfl, .inr (.inl (.inl upd_same)), rfl, rfl, ?_⟩⟩
      have s2 := same_new (o := .tup [V.int 4, V.int 8]) (Same.refl H1) hq
      generalize upd H1 q (.tup [V.int 4, V.int 8]) = H2 at s2 ⊢
      have eg : Arg.good .r (.row xs) = inV (.int (xs.length : Nat)) [.int 4, .int 8] := by
        rw [hin]
        show (xs.all (isIn 0 255) && (decide (xs.length = 4) || decide (xs.length = 8))) = _
        rw [hb, Bool.true_and]
      have s12 := s1.trans s2
      refine ⟨_, rfl, fun e => ?_, fun e => (k2 (eg.trans e)).same s12⟩
      refine ⟨_, rfl, p, xs, rfl, sqB_x hS (.of s12), fun t H3 s3 ht => ⟨_, rfl, x, a.cReal, dx, [], rfl, s3 _ _ (s12 _ _ hx), T.clReal, T.nReal_octets, by show 0 < 1000; decide, ?_⟩⟩
      exact fin_row (s12.trans s3) hx ht (k1 (eg.trans e))
    · have c' : g.btw 0 255 = false := by
        cases e : g.btw 0 255 with
        | true => exact absurd e c
        | false => rfl
      rw [c']
      refine iteF ⟨_, rfl, fun e => Bool.noConfusion e, fun _ => (k2 ?_).same s1⟩
      cases g with
      | row xs =>
        show (xs.all (isIn 0 255) && (decide (xs.length = 4) || decide (xs.length = 8))) = false
        rw [show xs.all (isIn 0 255) = false from c', Bool.false_and]
      | num n => rfl
      | oth => rfl
theorem sciT : FnScope ["self", "octets"] ["self", "octets"] (defScope siT) := ⟨rfl, rfl, rfl, by decide +kernel, rfl, by decide +kernel, by decide +kernel⟩
theorem ok_iT (D : Df K a) (T : Txt K mg a) : FnOk P w K mg base (L2.CX P w) 4 a.fiT D.diT ["self", "octets"] (spInit K a .t) := by
  have GArb : FnOk P w K mg base CX0 3 a.fArb D.dArb ["things", "least", "most"] (spArb K) := ok_arb D T
  have GRef : FnOk P w K mg base (L2.CX P w) 3 a.fRef D.dRef ["is_good"] (spRef K a) := ok_ref D T
  refine D.FiT.okX sciT (fun vs H Q E h => ?_) (fun cdv A outer s H vs Q E hr h => ?_)
  · obtain ⟨x, dx, v, g, rfl, _⟩ := h
    rfl
  · obtain ⟨x, dx, v, g, rfl, hx, hv, k1, k2⟩ := h
    refine ⟨_, (pss_cons (ps_expr (pe_call GRef hr rfl T.gRef D.FRef.kp D.bRef .nil (passes_call (takes_of rfl rfl rfl rfl) (fun _ _ _ _ q => q)) (pa_cons (pe_and (pe_call GArb hr rfl T.gArb D.FArb.kp D.bArb .nil pass0 (pa_cons (pv 1) (pa_cons pe_int (pa_cons pe_int pa_nil)))) (pe_one (pe_cmpR op_eq (pe_callB call_len_seq (by rfl) T.blen PySem.boot_len (pa_cons (pv 1) pa_nil)) pe_int (nomark _)))) pa_nil))) (pss_one (ps_fld (pv 0) (pe_callTy call_tupB (by rfl) T.btuple (by decide +kernel) (pa_cons (pv 1) pa_nil)) rfl))), ?_⟩
    refine ⟨_, rfl, v, g, 0, 255, rfl, hv, fun H1 s1 => ⟨_, rfl, ?_⟩⟩
    by_cases c : g.btw 0 255 = true
    · rw [c]
      refine iteT ?_
      obtain ⟨xs, rfl, hb⟩ := btw_row c
      obtain ⟨p, rfl, hS, hl, hi⟩ := hv
      have eq8 : decide (V.int (xs.length : Nat) = V.int 8) = decide (xs.length = 8) := decide_eq_decide.mpr ⟨fun h => by have := V.int.inj h; omega, fun h => by rw [h]; rfl⟩
      have eg : Arg.good .t (.row xs) = decide (V.int (xs.length : Nat) = V.int 8) := by
        rw [eq8]
        show (xs.all (isIn 0 255) && decide (xs.length = 8)) = _
        rw [hb, Bool.true_and]
      refine ⟨_, rfl, p, xs, rfl, sqB_x hS (.of s1), rfl, _, rfl, fun e => ?_, fun e => (k2 (eg.trans e)).same s1⟩
      refine ⟨_, rfl, p, xs, rfl, sqB_x hS (.of s1), fun t H3 s3 ht => ⟨_, rfl, x, a.cDate, dx, [], rfl, s3 _ _ (s1 _ _ hx), T.clDate, T.nDate_octets, by show 0 < 1000; decide, ?_⟩⟩
      exact fin_row (s1.trans s3) hx ht (k1 (eg.trans e))
    · have c' : g.btw 0 255 = false := by
        cases e : g.btw 0 255 with
        | true => exact absurd e c
        | false => rfl
      rw [c']
      refine iteF ⟨_, rfl, fun e => Bool.noConfusion e, fun _ => (k2 ?_).same s1⟩
      cases g with
      | row xs =>
        show (xs.all (isIn 0 255) && decide (xs.length = 8)) = false
        rw [show xs.all (isIn 0 255) = false from c', Bool.false_and]
      | num n => rfl
      | oth => rfl
end
end G58.V

set_option Elab.async false
set_option linter.all false
set_option pp.maxSteps 2500
set_option maxRecDepth 100000
set_option maxHeartbeats 4000000
/-! k01: class names, facts, ==. -/
namespace G58.V
open PySem PySem.Spec PyProof.Rows L2 LamX
/-- o.m(), the receiver's class among a family -/
def tMethF {ι : Type} (C : ι → Addr) (m : Str) (sp : ι → Sp) (E : XK) (ta : TE) : TE := fun σ H Q => ta σ H fun x H1 => ∃ (i : ι) (a dx : Addr) (fs : List (Str × V)), x = .ref a ∧ H1 a = some (.ins (C i) dx fs) ∧ fs.lookup m = none ∧ sp i [.ref a] H1 Q E
section
variable {X : Cx} {CX : CXT} {k : Nat} {E : XK} {ι : Type}
theorem pe_methF {C f : ι → Addr} {fd : ι → FuncData} {sp : ι → Sp} {o : Expr} {m : Str} {ta : TE} {apos pos : Pos} {pl : Sem Bool} (he : PE X o ta) (c : ∀ i, Cls X.K (C i)) (hm : ∀ i, Meth X.K (C i) m (f i)) (F : ∀ i, FnOk X.prog X.w X.K X.mg X.base CX k (f i) (fd i) ["self"] (sp i)) (hr : Room k X.A) (hb : ∀ i, Binds X.K (fd i) ["self"] []) (hx : Passes CX X E)
    (ht : eval (.Call (.Attribute o m apos) [] [] pos) X.env = (do
      let ov ← eval o X.env
      standAt apos.atName
      let (f, first) ← holding [ov] (getMethod ov m pl)
      callWith pos f first (backTo pos (starEach [] X.env)) (backToKw pos (keywordEach [] X.env))) := by rfl) :
    PE X (.Call (.Attribute o m apos) [] [] pos) (tMethF C m sp E ta) := by
  refine ⟨fun pins s σ H Q I h => ?_⟩
  refine PySem.W.methodCall_KW (pl := pl) (thn (he.run pins s σ H _ I h) fun u s1 ⟨x, H1, I1, rx, i, a, dx, fs, ex, ea, l, q⟩ => ?_) ht
  subst ex
  obtain rfl : u = Value.ref a := rx
  refine getmeth_ok I1 ea (c i) (hm i) l ?_
  exact PySem.W.callWith_K0 (first := [.ref a]) I1.kIn (hm i).kp (run_fn (us := [.ref a]) (vs := [.ref a]) (F i) hr (hb i) .nil hx I1 (.cons rfl .nil) q)
end
/-- a field -/
inductive FV where
  | num (n : Int)
  | row (ns : List Int)
deriving DecidableEq
def FV.arg : FV → Arg
  | .num n => .num n
  | .row ns => .row (ns.map V.int)
def FV.dat : FV → PyData
  | .num n => .int n
  | .row ns => .tuple (ns.map .int)
def FV.sz : FV → Prop
  | .num _ => True
  | .row ns => ns.length ≤ 1000
theorem eqv_intL : ∀ (ns ms : List Int), PyData.eqvAll (ns.map PyData.int) (ms.map PyData.int) = decide (ns = ms)
  | [], [] => rfl
  | [], _ :: _ => rfl
  | _ :: _, [] => rfl
  | n :: ns, m :: ms => by
    show ((n == m) && PyData.eqvAll (ns.map PyData.int) (ms.map PyData.int)) = _
    rw [eqv_intL ns ms]
    by_cases h1 : n = m
    · by_cases h2 : ns = ms <;> simp [h1, h2]
    · simp [h1]
theorem eqv_dat (f g : FV) : PyData.eqv f.dat g.dat = decide (f = g) := by
  cases f with
  | num n =>
    cases g with
    | num m =>
      show (n == m) = _
      by_cases h : n = m <;> simp [h]
    | row ms => rfl
  | row ns =>
    cases g with
    | num m => rfl
    | row ms =>
      show PyData.eqvAll (ns.map PyData.int) (ms.map PyData.int) = _
      rw [eqv_intL]
      exact decide_eq_decide.mpr ⟨fun h => by rw [h], fun h => by cases h; rfl⟩
theorem dpAll_ints {K : PySem.W.Frag} {H : Hp} : ∀ ns : List Int, DpAll K H (ns.map V.int) (ns.map PyData.int)
  | [] => .nil
  | n :: ns => .cons (.int n) (dpAll_ints ns)
theorem FV.dp {K : PySem.W.Frag} {H : Hp} {v : V} {f : FV} (h : FldAt K H v f.arg) : Dp K H v f.dat := by
  cases f with
  | num n =>
    cases (show v = .int n from h)
    exact .int n
  | row ns =>
    obtain ⟨t, rfl, ht⟩ := h
    exact .tup ht (dpAll_ints ns)
theorem layI : ∀ ns : List Int, PyData.canLayAll0 (ns.map PyData.int) = true
  | [] => rfl
  | n :: ns => by
    show (PyData.canLay0 (.int n) && PyData.canLayAll0 (ns.map PyData.int)) = true
    rw [layI ns]
    rfl
theorem depI : ∀ ns : List Int, PyData.depthAll (ns.map PyData.int) = 0
  | [] => rfl
  | n :: ns => by
    show max 0 (PyData.depthAll (ns.map PyData.int)) = 0
    rw [depI ns]
    rfl
theorem FV.lay (f : FV) : f.dat.canLay0 = true := by
  cases f with
  | num n => rfl
  | row ns => exact layI ns
theorem FV.dep (f : FV) : f.dat.depth ≤ 1 := by
  cases f with
  | num n => exact Nat.zero_le _
  | row ns =>
    show PyData.depthAll (ns.map PyData.int) + 1 ≤ 1
    rw [depI ns]
    exact Nat.le_refl _
theorem FV.shp (f : FV) : SeqAt.shaped f.dat = true := by
  unfold SeqAt.shaped
  rw [f.lay, decide_eq_true (Nat.le_trans f.dep (by decide))]
  rfl
/-- the tuple of the field -/
theorem FV.dp1 {K : PySem.W.Frag} {H : Hp} {v : V} {t : Addr} {f : FV} (ht : H t = some (.tup [v])) (h : FldAt K H v f.arg) : Dp K H (.ref t) (.tuple [f.dat]) := .tup (.inl (.inl ht)) (.cons (FV.dp h) .nil)
theorem eqv_dat1 (f g : FV) : PyData.eqv (.tuple [f.dat]) (.tuple [g.dat]) = decide (f = g) := by
  show (PyData.eqv f.dat g.dat && true) = _
  rw [Bool.and_true, eqv_dat]
theorem FV.shp1 (f : FV) : SeqAt.shaped (.tuple [f.dat]) = true := by
  unfold SeqAt.shaped
  have h1 : PyData.canLay0 (.tuple [f.dat]) = true := by
    show (f.dat.canLay0 && true) = true
    rw [f.lay]
    rfl
  have h2 : PyData.depth (.tuple [f.dat]) ≤ 64 := by
    show max f.dat.depth 0 + 1 ≤ 64
    have := f.dep
    omega
  rw [h1, decide_eq_true h2]
  rfl
def Wy.cn : Wy → Str
  | .w => "wide"
  | .d => "data"
  | .u => "uid"
  | .r => "real"
  | .t => "date"
def Wy.fCn (a : Ad) : Wy → Addr
  | .w => a.fCnW
  | .d => a.fCnD
  | .u => a.fCnU
  | .r => a.fCnR
  | .t => a.fCnT
def Wy.fFa (a : Ad) : Wy → Addr
  | .w => a.fFaW
  | .d => a.fFaD
  | .u => a.fFaU
  | .r => a.fFaR
  | .t => a.fFaT
instance : DecidableEq Wy := fun x y => by
  cases x <;> cases y <;> first | exact isTrue rfl | exact isFalse (fun h => nomatch h)
theorem cn_inj {x y : Wy} (h : x.cn = y.cn) : x = y := by
  revert h
  cases x <;> cases y <;> first | exact fun _ => rfl | exact fun h => absurd h (by decide +kernel)
section
variable {P : Program} {w : World} {K : PySem.W.Frag} {mg : Str → Option Value} {base : Heap} {a : Ad}
def Wy.dCn (D : Df K a) : Wy → FuncData
  | .w => D.dCnW
  | .d => D.dCnD
  | .u => D.dCnU
  | .r => D.dCnR
  | .t => D.dCnT
def Wy.dFa (D : Df K a) : Wy → FuncData
  | .w => D.dFaW
  | .d => D.dFaD
  | .u => D.dFaU
  | .r => D.dFaR
  | .t => D.dFaT
theorem clsA (T : Txt K mg a) (y : Wy) : Cls K (y.cls a) := by
  cases y
  · exact T.clWide
  · exact T.clData
  · exact T.clUid
  · exact T.clReal
  · exact T.clDate
theorem mtCnA (D : Df K a) (T : Txt K mg a) (y : Wy) : Meth K (y.cls a) "class_name" (y.fCn a) := by
  cases y
  · exact T.mtCnW
  · exact T.mtCnD
  · exact T.mtCnU
  · exact T.mtCnR
  · exact T.mtCnT
theorem mtFaA (D : Df K a) (T : Txt K mg a) (y : Wy) : Meth K (y.cls a) "facts" (y.fFa a) := by
  cases y
  · exact T.mtFaW
  · exact T.mtFaD
  · exact T.mtFaU
  · exact T.mtFaR
  · exact T.mtFaT
theorem bCnA (D : Df K a) (y : Wy) : L2.Binds K (y.dCn D) ["self"] [] := by
  cases y
  · exact D.bCnW
  · exact D.bCnD
  · exact D.bCnU
  · exact D.bCnR
  · exact D.bCnT
theorem bFaA (D : Df K a) (y : Wy) : L2.Binds K (y.dFa D) ["self"] [] := by
  cases y
  · exact D.bFaW
  · exact D.bFaD
  · exact D.bFaU
  · exact D.bFaR
  · exact D.bFaT
def spCn (y : Wy) : Sp := fun vs H Q _ => ∃ x : Addr, vs = [.ref x] ∧ Q (.str y.cn) H
def spFa (a : Ad) (y : Wy) : Sp := fun vs H Q _ => ∃ (x dx : Addr) (v : V), vs = [.ref x] ∧ H x = some (.ins (y.cls a) dx [(y.fld, v)]) ∧ ∀ t, H t = none → Q (.ref t) (upd H t (.tup [v]))
theorem scCnW : FnScope ["self"] ["self"] (defScope sCnW) := ⟨rfl, rfl, rfl, by decide +kernel, rfl, by decide +kernel, by decide +kernel⟩
theorem ok_CnW (D : Df K a) (T : Txt K mg a) : FnOk P w K mg base CX0 1 a.fCnW D.dCnW ["self"] (spCn .w) := by
  refine D.FCnW.ok scCnW (fun vs H Q E h => ?_) (fun cdv A outer s H vs Q E hr h => ?_)
  · obtain ⟨x, rfl, _⟩ := h
    rfl
  · obtain ⟨x, rfl, k⟩ := h
    refine ⟨_, (pss_one (ps_ret pe_str)), ?_⟩
    exact k
theorem scFaW : FnScope ["self"] ["self"] (defScope sFaW) := ⟨rfl, rfl, rfl, by decide +kernel, rfl, by decide +kernel, by decide +kernel⟩
theorem ok_FaW (D : Df K a) (T : Txt K mg a) : FnOk P w K mg base CX0 1 a.fFaW D.dFaW ["self"] (spFa a .w) := by
  refine D.FFaW.ok scFaW (fun vs H Q E h => ?_) (fun cdv A outer s H vs Q E hr h => ?_)
  · obtain ⟨x, dx, v, rfl, _⟩ := h
    rfl
  · obtain ⟨x, dx, v, rfl, hx, k⟩ := h
    refine ⟨_, (pss_one (ps_ret (pe_tup (pa_cons (pe_fld (pv 0) rfl) pa_nil)))), ?_⟩
    exact ⟨_, rfl, x, a.cWide, dx, _, _, rfl, hx, T.clWide, T.nWide_units, rfl, by show 1 ≤ sizeLine; decide, k⟩
theorem scCnD : FnScope ["self"] ["self"] (defScope sCnD) := ⟨rfl, rfl, rfl, by decide +kernel, rfl, by decide +kernel, by decide +kernel⟩
theorem ok_CnD (D : Df K a) (T : Txt K mg a) : FnOk P w K mg base CX0 1 a.fCnD D.dCnD ["self"] (spCn .d) := by
  refine D.FCnD.ok scCnD (fun vs H Q E h => ?_) (fun cdv A outer s H vs Q E hr h => ?_)
  · obtain ⟨x, rfl, _⟩ := h
    rfl
  · obtain ⟨x, rfl, k⟩ := h
    refine ⟨_, (pss_one (ps_ret pe_str)), ?_⟩
    exact k
theorem scFaD : FnScope ["self"] ["self"] (defScope sFaD) := ⟨rfl, rfl, rfl, by decide +kernel, rfl, by decide +kernel, by decide +kernel⟩
theorem ok_FaD (D : Df K a) (T : Txt K mg a) : FnOk P w K mg base CX0 1 a.fFaD D.dFaD ["self"] (spFa a .d) := by
  refine D.FFaD.ok scFaD (fun vs H Q E h => ?_) (fun cdv A outer s H vs Q E hr h => ?_)
  · obtain ⟨x, dx, v, rfl, _⟩ := h
    rfl
  · obtain ⟨x, dx, v, rfl, hx, k⟩ := h
    refine ⟨_, (pss_one (ps_ret (pe_tup (pa_cons (pe_fld (pv 0) rfl) pa_nil)))), ?_⟩
    exact ⟨_, rfl, x, a.cData, dx, _, _, rfl, hx, T.clData, T.nData_octets, rfl, by show 1 ≤ sizeLine; decide, k⟩
theorem scCnU : FnScope ["self"] ["self"] (defScope sCnU) := ⟨rfl, rfl, rfl, by decide +kernel, rfl, by decide +kernel, by decide +kernel⟩
theorem ok_CnU (D : Df K a) (T : Txt K mg a) : FnOk P w K mg base CX0 1 a.fCnU D.dCnU ["self"] (spCn .u) := by
  refine D.FCnU.ok scCnU (fun vs H Q E h => ?_) (fun cdv A outer s H vs Q E hr h => ?_)
  · obtain ⟨x, rfl, _⟩ := h
    rfl
  · obtain ⟨x, rfl, k⟩ := h
    refine ⟨_, (pss_one (ps_ret pe_str)), ?_⟩
    exact k
theorem scFaU : FnScope ["self"] ["self"] (defScope sFaU) := ⟨rfl, rfl, rfl, by decide +kernel, rfl, by decide +kernel, by decide +kernel⟩
theorem ok_FaU (D : Df K a) (T : Txt K mg a) : FnOk P w K mg base CX0 1 a.fFaU D.dFaU ["self"] (spFa a .u) := by
  refine D.FFaU.ok scFaU (fun vs H Q E h => ?_) (fun cdv A outer s H vs Q E hr h => ?_)
  · obtain ⟨x, dx, v, rfl, _⟩ := h
    rfl
  · obtain ⟨x, dx, v, rfl, hx, k⟩ := h
    refine ⟨_, (pss_one (ps_ret (pe_tup (pa_cons (pe_fld (pv 0) rfl) pa_nil)))), ?_⟩
    exact ⟨_, rfl, x, a.cUid, dx, _, _, rfl, hx, T.clUid, T.nUid_number, rfl, by show 1 ≤ sizeLine; decide, k⟩
theorem scCnR : FnScope ["self"] ["self"] (defScope sCnR) := ⟨rfl, rfl, rfl, by decide +kernel, rfl, by decide +kernel, by decide +kernel⟩
theorem ok_CnR (D : Df K a) (T : Txt K mg a) : FnOk P w K mg base CX0 1 a.fCnR D.dCnR ["self"] (spCn .r) := by
  refine D.FCnR.ok scCnR (fun vs H Q E h => ?_) (fun cdv A outer s H vs Q E hr h => ?_)
  · obtain ⟨x, rfl, _⟩ := h
    rfl
  · obtain ⟨x, rfl, k⟩ := h
    refine ⟨_, (pss_one (ps_ret pe_str)), ?_⟩
    exact k
theorem scFaR : FnScope ["self"] ["self"] (defScope sFaR) := ⟨rfl, rfl, rfl, by decide +kernel, rfl, by decide +kernel, by decide +kernel⟩
theorem ok_FaR (D : Df K a) (T : Txt K mg a) : FnOk P w K mg base CX0 1 a.fFaR D.dFaR ["self"] (spFa a .r) := by
  refine D.FFaR.ok scFaR (fun vs H Q E h => ?_) (fun cdv A outer s H vs Q E hr h => ?_)
  · obtain ⟨x, dx, v, rfl, _⟩ := h
    rfl
  · obtain ⟨x, dx, v, rfl, hx, k⟩ := h
    refine ⟨_, (pss_one (ps_ret (pe_tup (pa_cons (pe_fld (pv 0) rfl) pa_nil)))), ?_⟩
    exact ⟨_, rfl, x, a.cReal, dx, _, _, rfl, hx, T.clReal, T.nReal_octets, rfl, by show 1 ≤ sizeLine; decide, k⟩
theorem scCnT : FnScope ["self"] ["self"] (defScope sCnT) := ⟨rfl, rfl, rfl, by decide +kernel, rfl, by decide +kernel, by decide +kernel⟩
theorem ok_CnT (D : Df K a) (T : Txt K mg a) : FnOk P w K mg base CX0 1 a.fCnT D.dCnT ["self"] (spCn .t) := by
  refine D.FCnT.ok scCnT (fun vs H Q E h => ?_) (fun cdv A outer s H vs Q E hr h => ?_)
  · obtain ⟨x, rfl, _⟩ := h
    rfl
  · obtain ⟨x, rfl, k⟩ := h
    refine ⟨_, (pss_one (ps_ret pe_str)), ?_⟩
    exact k
theorem scFaT : FnScope ["self"] ["self"] (defScope sFaT) := ⟨rfl, rfl, rfl, by decide +kernel, rfl, by decide +kernel, by decide +kernel⟩
theorem ok_FaT (D : Df K a) (T : Txt K mg a) : FnOk P w K mg base CX0 1 a.fFaT D.dFaT ["self"] (spFa a .t) := by
  refine D.FFaT.ok scFaT (fun vs H Q E h => ?_) (fun cdv A outer s H vs Q E hr h => ?_)
  · obtain ⟨x, dx, v, rfl, _⟩ := h
    rfl
  · obtain ⟨x, dx, v, rfl, hx, k⟩ := h
    refine ⟨_, (pss_one (ps_ret (pe_tup (pa_cons (pe_fld (pv 0) rfl) pa_nil)))), ?_⟩
    exact ⟨_, rfl, x, a.cDate, dx, _, _, rfl, hx, T.clDate, T.nDate_octets, rfl, by show 1 ≤ sizeLine; decide, k⟩
theorem ok_CnA (D : Df K a) (T : Txt K mg a) (y : Wy) : FnOk P w K mg base CX0 1 (y.fCn a) (y.dCn D) ["self"] (spCn y) := by
  cases y
  · exact ok_CnW D T
  · exact ok_CnD D T
  · exact ok_CnU D T
  · exact ok_CnR D T
  · exact ok_CnT D T
theorem ok_FaA (D : Df K a) (T : Txt K mg a) (y : Wy) : FnOk P w K mg base CX0 1 (y.fFa a) (y.dFa D) ["self"] (spFa a y) := by
  cases y
  · exact ok_FaW D T
  · exact ok_FaD D T
  · exact ok_FaU D T
  · exact ok_FaR D T
  · exact ok_FaT D T
theorem th_ty (T : Txt K mg a) {p : Addr} {H : Hp} {y : Wy} {g : Arg} (h : ThAt K a H p y g) : TyX K H (.ref p) (.ref (y.cls a)) := by
  obtain ⟨dx, v, h, _⟩ := h
  refine .base (.ins h (clsA T y) ?_ T.hn T.htk ?_)
  · cases y
    · exact T.haWide
    · exact T.haData
    · exact T.haUid
    · exact T.haReal
    · exact T.haDate
  · cases y
    · exact T.hmWide
    · exact T.hmData
    · exact T.hmUid
    · exact T.hmReal
    · exact T.hmDate
theorem fld_no (y : Wy) (m : Str) (v : V) (h1 : m ≠ "units") (h2 : m ≠ "octets") (h3 : m ≠ "number") : List.lookup m [(y.fld, v)] = none := by
  have : (m == y.fld) = false := by
    rw [beq_eq_false_iff_ne]
    cases y <;> first | exact h1 | exact h2 | exact h3
  simp [List.lookup, this]
end
end G58.V

set_option Elab.async false
set_option linter.all false
set_option maxRecDepth 100000
set_option maxHeartbeats 1000000
/-! sorted(d) of a dict with text keys, any number of them. -/
namespace SrtO
open PySem PyProof.Rows Srt
section
variable {prog : Program} {w : World} {A : Around} {E : Value → Shared → Prop} {s : Shared}
def sv : Value → List Nat
  | .str x _ => x.cps.toList
  | _ => []
def ltSv (v u : Value) : Bool := decide (sv v < sv u)
theorem swo_str : Swo ltSv := by
  refine ⟨fun x y h => ?_, fun x y z h1 h2 => ?_⟩
  · have a := of_decide_eq_true (p := sv x < sv y) h
    exact decide_eq_false (p := sv y < sv x) (List.lt_asymm a)
  · have a := of_decide_eq_false (p := sv y < sv x) h1
    have b := of_decide_eq_false (p := sv z < sv y) h2
    exact decide_eq_false (p := sv z < sv x) (List.not_lt.mpr (List.le_trans (List.not_lt.mp a) (List.not_lt.mp b)))
theorem strs_mem : ∀ {vs : List Value} {ns : List PySem.Str}, StrsAre vs ns → ∀ v ∈ vs, ∃ x t, v = Value.str x t := by
  intro vs ns h
  induction h with
  | nil => intro v hv; cases hv
  | cons n t r ih =>
    intro v hv
    rcases List.mem_cons.mp hv with e | hv
    · exact ⟨_, _, e⟩
    · exact ih v hv
theorem str_cmp {vs : List Value} {ns : List PySem.Str} (hI : StrsAre vs ns) : Cmp prog w A s oneType' (fun p => p.1 ∈ vs) (lt2 ltSv) := by
  intro p q hm hm'
  obtain ⟨a, t, e⟩ := strs_mem hI _ hm
  obtain ⟨b, u, e'⟩ := strs_mem hI _ hm'
  show wpAny (model prog w) A (keyLt' oneType' p.1 q.1) (fun r s' => s' = s ∧ r = ltSv p.1 q.1) (fun _ _ => False) s
  rw [e, e', keyLt'_oneType]
  exact oneLt_str ⟨rfl, rfl⟩
theorem strs_sortable {a : Addr} {vs : List Value} {ns : List PySem.Str} (hI : StrsAre vs ns) (h2 : 2 ≤ vs.length) : SortableO prog w A s a vs ltSv := by
  intro h' _
  refine ⟨oneType', fun Q E hq => ?_, str_cmp hI⟩
  match vs, hI, h2 with
  | v1 :: v2 :: rest, hI, _ =>
    rw [keyKind_strs hI]
    exact wpAny_pure hq
  | [], _, h => exact absurd h (by decide)
  | [v], _, h => exact absurd h (by simp)
def sx : Value → PySem.Str
  | .str x _ => x
  | _ => PySem.Str.empty
theorem strs_sx : ∀ {vs : List Value}, (∀ v ∈ vs, ∃ x t, v = Value.str x t) → StrsAre vs (vs.map sx)
  | [], _ => .nil
  | v :: vs, h => by
    obtain ⟨i, t, e⟩ := h v List.mem_cons_self
    subst e
    exact .cons i t (strs_sx fun u hu => h u (List.mem_cons_of_mem _ hu))
theorem sx_strs {vs : List Value} {ns : List PySem.Str} (h : StrsAre vs ns) : vs.map sx = ns := by
  induction h with
  | nil => rfl
  | cons n t r ih => exact congrArg (_ :: ·) ih
theorem strs_out {vs out : List Value} {ns : List PySem.Str} (hI : StrsAre vs ns) (hs : Srtd ltSv out) (hb : Stb ltSv out vs) : StrsAre out (out.map sx) ∧ (out.map sx).Perm ns ∧ (out.map sx).Pairwise (fun x y => ¬ y.cps.toList < x.cps.toList) := by
  have hm : ∀ v ∈ out, ∃ x t, v = Value.str x t := fun v hv => strs_mem hI v (hb.perm.mem_iff.mp hv)
  refine ⟨strs_sx hm, ?_, ?_⟩
  · have q := hb.perm.map sx
    rw [sx_strs hI] at q
    exact q
  · rw [List.pairwise_map]
    refine List.Pairwise.imp_of_mem ?_ hs
    intro x y hx hy h
    obtain ⟨a, t, rfl⟩ := hm x hx
    obtain ⟨b, u, rfl⟩ := hm y hy
    exact of_decide_eq_false (p := b.cps.toList < a.cps.toList) h
end
end SrtO
namespace L2
open PySem PySem.Spec PyProof.Rows
section
variable {X : Cx}
/-- sorted(d) of a dict with text keys, any number of them -/
theorem call_sortedDU (hcalm : X.calm = true) : CallR X (.builtin "sorted") (fun xs H Q => ∃ (a : Addr) (kvs : List (Key × V)) (ks : List Str), xs = [.ref a] ∧ Rd H a (.dK kvs) ∧ kvs.map (·.1) = ks.map Sum.inr ∧ ks.length ≤ sizeLine ∧
    ∀ (ys : List Str) (p : Addr), ys.Perm ks → ys.Pairwise (fun x y => ¬ y.cps.toList < x.cps.toList) → H p = none → Q (.ref p) (upd H p (.lst (ys.map V.str)))) := by
  intro pins s σ H xs us Q I r q
  obtain ⟨a, kvs, ks, ex, hd, hks, h64, q⟩ := q
  subst ex
  obtain ⟨u, eu, rx⟩ := vals1 r
  subst eu
  cases rx
  obtain ⟨z, lo, vs, rel, dd⟩ := dk_rd I.hok hd
  obtain ⟨ep, hat⟩ := dd.dictAt
  have hkeys : vs.map (·.1) = ks.map Sum.inr := rel.keys.symm.trans hks
  have hl : vs.length = ks.length := by
    have e := congrArg List.length hkeys
    rw [List.length_map, List.length_map] at e
    exact e
  have h16 : vs.length ≤ sizeLine := by rw [hl]; exact h64
  refine Calls.call_function_entry PyProof.Rows.kind_sorted PyProof.Rows.plain_sorted PyProof.Rows.entry_sorted (PyProof.Rows.args_sorted1 _) ?_
  unfold Builtin.«sorted»
  refine wpAny_bind (m := checkCount "sorted" 1 1 _) (wpAny_pure ?_)
  refine wpAny_bind (PySem.W.kdu_collect (A := X.A.in1) (PySem.W.kdl_dict (knd := mixKind X.prog X.w) (kvs := vs) (ep := ep) lo) (I.ok.hd hcalm) hat h16 fun h' tk acc hk hacc => ?_)
  have hal : acc.toList.length = ks.length := by rw [Array.length_toList, hacc.1, hl]
  have hS : StrsAre acc.toList ks := strs_at hal fun j v e => by
    obtain ⟨k, x, e1, e2⟩ := hacc.2 j v (by rw [← Array.getElem?_toList]; exact e)
    have e3 : (vs.map (·.1))[j]? = some k := by rw [List.getElem?_map, e1]; all_goals rfl
    rw [hkeys, List.getElem?_map] at e3
    cases e4 : ks[j]? with
    | none => rw [e4] at e3; cases e3
    | some y =>
      rw [e4] at e3
      have e5 : Sum.inr y = k := Option.some.inj e3
      subst e5
      obtain ⟨t, ev⟩ := Value.isStrOf_shape (x := y) (v := v) e2
      exact ⟨y, t, rfl, ev⟩
  have I1 : Inv X pins σ H { s with heap := h', toks := tk } := I.kept hk
  refine wpAny_bind (wpAny_newList ?_ (by rw [hal]; exact h64))
  have hoL : (h'.push (seqObj "list" acc.toList.toArray 0)).get? h'.objs.size = some (seqObj "list" acc.toList.toArray 0) := Heap.get?_push_size _ rfl
  show wpAny _ _ _ _ _ { s with heap := h'.push (seqObj "list" acc.toList.toArray 0), toks := tk }
  refine wpAny_bind (wpAny_holding (wpAny_call_entry PyProof.Rows.slot_list_sort ⟨_, hoL, rfl⟩ PyProof.Rows.entry_list_sort
    (SrtO.list_sort_ord SrtO.swo_str (s := { s with heap := h'.push (seqObj "list" acc.toList.toArray 0), toks := tk }) hoL (by rw [hal]; exact h64) (fun h2 => SrtO.strs_sortable hS h2) fun out h1 h2 => ⟨_, rfl, ?_⟩)
    (PyProof.Rows.args_list_sort _)))
  obtain ⟨g1, g2, g3⟩ := SrtO.strs_out hS h1 h2
  obtain ⟨e', he'⟩ := PyProof.Rows.sortedHeap_at (vs := acc.toList) (out := out.toArray) hoL
  have hlen : ((out.map SrtO.sx).map V.str).length ≤ sizeLine := by
    rw [List.length_map, g2.length_eq]
    exact h64
  refine wpAny_pure ⟨_, rfl, .ref h'.objs.size, upd H h'.objs.size (.lst ((out.map SrtO.sx).map V.str)), I1.laid (t' := tk) (fun b u e => ?_) (Nat.le_refl _)
    (show ObjOk X.prog X.w _ _ _ (.lst ((out.map SrtO.sx).map V.str)) from ⟨hlen, out, e', vals_of_strs g1, he'⟩), rfl, q _ _ g2 g3 (I1.hok.fresh (Nat.le_refl _))⟩
  have hb : b < h'.objs.size := Heap.lt_size e
  rw [PyProof.Rows.sortedHeap_old (Nat.ne_of_lt hb) (by rw [size_push']; exact Nat.lt_succ_of_lt hb)]
  exact Heap.get?_push_of_some _ e
end
end L2

set_option Elab.async false
set_option linter.all false
set_option pp.maxSteps 1500
set_option maxRecDepth 100000
set_option maxHeartbeats 1000000
/-! Values: plain trees, and how they stand in memory. -/
namespace G58.V
open PySem PySem.Spec PyProof.Rows L2 LamX
/-- a value without items or members -/
inductive Lf where
  | non
  | bl (b : Bool)
  | int (i : Int)
  | str (z : Str)
  | thg (y : Wy) (f : FV)
/-- a value, or what is none (tuples) -/
inductive Val where
  | leaf (l : Lf)
  | lst (vs : List Val)
  | dic (ks : List Str) (vs : List Val)
  | tup (vs : List V)
  | odd
def LfAt (K : PySem.W.Frag) (a : Ad) (H : Hp) : Lf → V → Prop
  | .non, v => v = .non
  | .bl b, v => v = .bl b
  | .int i, v => v = .int i
  | .str z, v => v = .str z
  | .thg y f, v => ∃ p, v = .ref p ∧ ThAt K a H p y f.arg
mutual
def ValAt (K : PySem.W.Frag) (a : Ad) (H : Hp) : Val → V → Prop
  | .leaf l, v => LfAt K a H l v
  | .lst vs, v => ∃ p xs, v = .ref p ∧ H p = some (.lst xs) ∧ ValsAt K a H vs xs
  | .dic ks vs, v => ∃ p xs ys, v = .ref p ∧ H p = some (.dK ((ks.map Sum.inr).zip xs)) ∧ ks.length = xs.length ∧ ks.Nodup ∧ ys = xs ∧ ValsAt K a H vs ys
  | .tup vs, v => ∃ p, v = .ref p ∧ SqT K H p vs
  | .odd, v => ∃ p dx, v = .ref p ∧ H p = some (.ins a.cUnfit dx [])
def ValsAt (K : PySem.W.Frag) (a : Ad) (H : Hp) : List Val → List V → Prop
  | [], xs => xs = []
  | b :: r, xs => ∃ y ys, xs = y :: ys ∧ ValAt K a H b y ∧ ValsAt K a H r ys
end
theorem LfAt.same {K : PySem.W.Frag} {a : Ad} {H H' : Hp} (s : Same H H') : ∀ {l : Lf} {v : V}, LfAt K a H l v → LfAt K a H' l v := by
  intro l v h
  cases l with
  | thg y f =>
    obtain ⟨p, e, h⟩ := h
    exact ⟨p, e, h.extN (.of s)⟩
  | non => exact h
  | bl b => exact h
  | int i => exact h
  | str z => exact h
mutual
theorem ValAt.same {K : PySem.W.Frag} {a : Ad} {H H' : Hp} (s : Same H H') : ∀ (b : Val) (v : V), ValAt K a H b v → ValAt K a H' b v
  | .leaf l, v, h => by
    unfold ValAt at h ⊢
    exact LfAt.same s h
  | .lst vs, v, h => by
    unfold ValAt at h ⊢
    obtain ⟨p, xs, e, h1, h2⟩ := h
    exact ⟨p, xs, e, s _ _ h1, ValsAt.same s vs xs h2⟩
  | .dic ks vs, v, h => by
    unfold ValAt at h ⊢
    obtain ⟨p, xs, ys, e, h1, h2, h3, h4, h5⟩ := h
    exact ⟨p, xs, ys, e, s _ _ h1, h2, h3, h4, ValsAt.same s vs ys h5⟩
  | .tup vs, v, h => by
    unfold ValAt at h ⊢
    obtain ⟨p, e, h1⟩ := h
    exact ⟨p, e, Same.tup s h1⟩
  | .odd, v, h => by
    unfold ValAt at h ⊢
    obtain ⟨p, dx, e, h1⟩ := h
    exact ⟨p, dx, e, s _ _ h1⟩
theorem ValsAt.same {K : PySem.W.Frag} {a : Ad} {H H' : Hp} (s : Same H H') : ∀ (vs : List Val) (xs : List V), ValsAt K a H vs xs → ValsAt K a H' vs xs
  | [], xs, h => by
    unfold ValsAt at h ⊢
    exact h
  | a :: r, xs, h => by
    unfold ValsAt at h ⊢
    obtain ⟨y, ys, e, h1, h2⟩ := h
    exact ⟨y, ys, e, ValAt.same s a y h1, ValsAt.same s r ys h2⟩
end
/-! ### plain -/
def plainC (u : Nat) : Bool := decide (32 ≤ u) && decide (u ≤ 126) && !decide (u = 37)
def okL : Lf → Bool
  | .int i => decide (-9223372036854775808 ≤ i) && decide (i ≤ 18446744073709551615)
  | .str z => z.cps.toList.all plainC
  | _ => true
abbrev PStep := Int ⊕ Str
mutual
/-- no part is wrong -/
inductive GoodV : Val → Prop
  | leaf (l : Lf) : okL l = true → GoodV (.leaf l)
  | lst (vs : List Val) : GoodVs vs → GoodV (.lst vs)
  | dic (ks : List Str) (vs : List Val) : (∀ k ∈ ks, k.cps.toList.all plainC = true) → GoodVs vs → GoodV (.dic ks vs)
inductive GoodVs : List Val → Prop
  | nil : GoodVs []
  | cons (a : Val) (r : List Val) : GoodV a → GoodVs r → GoodVs (a :: r)
end
/-- the path of the first wrong part -/
inductive BadV : Val → List PStep → Prop
  | leaf (l : Lf) : okL l = false → BadV (.leaf l) []
  | tup (vs : List V) : BadV (.tup vs) []
  | odd : BadV .odd []
  | key (ks : List Str) (vs : List Val) : (∃ k ∈ ks, k.cps.toList.all plainC = false) → BadV (.dic ks vs) []
  | lst (vs : List Val) (i : Nat) (a : Val) (p : List PStep) : vs[i]? = some a → (∀ (j : Nat) (b : Val), j < i → vs[j]? = some b → GoodV b) → BadV a p → BadV (.lst vs) (.inl (i : Nat) :: p)
  | dic (ks : List Str) (vs : List Val) (i : Nat) (k : Str) (a : Val) (p : List PStep) : (∀ k ∈ ks, k.cps.toList.all plainC = true) → ks[i]? = some k → vs[i]? = some a →
      (∀ (j : Nat) (k' : Str) (b : Val), ks[j]? = some k' → vs[j]? = some b → k'.cps.toList < k.cps.toList → GoodV b) → BadV a p → BadV (.dic ks vs) (.inr k :: p)
mutual
def depthV : Val → Nat
  | .leaf _ => 0
  | .lst vs => depthVs vs
  | .dic _ vs => depthVs vs
  | .tup _ => 0
  | .odd => 0
def depthVs : List Val → Nat
  | [] => 0
  | a :: r => max (1 + depthV a) (depthVs r)
end
mutual
def partsV : Val → Nat
  | .leaf _ => 1
  | .lst vs => 1 + partsVs vs
  | .dic _ vs => 1 + partsVs vs
  | .tup _ => 1
  | .odd => 1
def partsVs : List Val → Nat
  | [] => 0
  | a :: r => partsV a + partsVs r
end
theorem vals_at {K : PySem.W.Frag} {a : Ad} {H : Hp} : ∀ {vs : List Val} {xs : List V}, ValsAt K a H vs xs → xs.length = vs.length ∧ ∀ (i : Nat) (b : Val) (x : V), vs[i]? = some b → xs[i]? = some x → ValAt K a H b x
  | [], xs, h => by
    unfold ValsAt at h
    rw [h]
    exact ⟨rfl, fun i a x h1 _ => by rw [List.getElem?_nil] at h1; cases h1⟩
  | b :: r, xs, h => by
    unfold ValsAt at h
    obtain ⟨y, ys, rfl, h1, h2⟩ := h
    obtain ⟨l, g⟩ := vals_at h2
    refine ⟨by rw [List.length_cons, List.length_cons, l], fun i a x e1 e2 => ?_⟩
    cases i with
    | zero =>
      cases e1
      cases e2
      exact h1
    | succ i => exact g i a x e1 e2
theorem depth_at : ∀ {vs : List Val} {i : Nat} {a : Val}, vs[i]? = some a → 1 + depthV a ≤ depthVs vs
  | [], _, _, h => by rw [List.getElem?_nil] at h; cases h
  | b :: r, 0, a, h => by
    cases h
    unfold depthVs
    exact Nat.le_max_left _ _
  | b :: r, i + 1, a, h => by
    have ih := depth_at (vs := r) (i := i) (a := a) h
    unfold depthVs
    exact Nat.le_trans ih (Nat.le_max_right _ _)
theorem good_at : ∀ {vs : List Val}, GoodVs vs → ∀ {i : Nat} {a : Val}, vs[i]? = some a → GoodV a
  | [], _, _, _, h => by rw [List.getElem?_nil] at h; cases h
  | b :: r, g, 0, a, h => by
    cases h
    cases g with
    | cons _ _ g1 _ => exact g1
  | b :: r, g, i + 1, a, h => by
    cases g with
    | cons _ _ _ g2 => exact good_at (vs := r) g2 (i := i) (a := a) h
end G58.V

set_option Elab.async false
set_option linter.all false
set_option pp.maxSteps 2500
set_option maxRecDepth 100000
set_option maxHeartbeats 4000000
/-! Strings, leaves. -/
namespace G58.V
open PySem PySem.Spec PyProof.Rows L2 LamX
def plainS (z : Str) : Bool := z.cps.toList.all plainC
theorem plainIC (n : Nat) : plainI (n : Nat) = plainC n := by
  show (decide ((32 : Int) ≤ (n : Nat)) && decide ((n : Int) ≤ 126) && !decide ((n : Int) = 37)) = (decide (32 ≤ n) && decide (n ≤ 126) && !decide (n = 37))
  exact congr (congrArg and (congr (congrArg and (decide_eq_decide.mpr ⟨fun h => by omega, fun h => by omega⟩)) (decide_eq_decide.mpr ⟨fun h => by omega, fun h => by omega⟩))) (congrArg not (decide_eq_decide.mpr ⟨fun h => by omega, fun h => by omega⟩))
abbrev intsN (us : List Nat) : List Int := us.map fun n => ((n : Nat) : Int)
theorem intsN_V (us : List Nat) : (intsN us).map V.int = vInts us := by rw [List.map_map]; rfl
theorem plain_all (us : List Nat) : (intsN us).all plainI = us.all plainC := by
  rw [List.all_map]
  exact congrArg us.all (funext plainIC)
def smallL : Lf → Prop
  | .str z => z.cps.size ≤ 100000
  | .thg _ f => f.sz
  | _ => True
def spIss (K : PySem.W.Frag) : Sp := fun vs H Q _ => ∃ v : V, vs = [v] ∧ ((∃ z : Str, v = .str z ∧ z.cps.size ≤ 100000 ∧ ∀ H', Same H H' → Q (.bl (plainS z)) H') ∨ (∃ t, TyX K H v t ∧ PySem.W.kitOne K t (.type "str") = some false ∧ Q (.bl false) H))
def spIsl (K : PySem.W.Frag) (a : Ad) : Sp := fun vs H Q _ => ∃ v : V, vs = [v] ∧ ((∃ l : Lf, LfAt K a H l v ∧ smallL l ∧ ∀ H', Same H H' → Q (.bl (okL l)) H') ∨ ((∃ p n, v = .ref p ∧ TyX K H (.ref p) (.type n) ∧ (n = "tuple" ∨ n = "dict")) ∧ ∀ H', Same H H' → Q (.bl false) H'))
section
variable {P : Program} {w : World} {K : PySem.W.Frag} {mg : Str → Option Value} {base : Heap} {a : Ad}
theorem scIss : FnScope ["thing", "sign"] ["thing"] (defScope sIss) := ⟨rfl, rfl, rfl, by decide +kernel, rfl, by decide +kernel, by decide +kernel⟩
theorem ok_iss (D : Df K a) (T : Txt K mg a) : FnOk P w K mg base CX0 2 a.fIss D.dIss ["thing"] (spIss K) := by
  have GArp : FnOk P w K mg base CX0 1 a.fArp D.dArp ["units"] (spArp K) := ok_arp D T
  refine D.FIss.ok scIss (fun vs H Q E h => ?_) (fun cdv A outer s H vs Q E hr h => ?_)
  · obtain ⟨v, rfl, _⟩ := h
    rfl
  · obtain ⟨v, rfl, h⟩ := h
    have hr1 : Room 1 _ := hr.mono (by decide)
    refine ⟨_, (pss_one (ps_ret (pe_and (pe_callB call_isi (by rfl) T.bisinstance (by decide +kernel) (pa_cons (pv 0) (pa_cons (pe_bltn (v := .ty "str") rfl T.bstr (by decide +kernel) rfl) pa_nil))) (pe_one (pe_call GArp hr1 rfl T.gArp D.FArp.kp D.bArp .nil pass0 (pa_cons (pe_lc (own := [("sign", 1)]) (g := (gName 1)) (tt := tYes) rfl scIss.nd (pi_str (pv 0)) (blkOk_by (N := ["thing", "sign"]) (sc := defScope sIss) (by decide +kernel)) (fun _ _ _ _ _ => (pg_name (i := 1) scIss.nd rfl (.inl rfl))) (fun _ _ _ _ _ => pts_nil) (fun _ _ _ _ _ => (pe_callB call_ord (by rfl) T.bord (by decide +kernel) (pa_cons (pv 1) pa_nil)))) pa_nil)))))), ?_⟩
    rcases h with ⟨z, rfl, hz, k⟩ | ⟨t, h1, h2, k⟩
    · refine ⟨_, rfl, .str z, .ty "str", _, _, true, rfl, .ty _, .base (.str z), kit_ty (by decide +kernel), true, rfl, iteT ?_⟩
      refine ⟨_, rfl, z, rfl, fun DL hDL => lc_it (walk_str (z := z))
        (fun i H' => H' DL = some (.lst (vInts (z.cps.toList.take i))) ∧ Same H H') ⟨by rw [List.take_zero]; exact upd_same, same_new (Same.refl H) hDL⟩ (fun _ _ _ _ => True.intro) ?_ ?_⟩
      · rintro i y H1 H2 hi ⟨e1, s1⟩ ⟨rfl, c, hc, rfl⟩
        have hc' : z.cps.toList[i]? = some c := by rw [Array.getElem?_toList]; exact hc
        refine ⟨rfl, ⟨_, rfl, _, rfl, rfl, _, e1, ?_, ?_, ?_⟩⟩
        · rw [vInts_len, List.length_take, Array.length_toList]
          exact Nat.lt_of_lt_of_le (by omega : _ < z.cps.size) (Nat.le_trans hz (by decide))
        · rw [upd_same, List.take_add_one, hc', vInts_app]
          rfl
        · intro b' o' e'
          rw [upd_ne (ne_of_none e' hDL)]
          exact s1 _ _ e'
      rintro H1 ⟨e1, s1⟩
      rw [List.take_of_length_le (by rw [Array.length_toList]; exact Nat.le_refl _)] at e1
      refine ⟨DL, intsN z.cps.toList, rfl, .inl (.inl (.inl ?_)), by rw [List.length_map, Array.length_toList]; exact hz, fun H2 s2 => ?_⟩
      · rw [intsN_V]
        exact e1
      · rw [plain_all]
        exact k H2 (s1.trans s2)
    · exact ⟨_, rfl, v, .ty "str", t, _, false, rfl, .ty _, h1, h2, false, rfl, iteF k⟩
theorem alA (T : Txt K mg a) (y : Wy) : PySem.W.kitAny K (.ref (y.cls a)) [.type "bool", .ref a.cWide, .ref a.cData, .ref a.cUid, .ref a.cReal, .ref a.cDate] = some true := by
  cases y
  · exact T.alWide
  · exact T.alData
  · exact T.alUid
  · exact T.alReal
  · exact T.alDate
theorem scIsl : FnScope ["thing"] ["thing"] (defScope sIsl) := ⟨rfl, rfl, rfl, by decide +kernel, rfl, by decide +kernel, by decide +kernel⟩
theorem ok_isl (D : Df K a) (T : Txt K mg a) : FnOk P w K mg base CX0 3 a.fIsl D.dIsl ["thing"] (spIsl K a) := by
  have GIss : FnOk P w K mg base CX0 2 a.fIss D.dIss ["thing"] (spIss K) := ok_iss D T
  have GIsb : FnOk P w K mg base CX0 2 a.fIsb D.dIsb ["thing", "least", "most"] (spBtw K) := ok_isb D T
  refine D.FIsl.ok scIsl (fun vs H Q E h => ?_) (fun cdv A outer s H vs Q E hr h => ?_)
  · obtain ⟨v, rfl, _⟩ := h
    rfl
  · obtain ⟨v, rfl, h⟩ := h
    obtain ⟨t1, kLEAST_INTEGER⟩ := T.kLEAST_INTEGER
    obtain ⟨t2, kGREATEST⟩ := T.kGREATEST
    have hr2 : Room 2 _ := hr.mono (by decide)
    refine ⟨_, (pss_cons (ps_if (PW.pt (pw_or (pt_cmpR op_isN (pv 0) pe_non (nomark _)) (pw_or1 (pt_val (pe_callB call_isiT (by rfl) T.bisinstance (by decide +kernel) (pa_cons (pv 0) (pa_cons (pe_tup (pa_cons (pe_bltn (v := .ty "bool") rfl T.bbool (by decide +kernel) rfl) (pa_cons (pe_glob (v := .ref a.cWide) rfl T.gcWide rfl) (pa_cons (pe_glob (v := .ref a.cData) rfl T.gcData rfl) (pa_cons (pe_glob (v := .ref a.cUid) rfl T.gcUid rfl) (pa_cons (pe_glob (v := .ref a.cReal) rfl T.gcReal rfl) (pa_cons (pe_glob (v := .ref a.cDate) rfl T.gcDate rfl) pa_nil))))))) pa_nil))))))) (pss_one (ps_ret pe_bl)) pss_nil) (pss_one (ps_ret (pe_or (pe_call GIss hr rfl T.gIss D.FIss.kp D.bIss .nil pass0 (pa_cons (pv 0) pa_nil)) (pe_one (pe_call GIsb hr2 rfl T.gIsb D.FIsb.kp D.bIsb .nil pass0 (pa_cons (pv 0) (pa_cons (pe_glob (v := .int (-9223372036854775808)) rfl kLEAST_INTEGER ⟨_, rfl⟩) (pa_cons (pe_glob (v := .int 18446744073709551615) rfl kGREATEST ⟨_, rfl⟩) pa_nil))))))))), ?_⟩
    have clsL : Paired ClsV [.ty "bool", .ref a.cWide, .ref a.cData, .ref a.cUid, .ref a.cReal, .ref a.cDate] [.type "bool", .ref a.cWide, .ref a.cData, .ref a.cUid, .ref a.cReal, .ref a.cDate] := .cons (.ty _) (.cons (.own _) (.cons (.own _) (.cons (.own _) (.cons (.own _) (.cons (.own _) .nil)))))
    rcases h with ⟨l, hL, hs, k⟩ | ⟨⟨p, n, rfl, ty, hn⟩, k⟩
    · cases l with
      | non =>
        cases hL
        exact ⟨_, rfl, rfl, _, rfl, iteT (iteT (k H (Same.refl H)))⟩
      | bl b =>
        cases hL
        refine ⟨_, rfl, rfl, _, rfl, iteF ⟨_, rfl, by show 6 ≤ sizeLine; decide, fun tp htp => ?_⟩⟩
        refine ⟨.bl b, tp, _, _, _, true, rfl, upd_same, clsL, .base (.bl b), T.al_bool, true, rfl, iteT (k _ (same_new (Same.refl H) htp))⟩
      | int i =>
        cases hL
        refine ⟨_, rfl, rfl, _, rfl, iteF ⟨_, rfl, by show 6 ≤ sizeLine; decide, fun tp htp => ?_⟩⟩
        refine ⟨.int i, tp, _, _, _, false, rfl, upd_same, clsL, .base (.int i), T.al_int, false, rfl, iteF ?_⟩
        refine ⟨_, rfl, .int i, rfl, .inr ⟨_, .base (.int i), kit_ty (by decide +kernel), ?_⟩⟩
        refine ⟨false, rfl, iteF ?_⟩
        exact ⟨_, rfl, .int i, _, _, rfl, .inl ⟨i, rfl⟩, k _ (same_new (Same.refl H) htp)⟩
      | str z =>
        cases hL
        refine ⟨_, rfl, rfl, _, rfl, iteF ⟨_, rfl, by show 6 ≤ sizeLine; decide, fun tp htp => ?_⟩⟩
        refine ⟨.str z, tp, _, _, _, false, rfl, upd_same, clsL, .base (.str z), T.al_str, false, rfl, iteF ?_⟩
        refine ⟨_, rfl, .str z, rfl, .inl ⟨z, rfl, hs, fun H2 s2 => ?_⟩⟩
        have s3 := (same_new (Same.refl H) htp).trans s2
        refine ⟨plainS z, rfl, ?_⟩
        have kk := k H2 s3
        cases e : plainS z with
        | true =>
          rw [show okL (.str z) = true from e] at kk
          exact iteT kk
        | false =>
          rw [show okL (.str z) = false from e] at kk
          refine iteF ⟨_, rfl, .str z, _, _, rfl, .inr ⟨(fun i z => nomatch z), "str", .base (.str z), by simp⟩, kk⟩
      | thg y f =>
        obtain ⟨p, rfl, hT⟩ := hL
        refine ⟨_, rfl, rfl, _, rfl, iteF ⟨_, rfl, by show 6 ≤ sizeLine; decide, fun tp htp => ?_⟩⟩
        have s1 := same_new (o := .tup [.ty "bool", .ref a.cWide, .ref a.cData, .ref a.cUid, .ref a.cReal, .ref a.cDate]) (Same.refl H) htp
        refine ⟨.ref p, tp, _, _, _, true, rfl, upd_same, clsL, th_ty T (hT.extN (.of s1)), alA T y, true, rfl, iteT (k _ s1)⟩
    · refine ⟨_, rfl, rfl, _, rfl, iteF ⟨_, rfl, by show 6 ≤ sizeLine; decide, fun tp htp => ?_⟩⟩
      have s1 := same_new (o := .tup [.ty "bool", .ref a.cWide, .ref a.cData, .ref a.cUid, .ref a.cReal, .ref a.cDate]) (Same.refl H) htp
      have ty := tyX_x ty (.of s1)
      refine ⟨.ref p, tp, _, _, _, false, rfl, upd_same, clsL, ty, ?_, false, rfl, iteF ?_⟩
      · rcases hn with rfl | rfl
        · exact T.al_tuple
        · exact T.al_dict
      refine ⟨_, rfl, .ref p, rfl, .inr ⟨_, ty, ?_, ?_⟩⟩
      · rcases hn with rfl | rfl <;> exact kit_ty (by decide +kernel)
      refine ⟨false, rfl, iteF ?_⟩
      refine ⟨_, rfl, .ref p, _, _, rfl, .inr ⟨(fun i z => nomatch z), n, ty, ?_⟩, k _ s1⟩
      rcases hn with rfl | rfl <;> simp
end
end G58.V

set_option Elab.async false
set_option linter.all false
set_option pp.maxSteps 2500
set_option maxRecDepth 100000
set_option maxHeartbeats 4000000
/-! What a text writes and is no value: an object of a class without fields. -/
namespace G58.V
open PySem PySem.Spec PyProof.Rows L2 LamX
def spIsiO (K : PySem.W.Frag) : Sp := fun vs H Q _ => ∃ (v : V) (t : Value), vs = [v] ∧ TyX K H v t ∧ PySem.W.kitOne K t (.type "int") = some false ∧ Q (.bl false) H
def spBtwO (K : PySem.W.Frag) : Sp := fun vs H Q _ => ∃ (v : V) (t : Value) (lo hi : Int), vs = [v, .int lo, .int hi] ∧ TyX K H v t ∧ PySem.W.kitOne K t (.type "int") = some false ∧ Q (.bl false) H
def spIslO (a : Ad) : Sp := fun vs H Q _ => ∃ p dx, vs = [.ref p] ∧ H p = some (.ins a.cUnfit dx []) ∧ ∀ H', Same H H' → Q (.bl false) H'
def spIsl2 (K : PySem.W.Frag) (a : Ad) : Sp := fun vs H Q _ => ∃ v : V, vs = [v] ∧ (((∃ l : Lf, LfAt K a H l v ∧ smallL l ∧ ∀ H', Same H H' → Q (.bl (okL l)) H') ∨ ((∃ p n, v = .ref p ∧ TyX K H (.ref p) (.type n) ∧ (n = "tuple" ∨ n = "dict")) ∧ ∀ H', Same H H' → Q (.bl false) H')) ∨ ((∃ p dx, v = .ref p ∧ H p = some (.ins a.cUnfit dx [])) ∧ ∀ H', Same H H' → Q (.bl false) H'))
section
variable {P : Program} {w : World} {K : PySem.W.Frag} {mg : Str → Option Value} {base : Heap} {a : Ad}
theorem od_ty (T : Txt K mg a) {p dx : Addr} {H : Hp} (h : H p = some (.ins a.cUnfit dx [])) : TyX K H (.ref p) (.ref a.cUnfit) := .base (.ins h ⟨T.pgUnfit, T.hdUnfit, T.poUnfit, T.saUnfit⟩ T.haUnfit T.hn T.htk T.hmUnfit)
theorem ok_isiO (D : Df K a) (T : Txt K mg a) : FnOk P w K mg base CX0 1 a.fIsi D.dIsi ["thing"] (spIsiO K) := by
  refine D.FIsi.ok scIsi (fun vs H Q E h => ?_) (fun cdv A outer s H vs Q E hr h => ?_)
  · obtain ⟨v, t, rfl, _⟩ := h
    rfl
  · obtain ⟨v, t, rfl, ty, hk, k⟩ := h
    refine ⟨_, (pss_one (ps_ret (pe_and (pe_callB call_isi (by rfl) T.bisinstance (by decide +kernel) (pa_cons (pv 0) (pa_cons (pe_bltn (v := .ty "int") rfl T.bint (by decide +kernel) rfl) pa_nil))) (pe_one (pe_not (pe_callB call_isi (by rfl) T.bisinstance (by decide +kernel) (pa_cons (pv 0) (pa_cons (pe_bltn (v := .ty "bool") rfl T.bbool (by decide +kernel) rfl) pa_nil)))))))), ?_⟩
    exact ⟨_, rfl, v, .ty "int", _, _, false, rfl, .ty _, ty, hk, false, rfl, iteF k⟩
theorem ok_isbO (D : Df K a) (T : Txt K mg a) : FnOk P w K mg base CX0 2 a.fIsb D.dIsb ["thing", "least", "most"] (spBtwO K) := by
  have GIsi : FnOk P w K mg base CX0 1 a.fIsi D.dIsi ["thing"] (spIsiO K) := ok_isiO D T
  refine D.FIsb.ok scIsb (fun vs H Q E h => ?_) (fun cdv A outer s H vs Q E hr h => ?_)
  · obtain ⟨v, t, lo, hi, rfl, _⟩ := h
    rfl
  · obtain ⟨v, t, lo, hi, rfl, ty, hk, k⟩ := h
    refine ⟨_, (pss_one (ps_ret (pe_and (pe_call GIsi hr rfl T.gIsi D.FIsi.kp D.bIsi .nil pass0 (pa_cons (pv 0) pa_nil)) (pe_one (pe_chain op_le op_le (pv 1) (pv 0) (pv 2)))))), ?_⟩
    exact ⟨_, rfl, v, t, rfl, ty, hk, _, rfl, iteF k⟩
theorem ok_islO (D : Df K a) (T : Txt K mg a) : FnOk P w K mg base CX0 3 a.fIsl D.dIsl ["thing"] (spIslO a) := by
  have GIss : FnOk P w K mg base CX0 2 a.fIss D.dIss ["thing"] (spIss K) := ok_iss D T
  have GIsb : FnOk P w K mg base CX0 2 a.fIsb D.dIsb ["thing", "least", "most"] (spBtwO K) := ok_isbO D T
  refine D.FIsl.ok scIsl (fun vs H Q E h => ?_) (fun cdv A outer s H vs Q E hr h => ?_)
  · obtain ⟨p, dx, rfl, _⟩ := h
    rfl
  · obtain ⟨p, dx, rfl, hp, k⟩ := h
    obtain ⟨t1, kLEAST_INTEGER⟩ := T.kLEAST_INTEGER
    obtain ⟨t2, kGREATEST⟩ := T.kGREATEST
    have hr2 : Room 2 _ := hr.mono (by decide)
    refine ⟨_, (pss_cons (ps_if (PW.pt (pw_or (pt_cmpR op_isN (pv 0) pe_non (nomark _)) (pw_or1 (pt_val (pe_callB call_isiT (by rfl) T.bisinstance (by decide +kernel) (pa_cons (pv 0) (pa_cons (pe_tup (pa_cons (pe_bltn (v := .ty "bool") rfl T.bbool (by decide +kernel) rfl) (pa_cons (pe_glob (v := .ref a.cWide) rfl T.gcWide rfl) (pa_cons (pe_glob (v := .ref a.cData) rfl T.gcData rfl) (pa_cons (pe_glob (v := .ref a.cUid) rfl T.gcUid rfl) (pa_cons (pe_glob (v := .ref a.cReal) rfl T.gcReal rfl) (pa_cons (pe_glob (v := .ref a.cDate) rfl T.gcDate rfl) pa_nil))))))) pa_nil))))))) (pss_one (ps_ret pe_bl)) pss_nil) (pss_one (ps_ret (pe_or (pe_call GIss hr rfl T.gIss D.FIss.kp D.bIss .nil pass0 (pa_cons (pv 0) pa_nil)) (pe_one (pe_call GIsb hr2 rfl T.gIsb D.FIsb.kp D.bIsb .nil pass0 (pa_cons (pv 0) (pa_cons (pe_glob (v := .int (-9223372036854775808)) rfl kLEAST_INTEGER ⟨_, rfl⟩) (pa_cons (pe_glob (v := .int 18446744073709551615) rfl kGREATEST ⟨_, rfl⟩) pa_nil))))))))), ?_⟩
    have clsL : Paired ClsV [.ty "bool", .ref a.cWide, .ref a.cData, .ref a.cUid, .ref a.cReal, .ref a.cDate] [.type "bool", .ref a.cWide, .ref a.cData, .ref a.cUid, .ref a.cReal, .ref a.cDate] := .cons (.ty _) (.cons (.own _) (.cons (.own _) (.cons (.own _) (.cons (.own _) (.cons (.own _) .nil)))))
    refine ⟨_, rfl, rfl, _, rfl, iteF ⟨_, rfl, by show 6 ≤ sizeLine; decide, fun tp htp => ?_⟩⟩
    have s1 := same_new (o := .tup [.ty "bool", .ref a.cWide, .ref a.cData, .ref a.cUid, .ref a.cReal, .ref a.cDate]) (Same.refl H) htp
    have ty := od_ty T (s1 _ _ hp)
    refine ⟨.ref p, tp, _, _, _, false, rfl, upd_same, clsL, ty, T.alUnfit, false, rfl, iteF ?_⟩
    refine ⟨_, rfl, .ref p, rfl, .inr ⟨_, ty, T.koUnfit_str, ?_⟩⟩
    refine ⟨false, rfl, iteF ?_⟩
    exact ⟨_, rfl, .ref p, _, _, _, rfl, ty, T.koUnfit_int, k _ s1⟩
theorem ok_isl2 (D : Df K a) (T : Txt K mg a) : FnOk P w K mg base CX0 3 a.fIsl D.dIsl ["thing"] (spIsl2 K a) := by
  have G1 : FnOk P w K mg base CX0 3 a.fIsl D.dIsl ["thing"] (spIsl K a) := ok_isl D T
  have G2 : FnOk P w K mg base CX0 3 a.fIsl D.dIsl ["thing"] (spIslO a) := ok_islO D T
  have h1 : ∀ {vs H Q E}, spIsl2 K a vs H Q E → spIsl K a vs H Q E ∨ spIslO a vs H Q E := fun {vs H Q E} h => by
    obtain ⟨v, e, h | ⟨⟨p, dx, e2, hp⟩, k⟩⟩ := h
    · exact .inl ⟨v, e, h⟩
    · subst e2
      exact .inr ⟨p, dx, e, hp, k⟩
  refine ⟨fun vs H Q E h => (h1 h).elim (G1.len _ _ _ _) (G2.len _ _ _ _), fun A outer s H args us vs Q E hr he hb hv h => ?_⟩
  rcases h1 h with h | h
  · exact G1.run A outer s H args us vs Q E hr he hb hv h
  · exact G2.run A outer s H args us vs Q E hr he hb hv h
end
end G58.V

set_option Elab.async false
set_option linter.all false
set_option maxRecDepth 100000
set_option maxHeartbeats 4000000
/-! The package: errors, numbers, bytes. -/
namespace G58
open PySem PySem.Spec PyProof.Rows L2
abbrev plc (v : V) : List (Str × V) := [(("place" : Str), v)]
abbrev wrd (u v : V) : List (Str × V) := [(("place" : Str), v), (("word" : Str), u)]
def spEI (C : Addr) : Sp := fun vs H Q _ => ∃ (a : Addr) (v : V), vs = [.ref a, v] ∧ H a = some (exo a C none) ∧ ∀ dx, H dx = none → dx ≠ a → Q .non (upd (upd H dx (exd dx (plc v))) a (exo a C (some dx)))
def spEI2 (C : Addr) : Sp := fun vs H Q _ => ∃ (a : Addr) (u v : V), vs = [.ref a, u, v] ∧ H a = some (exo a C none) ∧ ∀ dx, H dx = none → dx ≠ a → Q .non (upd (upd (upd H dx (exd dx [(("word" : Str), u)])) a (exo a C (some dx))) dx (exd dx (wrd u v)))
theorem mk_read2 {C : Addr} {u v : V} {H1 : Hp} {Qx : XK} (h : ∀ d, H1 d = none → Qx (.ref C) (some d) (upd H1 d (.xd (wrd u v)))) (x : Addr) (hx : H1 x = none) :
    spEI2 C (.ref x :: ([u, v] ++ [])) (upd H1 x (exo x C none)) (fun y H2 => y = .non ∧ ∃ (d : Addr) (fs : List (Str × V)), H2 x = some (exo x C (some d)) ∧ H2 d = some (exd d fs) ∧ H1 d = none ∧ Qx (.ref C) (some d) (upd (del H2 x) d (.xd fs))) (fun _ _ _ => False) := by
  refine ⟨x, u, v, rfl, upd_same, fun dx h1 h2 => ?_⟩
  rw [upd_ne h2] at h1
  refine ⟨rfl, dx, wrd u v, by rw [upd_ne (Ne.symm h2), upd_same], upd_same, h1, ?_⟩
  have e : upd (del (upd (upd (upd (upd H1 x (exo x C none)) dx (exd dx [(("word" : Str), u)])) x (exo x C (some dx))) dx (exd dx (wrd u v))) x) dx (.xd (wrd u v)) = upd H1 dx (.xd (wrd u v)) := by
    funext b
    by_cases hb : b = dx
    · rw [hb, upd_same, upd_same]
    · rw [upd_ne hb, upd_ne hb]
      by_cases hc : b = x
      · rw [hc, del_same, hx]
      · rw [del_ne hc, upd_ne hb, upd_ne hc, upd_ne hb, upd_ne hc]
  rw [e]
  exact h dx h1
/-- Torn(z, i) leaves -/
def Out2 (C : Addr) (H : Hp) (E : XK) (z : Str) (i : Int) : Prop := ∀ d H', Same H H' → H' d = some (.xd (wrd (.str z) (.int i))) → E (.ref C) (some d) H'
theorem Out2.same {C : Addr} {H H' : Hp} {E : XK} {z : Str} {i : Int} (h : Out2 C H E z i) (s : Same H H') : Out2 C H' E z i := fun d H2 s2 hd => h d H2 (s.trans s2) hd
theorem Out2.go {C : Addr} {H : Hp} {E : XK} {z : Str} {i : Int} (h : Out2 C H E z i) : ∀ d, H d = none → E (.ref C) (some d) (upd H d (.xd (wrd (.str z) (.int i)))) := fun d hd => h d _ (same_new (Same.refl H) hd) upd_same
def YEn (xs : List V) : Nat → Hp → V → Hp → Prop := fun i H v H' => ∃ T y, v = .ref T ∧ H T = none ∧ H' = upd H T (.tup [.int (i : Nat), y]) ∧ xs[i]? = some y
theorem enL {K : PySem.W.Frag} {p : Addr} {xs : List V} : Walk (Ite K p) xs.length (fun H => SqL K H p xs) (YEn xs) :=
  walk_enum.mono (fun _ h => h) fun i H v H' _ _ y => by
    obtain ⟨T, x, z, h1, h2, h3, h4, h5⟩ := y
    cases Option.some.inj h4
    exact ⟨T, z, h1, h2, h3, h5⟩
theorem enT {K : PySem.W.Frag} {p : Addr} {xs : List V} : Walk (ItP xs.length (fun H => SqT K H p xs) (fun i x y => x = .int (i : Nat) ∧ xs[i]? = some y)) xs.length (fun H => SqT K H p xs) (YEn xs) :=
  walkP.mono (fun _ h => h) fun i H v H' _ _ y => by
    obtain ⟨T, x, z, h1, h2, h3, rfl, h5⟩ := y
    exact ⟨T, z, h1, h2, h3, h5⟩
end G58

set_option Elab.async false
set_option linter.all false
set_option pp.maxSteps 1500
set_option maxRecDepth 100000
set_option maxHeartbeats 4000000
/-! sorted of pairs (tuple of ints, int): some arrangement. -/
namespace G58
open PySem PySem.Spec PyProof.Rows L2 Srt
theorem nested_ints {h : Heap} {us : List Value} {ns : List Int} (r : IntsAre us ns) : NestedAll h (ns.map NestedKey.num) us := by
  induction r with
  | nil => exact .nil
  | cons n t _ ih => exact .cons (.int _ _) ih
/-! ### the order -/
theorem lx_irr : ∀ x : List Int, HT.lexLt x x = false
  | [] => rfl
  | a :: x => by rw [HT.lexLt_cons, if_pos rfl]; exact lx_irr x
theorem lx_asym : ∀ x y : List Int, HT.lexLt x y = true → HT.lexLt y x = false
  | [], [], h => by cases h
  | [], _ :: _, _ => rfl
  | _ :: _, [], h => by cases h
  | a :: x, b :: y, h => by
    rw [HT.lexLt_cons] at h ⊢
    by_cases e : a = b
    · rw [if_pos e] at h
      rw [if_pos e.symm]
      exact lx_asym x y h
    · rw [if_neg e] at h
      rw [if_neg (fun z => e z.symm)]
      have := of_decide_eq_true h
      exact decide_eq_false (by omega)
theorem lx_tri : ∀ x y : List Int, HT.lexLt x y = false → HT.lexLt y x = false → x = y
  | [], [], _, _ => rfl
  | [], _ :: _, h, _ => by cases h
  | _ :: _, [], _, h => by cases h
  | a :: x, b :: y, h1, h2 => by
    rw [HT.lexLt_cons] at h1 h2
    by_cases e : a = b
    · rw [if_pos e] at h1
      rw [if_pos e.symm] at h2
      rw [e, lx_tri x y h1 h2]
    · rw [if_neg e] at h1
      rw [if_neg (fun z => e z.symm)] at h2
      have := of_decide_eq_false h1
      have := of_decide_eq_false h2
      omega
theorem lx_trans : ∀ x y z : List Int, HT.lexLt x y = true → HT.lexLt y z = true → HT.lexLt x z = true
  | [], [], _, h, _ => by cases h
  | [], _ :: _, [], _, h => by cases h
  | [], _ :: _, _ :: _, _, _ => rfl
  | _ :: _, [], _, h, _ => by cases h
  | _ :: _, _ :: _, [], _, h => by cases h
  | a :: x, b :: y, c :: z, h1, h2 => by
    rw [HT.lexLt_cons] at h1 h2 ⊢
    by_cases e : a = b
    · rw [if_pos e] at h1
      by_cases e2 : b = c
      · rw [if_pos e2] at h2
        rw [if_pos (e.trans e2)]
        exact lx_trans x y z h1 h2
      · rw [if_neg e2] at h2
        rw [if_neg (fun q => e2 (e.symm.trans q)), e]
        exact h2
    · rw [if_neg e] at h1
      have l1 := of_decide_eq_true h1
      by_cases e2 : b = c
      · rw [if_neg (fun q => e (q.trans e2.symm)), ← e2]
        exact h1
      · rw [if_neg e2] at h2
        have l2 := of_decide_eq_true h2
        rw [if_neg (by omega)]
        exact decide_eq_true (by omega)
def tiLt (p q : List Int × Int) : Bool := if p.1 = q.1 then decide (p.2 < q.2) else HT.lexLt p.1 q.1
theorem tiLt_iff {p q : List Int × Int} : tiLt p q = true ↔ (p.1 = q.1 ∧ p.2 < q.2) ∨ HT.lexLt p.1 q.1 = true := by
  unfold tiLt
  by_cases e : p.1 = q.1
  · rw [if_pos e, decide_eq_true_eq]
    refine ⟨fun h => .inl ⟨e, h⟩, fun h => h.elim (fun z => z.2) fun z => ?_⟩
    rw [e, lx_irr] at z
    cases z
  · rw [if_neg e]
    exact ⟨.inr, fun h => h.elim (fun z => absurd z.1 e) id⟩
theorem tiLt_tot {p q : List Int × Int} (h : tiLt p q = false) : tiLt q p = true ∨ p = q := by
  have h' : ¬ ((p.1 = q.1 ∧ p.2 < q.2) ∨ HT.lexLt p.1 q.1 = true) := fun z => by rw [tiLt_iff.mpr z] at h; cases h
  by_cases e : p.1 = q.1
  · by_cases e2 : p.2 = q.2
    · exact .inr (Prod.ext e e2)
    · exact .inl (tiLt_iff.mpr (.inl ⟨e.symm, by have : ¬ p.2 < q.2 := fun z => h' (.inl ⟨e, z⟩); omega⟩))
  · refine .inl (tiLt_iff.mpr (.inr ?_))
    cases z : HT.lexLt q.1 p.1 with
    | true => rfl
    | false =>
      have w : HT.lexLt p.1 q.1 = false := by
        cases w : HT.lexLt p.1 q.1 with
        | true => exact absurd (.inr w) h'
        | false => rfl
      exact absurd (lx_tri _ _ w z) e
theorem tiLt_trans {p q r : List Int × Int} (h1 : tiLt p q = true) (h2 : tiLt q r = true) : tiLt p r = true := by
  rcases tiLt_iff.mp h1 with ⟨a, b⟩ | a
  · rcases tiLt_iff.mp h2 with ⟨c, d⟩ | c
    · exact tiLt_iff.mpr (.inl ⟨a.trans c, by omega⟩)
    · exact tiLt_iff.mpr (.inr (by rw [a]; exact c))
  · rcases tiLt_iff.mp h2 with ⟨c, d⟩ | c
    · exact tiLt_iff.mpr (.inr (by rw [← c]; exact a))
    · exact tiLt_iff.mpr (.inr (lx_trans _ _ _ a c))
theorem tiLt_irr (p : List Int × Int) : tiLt p p = false := by
  unfold tiLt
  rw [if_pos rfl]
  exact decide_eq_false (Int.lt_irrefl _)
theorem tiLt_asym {p q : List Int × Int} (h : tiLt p q = true) : tiLt q p = false := by
  cases z : tiLt q p with
  | false => rfl
  | true =>
    have := tiLt_trans h z
    rw [tiLt_irr] at this
    cases this
theorem swo_ti {α : Type} (k : α → List Int × Int) : SrtO.Swo (fun v u => tiLt (k v) (k u)) := by
  refine ⟨fun x y h => tiLt_asym h, fun x y z h1 h2 => ?_⟩
  cases w : tiLt (k z) (k x) with
  | false => rfl
  | true =>
    rcases tiLt_tot h1 with a | a
    · have := tiLt_trans w a
      rw [h2] at this
      cases this
    · rw [← a] at w
      rw [w] at h2
      cases h2
/-- a tuple of a tuple of ints and an int -/
def IsTI (h : Heap) (v : Value) (xs : List Int) (y : Int) : Prop := ∃ a o b its u n, v = .ref a ∧ h.get? a = some o ∧ o.cls = .type "tuple" ∧ o.data = .seq #[.ref b, .int y u] n ∧ IsTup h b its ∧ IntsAre its.toList xs
theorem IsTI.keeps {h h' : Heap} {v : Value} {xs : List Int} {y : Int} (p : IsTI h v xs y) (k : ∀ b o, h.get? b = some o → o.cls = .type "tuple" → h'.get? b = some o) : IsTI h' v xs y := by
  obtain ⟨a, o, b, its, u, n, e, ho, hc, hd, ⟨o2, ho2, hc2, hd2⟩, hi⟩ := p
  exact ⟨a, o, b, its, u, n, e, k _ _ ho hc, hc, hd, ⟨o2, k _ _ ho2 hc2, hc2, hd2⟩, hi⟩
section
variable {prog : Program} {w : World} {A : Around} {E : Value → Shared → Prop} {s : Shared}
theorem depth_num : ∀ ns : List Int, NestedKey.depthAll (ns.map NestedKey.num) = 0
  | [] => by
    rw [List.map_nil]
    unfold NestedKey.depthAll
    rfl
  | n :: ns => by
    rw [List.map_cons]
    unfold NestedKey.depthAll
    rw [depth_num ns]
    unfold NestedKey.depth
    rfl
theorem beq_nums : ∀ (x y : List Int), NestedKey.beqAll (x.map NestedKey.num) (y.map NestedKey.num) = decide (x = y)
  | [], [] => by simp [NestedKey.beqAll]
  | [], _ :: _ => by simp [NestedKey.beqAll]
  | _ :: _, [] => by simp [NestedKey.beqAll]
  | a :: x, b :: y => by
    have ih := beq_nums x y
    rw [List.map_cons, List.map_cons, NestedKey.beqAll, ih]
    simp [NestedKey.beq]
theorem ti_cmp {vs : List Value} {k : Value → List Int × Int} (hu : A.units + 1 < cLine) (hp : ∀ v ∈ vs, IsTI s.heap v (k v).1 (k v).2) : SrtO.Cmp prog w A s (tuples' false) (fun p => p.1 ∈ vs) (SrtO.lt2 fun v u => tiLt (k v) (k u)) := by
  intro p q hm hm'
  have g1 := hp _ hm
  have g2 := hp _ hm'
  show wpAny (model prog w) A (keyLt' (tuples' false) p.1 q.1) (fun r s' => s' = s ∧ r = tiLt (k p.1) (k q.1)) (fun _ _ => False) s
  unfold tiLt
  generalize (k p.1).1 = x at g1 ⊢
  generalize (k p.1).2 = y at g1 ⊢
  generalize (k q.1).1 = x' at g2 ⊢
  generalize (k q.1).2 = y' at g2 ⊢
  obtain ⟨a, o, b, its, u, n, e, ho, hc, hd, hb, hi⟩ := g1
  obtain ⟨a', o', b', its', u', n', e', ho', hc', hd', hb', hi'⟩ := g2
  rw [e, e']
  have hk : NestedIs s.heap (.tup (x.map NestedKey.num)) (.ref b) := by
    obtain ⟨ob, h1, h2, m, h3⟩ := hb
    exact .tup h1 h2 h3 (nested_ints hi)
  have hk' : NestedIs s.heap (.tup (x'.map NestedKey.num)) (.ref b') := by
    obtain ⟨ob, h1, h2, m, h3⟩ := hb'
    exact .tup h1 h2 h3 (nested_ints hi')
  have hde : (NestedKey.tup (x.map NestedKey.num)).depth = 1 := by
    unfold NestedKey.depth
    rw [depth_num]
  have eqk := eqAt_key _ _ A s _ _ hk hk' (by rw [hde]; omega)
  have eb : NestedKey.beq (.tup (x.map NestedKey.num)) (.tup (x'.map NestedKey.num)) = decide (x = x') := by
    rw [NestedKey.beq]
    exact beq_nums x x'
  refine PySem.W.kat_lt ho hd ho' hd' ?_
  show PySem.W.KatLex prog w A false (decide (2 < 2)) _ [(.ref b, .ref b'), (.int y u, .int y' u')] 0 s
  refine PySem.W.kat_cons (eqk prog w _ _ ?_)
  refine PySem.W.kat_go (fun e1 => ?_) (fun e1 => ?_)
  · have ex : x = x' := by
      rw [eb] at e1
      exact of_decide_eq_true e1
    refine PySem.W.kat_yes (PySem.W.kat_cons (SeqAt.EqAt.int_int y u y' u' prog w _ _ ?_))
    refine PySem.W.kat_go (fun e2 => ?_) (fun e2 => ?_)
    · have ey : y = y' := by simpa using e2
      have e3 : (if x = x' then decide (y < y') else HT.lexLt x x') = false := by
        rw [if_pos ex, ey]
        exact decide_eq_false (Int.lt_irrefl _)
      exact PySem.W.kat_yes (PySem.W.kat_nil ⟨rfl, e3.symm⟩)
    · have e3 : (if x = x' then decide (y < y') else HT.lexLt x x') = decide (y < y') := if_pos ex
      refine PySem.W.kat_no (PySem.W.kat_one _ _ (PyProof.Rows.lt_int ?_))
      exact (show s = s ∧ decide (y < y') = (if x = x' then decide (y < y') else HT.lexLt x x') from ⟨rfl, e3.symm⟩)
  · have ex : ¬ x = x' := by
      rw [eb] at e1
      exact fun z => by rw [decide_eq_true z] at e1; cases e1
    have e3 : (if x = x' then decide (y < y') else HT.lexLt x x') = HT.lexLt x x' := if_neg ex
    refine PySem.W.kat_no (PySem.W.kat_one _ _ (HT.lt_tupInts hb hb' hi hi' (by omega) ?_))
    exact (show s = s ∧ HT.lexLt x x' = (if x = x' then decide (y < y') else HT.lexLt x x') from ⟨rfl, e3.symm⟩)
theorem ti_firsts {h : Heap} : ∀ {vs : List Value}, (∀ v ∈ vs, ∃ x y, IsTI h v x y) → ∃ fs : List Value, PySem.W.KatTups h vs fs ∧ fs.length = vs.length ∧ ∀ f ∈ fs, ∃ b its, f = Value.ref b ∧ IsTup h b its
  | [], _ => ⟨[], PySem.W.KatTups.nil, rfl, fun _ hm => by simp at hm⟩
  | v :: vs, hp => by
    obtain ⟨fs, h1, h2, h3⟩ := ti_firsts (vs := vs) fun v' hm => hp v' (List.mem_cons_of_mem _ hm)
    obtain ⟨x, y, a, o, b, its, u, n, e, ho, hc, hd, hb, hi⟩ := hp v (List.mem_cons_self ..)
    subst e
    refine ⟨.ref b :: fs, PySem.W.KatTups.cons ho hc hd rfl h1, by rw [List.length_cons, List.length_cons, h2], fun f hm => ?_⟩
    rcases List.mem_cons.mp hm with rfl | hm
    · exact ⟨b, its, rfl, hb⟩
    · exact h3 f hm
theorem ti_sortable {a : Addr} {vs : List Value} {k : Value → List Int × Int} (hu : A.units + 1 < cLine) (h0 : 0 < vs.length) (hp : ∀ v ∈ vs, IsTI s.heap v (k v).1 (k v).2) (ha : ∀ o, s.heap.get? a = some o → o.cls ≠ .type "tuple") : SrtO.SortableO prog w A s a vs fun v u => tiLt (k v) (k u) := by
  intro h' keep
  have hp' : ∀ v ∈ vs, IsTI h' v (k v).1 (k v).2 := fun v hm => (hp v hm).keeps fun b o e c => keep b o (fun z => by subst z; exact ha o e c) e
  obtain ⟨fs, h1, h2, h3⟩ := ti_firsts (vs := vs) fun v hm => ⟨_, _, hp' v hm⟩
  refine ⟨tuples' false, fun Q E hq => ?_, ti_cmp hu hp'⟩
  refine PySem.W.kat_kind (T := .type "tuple") h1 (by omega) (fun f hm => ?_) (by rfl) ?_
  · obtain ⟨b, its, rfl, ob, g1, g2, _⟩ := h3 f hm
    rw [← g2]
    exact (PySem.W.Looks.ld g1).andThen .now
  · have e : (Value.type "tuple" != Value.type "tuple") = false := by first | decide +kernel | rfl | decide
    rw [e]
    exact hq
theorem sorted_ti {l : Addr} {vs : List Value} {k : Value → List Int × Int} {Q : Value → Shared → Prop} (hu : A.units + 10 < cLine) (hl : s.heap.IsList l vs.toArray) (hz : vs.length ≤ sizeLine) (hp : ∀ v ∈ vs, IsTI s.heap v (k v).1 (k v).2)
    (h : ∀ (h' : Heap) (d : Addr) (out : List Value), SrtO.Srtd (fun v u => tiLt (k v) (k u)) out → SrtO.Stb (fun v u => tiLt (k v) (k u)) out vs → (∀ b o, s.heap.get? b = some o → h'.get? b = some o) → s.heap.objs.size ≤ d → (∃ n, h'.get? d = some (seqObj "list" out.toArray n)) → Q (.ref d) { s with heap := h' }) :
    wpAny (model prog w) A (call (.builtin "sorted") [.ref l]) Q E s := by
  refine SrtO.sorted_ord (swo_ti k) hl hz (fun h2 h₁ a ha kk => ?_) fun out ho hb => ?_
  · refine ti_sortable (s := { s with heap := h₁ }) (by show A.units + 1 + 1 + 1 < cLine; omega) (by omega) (fun v hm => (hp v hm).keeps fun b o e _ => (kk b o e).2) fun o e => ?_
    have e' : some o = some (seqObj "list" vs.toArray 0) := e.symm.trans ha
    cases e'
    intro c
    exact absurd (Value.type.inj c) (by decide)
  · exact h _ _ out ho hb (fun b o e => sortedAll_old e) (Nat.le_succ _) (sortedAll_at s.heap vs out.toArray)
end
def rSortTI (K : PySem.W.Frag) : List V → Hp → VK → Prop := fun vs H Q => ∃ (a : Addr) (xs : List V) (k : V → List Int × Int), vs = [V.ref a] ∧ SqL K H a xs ∧ (∀ x ∈ xs, ∃ (t q : Addr), x = V.ref t ∧ H t = some (.tup [.ref q, .int (k x).2]) ∧ H q = some (.tup ((k x).1.map V.int))) ∧
  ∀ ys p, SrtO.Srtd (fun x y => tiLt (k x) (k y)) ys → ys.Perm xs → H p = none → Q (.ref p) (upd H p (.lst ys))
theorem cr_sortedTI {X : Cx} (hu : X.A.units + 64 < cLine) : CallR X (.builtin "sorted") (rSortTI X.K) := by
  intro pins s σ H vs us Q I r h
  obtain ⟨a, xs, k, rfl, hs, hx, q⟩ := h
  obtain ⟨its, rv, hl, hz⟩ := I.list hs
  obtain ⟨u, rfl, ru⟩ := vals1 r
  obtain rfl : u = Value.ref a := ru
  obtain ⟨e1, e2⟩ := refs_back rv fun x m => by
    obtain ⟨t, _, e, _⟩ := hx x m
    exact ⟨t, e⟩
  refine sorted_ti (k := fun u => k (backV u)) (by omega) hl.isList (by rw [← rv.length]; exact hz) (fun v hv => ?_) fun h' d out h1 h2 kp hd hn => ?_
  · obtain ⟨t, rfl⟩ := e2 v hv
    have hm : V.ref t ∈ xs := by rw [e1]; exact List.mem_map.mpr ⟨_, hv, rfl⟩
    obtain ⟨t', q', e, ht, hq⟩ := hx _ hm
    cases e
    obtain ⟨_, its2, r2, o, ho, hc, n, hd⟩ := I.hok _ _ ht
    obtain ⟨u1, u2, rfl, ri, rj⟩ := vals2 r2
    cases ri
    obtain ⟨t2, rfl⟩ := rj
    obtain ⟨_, its3, r3, o3, ho3, hc3, n3, hd3⟩ := I.hok _ _ hq
    exact ⟨t, o, q', its3.toArray, t2, n, rfl, ho, hc, hd, ⟨o3, ho3, hc3, n3, hd3⟩, intsAre_of r3⟩
  · have h3 : ∀ u ∈ out, ∃ a, u = Value.ref a := fun u hu => e2 u (h2.perm.mem_iff.mp hu)
    obtain ⟨n, hn⟩ := hn
    refine ⟨.ref d, upd H d (.lst (out.map backV)), I.laid (t' := s.toks) kp hd ⟨?_, out, n, vals_back h3, hn⟩, rfl, q _ d (SrtO.srtd_map (lt := fun x y => tiLt (k x) (k y)) (f := backV) h1) ?_ (I.hok.fresh hd)⟩
    · rw [List.length_map, h2.perm.length_eq, ← rv.length]; exact hz
    · rw [e1]
      exact h2.perm.map _
end G58

set_option Elab.async false
set_option linter.all false
set_option pp.maxSteps 1500
set_option maxRecDepth 100000
set_option maxHeartbeats 4000000
/-! sorted of pairs (text, int). -/
namespace G58
open PySem PySem.Spec PyProof.Rows L2 Srt
def siLt (p q : Str × Int) : Bool := if p.1 = q.1 then decide (p.2 < q.2) else decide (p.1.cps.toList < q.1.cps.toList)
theorem str_ext {x y : Str} (h : x.cps.toList = y.cps.toList) : x = y := by
  cases x
  cases y
  congr
  exact Array.toList_inj.mp h
theorem siLt_iff {p q : Str × Int} : siLt p q = true ↔ (p.1 = q.1 ∧ p.2 < q.2) ∨ p.1.cps.toList < q.1.cps.toList := by
  unfold siLt
  by_cases e : p.1 = q.1
  · rw [if_pos e, decide_eq_true_eq]
    refine ⟨fun h => .inl ⟨e, h⟩, fun h => h.elim (fun z => z.2) fun z => ?_⟩
    rw [e] at z
    exact absurd z (List.lt_irrefl _)
  · rw [if_neg e, decide_eq_true_eq]
    exact ⟨.inr, fun h => h.elim (fun z => absurd z.1 e) id⟩
theorem siLt_tot {p q : Str × Int} (h : siLt p q = false) : siLt q p = true ∨ p = q := by
  have h' : ¬ ((p.1 = q.1 ∧ p.2 < q.2) ∨ p.1.cps.toList < q.1.cps.toList) := fun z => by rw [siLt_iff.mpr z] at h; cases h
  by_cases e : p.1 = q.1
  · by_cases e2 : p.2 = q.2
    · exact .inr (Prod.ext e e2)
    · exact .inl (siLt_iff.mpr (.inl ⟨e.symm, by have : ¬ p.2 < q.2 := fun z => h' (.inl ⟨e, z⟩); omega⟩))
  · refine .inl (siLt_iff.mpr (.inr ?_))
    by_cases z : q.1.cps.toList < p.1.cps.toList
    · exact z
    · exact absurd (str_ext (List.le_antisymm (List.not_lt.mp z) (List.not_lt.mp fun w => h' (.inr w)))) e
theorem siLt_trans {p q r : Str × Int} (h1 : siLt p q = true) (h2 : siLt q r = true) : siLt p r = true := by
  rcases siLt_iff.mp h1 with ⟨a, b⟩ | a
  · rcases siLt_iff.mp h2 with ⟨c, d⟩ | c
    · exact siLt_iff.mpr (.inl ⟨a.trans c, by omega⟩)
    · exact siLt_iff.mpr (.inr (by rw [a]; exact c))
  · rcases siLt_iff.mp h2 with ⟨c, d⟩ | c
    · exact siLt_iff.mpr (.inr (by rw [← c]; exact a))
    · exact siLt_iff.mpr (.inr (List.lt_trans a c))
theorem siLt_irr (p : Str × Int) : siLt p p = false := by
  unfold siLt
  rw [if_pos rfl]
  exact decide_eq_false (Int.lt_irrefl _)
theorem siLt_asym {p q : Str × Int} (h : siLt p q = true) : siLt q p = false := by
  cases z : siLt q p with
  | false => rfl
  | true =>
    have := siLt_trans h z
    rw [siLt_irr] at this
    cases this
theorem swo_si {α : Type} (k : α → Str × Int) : SrtO.Swo (fun v u => siLt (k v) (k u)) := by
  refine ⟨fun x y h => siLt_asym h, fun x y z h1 h2 => ?_⟩
  cases w : siLt (k z) (k x) with
  | false => rfl
  | true =>
    rcases siLt_tot h1 with a | a
    · have := siLt_trans w a
      rw [h2] at this
      cases this
    · rw [← a] at w
      rw [w] at h2
      cases h2
/-- a tuple of a text and an int -/
def IsSI (h : Heap) (v : Value) (x : Str) (y : Int) : Prop := ∃ a o t u n, v = .ref a ∧ h.get? a = some o ∧ o.cls = .type "tuple" ∧ o.data = .seq #[.str x t, .int y u] n
theorem IsSI.keeps {h h' : Heap} {v : Value} {x : Str} {y : Int} (p : IsSI h v x y) (k : ∀ b o, h.get? b = some o → o.cls = .type "tuple" → h'.get? b = some o) : IsSI h' v x y := by
  obtain ⟨a, o, t, u, n, e, ho, hc, hd⟩ := p
  exact ⟨a, o, t, u, n, e, k _ _ ho hc, hc, hd⟩
section
variable {prog : Program} {w : World} {A : Around} {E : Value → Shared → Prop} {s : Shared}
theorem si_cmp {vs : List Value} {k : Value → Str × Int} (hp : ∀ v ∈ vs, IsSI s.heap v (k v).1 (k v).2) : SrtO.Cmp prog w A s (tuples' true) (fun p => p.1 ∈ vs) (SrtO.lt2 fun v u => siLt (k v) (k u)) := by
  intro p q hm hm'
  have g1 := hp _ hm
  have g2 := hp _ hm'
  show wpAny (model prog w) A (keyLt' (tuples' true) p.1 q.1) (fun r s' => s' = s ∧ r = siLt (k p.1) (k q.1)) (fun _ _ => False) s
  unfold siLt
  generalize (k p.1).1 = x at g1 ⊢
  generalize (k p.1).2 = y at g1 ⊢
  generalize (k q.1).1 = x' at g2 ⊢
  generalize (k q.1).2 = y' at g2 ⊢
  obtain ⟨a, o, t, u, n, e, ho, hc, hd⟩ := g1
  obtain ⟨a', o', t', u', n', e', ho', hc', hd'⟩ := g2
  rw [e, e']
  refine PySem.W.kat_lt ho hd ho' hd' ?_
  show PySem.W.KatLex prog w A true (decide (2 < 2)) _ [(.str x t, .str x' t'), (.int y u, .int y' u')] 0 s
  refine PySem.W.kat_cons (SeqAt.EqAt.str_str x t x' t' prog w _ _ ?_)
  refine PySem.W.kat_go (fun e1 => ?_) (fun e1 => ?_)
  · have ex : x = x' := by simpa using e1
    refine PySem.W.kat_yes (PySem.W.kat_cons (SeqAt.EqAt.int_int y u y' u' prog w _ _ ?_))
    refine PySem.W.kat_go (fun e2 => ?_) (fun e2 => ?_)
    · have ey : y = y' := by simpa using e2
      have e3 : (if x = x' then decide (y < y') else decide (x.cps.toList < x'.cps.toList)) = false := by
        rw [if_pos ex, ey]
        exact decide_eq_false (Int.lt_irrefl _)
      exact PySem.W.kat_yes (PySem.W.kat_nil ⟨rfl, e3.symm⟩)
    · have e3 : (if x = x' then decide (y < y') else decide (x.cps.toList < x'.cps.toList)) = decide (y < y') := if_pos ex
      refine PySem.W.kat_no (PySem.W.kat_one _ _ (PyProof.Rows.lt_int ?_))
      exact (show s = s ∧ decide (y < y') = (if x = x' then decide (y < y') else decide (x.cps.toList < x'.cps.toList)) from ⟨rfl, e3.symm⟩)
  · have ex : ¬ x = x' := by simpa using e1
    have e3 : (if x = x' then decide (y < y') else decide (x.cps.toList < x'.cps.toList)) = decide (x.cps.toList < x'.cps.toList) := if_neg ex
    refine PySem.W.kat_no (oneLt_str ?_)
    exact (show s = s ∧ decide (x.cps.toList < x'.cps.toList) = (if x = x' then decide (y < y') else decide (x.cps.toList < x'.cps.toList)) from ⟨rfl, e3.symm⟩)
theorem si_firsts {h : Heap} : ∀ {vs : List Value}, (∀ v ∈ vs, ∃ x y, IsSI h v x y) → ∃ fs : List Value, PySem.W.KatTups h vs fs ∧ fs.length = vs.length ∧ ∀ f ∈ fs, ∃ x t, f = Value.str x t
  | [], _ => ⟨[], PySem.W.KatTups.nil, rfl, fun _ hm => by simp at hm⟩
  | v :: vs, hp => by
    obtain ⟨fs, h1, h2, h3⟩ := si_firsts (vs := vs) fun v' hm => hp v' (List.mem_cons_of_mem _ hm)
    obtain ⟨x, y, a, o, t, u, n, e, ho, hc, hd⟩ := hp v (List.mem_cons_self ..)
    subst e
    refine ⟨.str x t :: fs, PySem.W.KatTups.cons ho hc hd rfl h1, by rw [List.length_cons, List.length_cons, h2], fun f hm => ?_⟩
    rcases List.mem_cons.mp hm with rfl | hm
    · exact ⟨x, t, rfl⟩
    · exact h3 f hm
theorem si_sortable {a : Addr} {vs : List Value} {k : Value → Str × Int} (h0 : 0 < vs.length) (hp : ∀ v ∈ vs, IsSI s.heap v (k v).1 (k v).2) (ha : ∀ o, s.heap.get? a = some o → o.cls ≠ .type "tuple") : SrtO.SortableO prog w A s a vs fun v u => siLt (k v) (k u) := by
  intro h' keep
  have hp' : ∀ v ∈ vs, IsSI h' v (k v).1 (k v).2 := fun v hm => (hp v hm).keeps fun b o e c => keep b o (fun z => by subst z; exact ha o e c) e
  obtain ⟨fs, h1, h2, h3⟩ := si_firsts (vs := vs) fun v hm => ⟨_, _, hp' v hm⟩
  refine ⟨tuples' true, fun Q E hq => ?_, si_cmp hp'⟩
  refine PySem.W.kat_kind (T := .type "str") h1 (by omega) (fun f hm => ?_) (by rfl) ?_
  · obtain ⟨x, t, rfl⟩ := h3 f hm
    exact PySem.W.Looks.of_pure rfl
  · have e : (Value.type "str" != Value.type "tuple") = true := by first | decide +kernel | rfl | decide
    rw [e]
    exact hq
theorem sorted_si {l : Addr} {vs : List Value} {k : Value → Str × Int} {Q : Value → Shared → Prop} (hu : A.units + 10 < cLine) (hl : s.heap.IsList l vs.toArray) (hz : vs.length ≤ sizeLine) (hp : ∀ v ∈ vs, IsSI s.heap v (k v).1 (k v).2)
    (h : ∀ (h' : Heap) (d : Addr) (out : List Value), SrtO.Srtd (fun v u => siLt (k v) (k u)) out → SrtO.Stb (fun v u => siLt (k v) (k u)) out vs → (∀ b o, s.heap.get? b = some o → h'.get? b = some o) → s.heap.objs.size ≤ d → (∃ n, h'.get? d = some (seqObj "list" out.toArray n)) → Q (.ref d) { s with heap := h' }) :
    wpAny (model prog w) A (call (.builtin "sorted") [.ref l]) Q E s := by
  refine SrtO.sorted_ord (swo_si k) hl hz (fun h2 h₁ a ha kk => ?_) fun out ho hb => ?_
  · refine si_sortable (s := { s with heap := h₁ }) (by omega) (fun v hm => (hp v hm).keeps fun b o e _ => (kk b o e).2) fun o e => ?_
    have e' : some o = some (seqObj "list" vs.toArray 0) := e.symm.trans ha
    cases e'
    intro c
    exact absurd (Value.type.inj c) (by decide)
  · exact h _ _ out ho hb (fun b o e => sortedAll_old e) (Nat.le_succ _) (sortedAll_at s.heap vs out.toArray)
end
def rSortSI (K : PySem.W.Frag) : List V → Hp → VK → Prop := fun vs H Q => ∃ (a : Addr) (xs : List V) (k : V → Str × Int), vs = [V.ref a] ∧ SqL K H a xs ∧ (∀ x ∈ xs, ∃ t : Addr, x = V.ref t ∧ H t = some (.tup [.str (k x).1, .int (k x).2])) ∧
  ∀ ys p, SrtO.Srtd (fun x y => siLt (k x) (k y)) ys → ys.Perm xs → H p = none → Q (.ref p) (upd H p (.lst ys))
theorem cr_sortedSI {X : Cx} (hu : X.A.units + 64 < cLine) : CallR X (.builtin "sorted") (rSortSI X.K) := by
  intro pins s σ H vs us Q I r h
  obtain ⟨a, xs, k, rfl, hs, hx, q⟩ := h
  obtain ⟨its, rv, hl, hz⟩ := I.list hs
  obtain ⟨u, rfl, ru⟩ := vals1 r
  obtain rfl : u = Value.ref a := ru
  obtain ⟨e1, e2⟩ := refs_back rv fun x m => by
    obtain ⟨t, e, _⟩ := hx x m
    exact ⟨t, e⟩
  refine sorted_si (k := fun u => k (backV u)) (by omega) hl.isList (by rw [← rv.length]; exact hz) (fun v hv => ?_) fun h' d out h1 h2 kp hd hn => ?_
  · obtain ⟨t, rfl⟩ := e2 v hv
    have hm : V.ref t ∈ xs := by rw [e1]; exact List.mem_map.mpr ⟨_, hv, rfl⟩
    obtain ⟨t', e, ht⟩ := hx _ hm
    cases e
    obtain ⟨_, its2, r2, o, ho, hc, n, hd⟩ := I.hok _ _ ht
    obtain ⟨u1, u2, rfl, ri, rj⟩ := vals2 r2
    obtain ⟨t1, rfl⟩ := ri
    obtain ⟨t2, rfl⟩ := rj
    exact ⟨t, o, t1, t2, n, rfl, ho, hc, hd⟩
  · have h3 : ∀ u ∈ out, ∃ a, u = Value.ref a := fun u hu => e2 u (h2.perm.mem_iff.mp hu)
    obtain ⟨n, hn⟩ := hn
    refine ⟨.ref d, upd H d (.lst (out.map backV)), I.laid (t' := s.toks) kp hd ⟨?_, out, n, vals_back h3, hn⟩, rfl, q _ d (SrtO.srtd_map (lt := fun x y => siLt (k x) (k y)) (f := backV) h1) ?_ (I.hok.fresh hd)⟩
    · rw [List.length_map, h2.perm.length_eq, ← rv.length]; exact hz
    · rw [e1]
      exact h2.perm.map _
end G58

set_option Elab.async false
set_option linter.all false
set_option pp.maxSteps 2500
set_option maxRecDepth 100000
set_option maxHeartbeats 4000000
/-! The first wrong part. -/
namespace G58.V
open PySem PySem.Spec PyProof.Rows L2 LamX
def stepV : PStep → V
  | .inl i => .int i
  | .inr z => .str z
mutual
/-- texts are not too long, rows not too wide -/
def smallV : Val → Prop
  | .leaf l => smallL l
  | .lst vs => vs.length ≤ 100000 ∧ smallVs vs
  | .dic ks vs => ks.length ≤ 100000 ∧ (∀ k ∈ ks, k.cps.size ≤ 100000) ∧ smallVs vs
  | .tup _ => True
  | .odd => True
def smallVs : List Val → Prop
  | [] => True
  | a :: r => smallV a ∧ smallVs r
end
theorem small_at : ∀ {vs : List Val}, smallVs vs → ∀ {i : Nat} {b : Val}, vs[i]? = some b → smallV b
  | [], _, _, _, h => by rw [List.getElem?_nil] at h; cases h
  | b :: r, g, 0, a, h => by
    cases h
    unfold smallVs at g
    exact g.1
  | b :: r, g, i + 1, a, h => by
    unfold smallVs at g
    exact small_at (vs := r) g.2 (i := i) h
/-- of values less deep than n -/
def spWp (K : PySem.W.Frag) (a : Ad) (n : Nat) : Sp := fun vs H Q _ => ∃ (v : V) (q : Addr) (val : Val) (ps : List V), vs = [v, .ref q] ∧ ValAt K a H val v ∧ depthV val < n ∧ smallV val ∧ SqT K H q ps ∧ ps.length + n ≤ 1000 ∧
  ((GoodV val ∧ ∀ H', Same H H' → Q .non H') ∨ ∃ p : List PStep, BadV val p ∧ ∀ (t : Addr) (H' : Hp), Same H H' → SqT K H' t (ps ++ p.map stepV) → Q (.ref t) H')
theorem ok_elim {P : Program} {w : World} {K : PySem.W.Frag} {mg : Str → Option Value} {base : Heap} {CX : CXT} {k : Nat} {f : Addr} {fd : FuncData} {ps : List Str} {sp : Sp} (h : ∀ vs H Q E, ¬ sp vs H Q E) : FnOk P w K mg base CX k f fd ps sp :=
  ⟨fun vs H Q E q => absurd q (h vs H Q E), fun _ _ _ _ _ _ _ _ _ _ _ _ _ q => absurd q (h _ _ _ _)⟩
theorem catA1 {K : PySem.W.Frag} {H : Hp} {a b : Addr} {xs : List V} {x : V} {Q : VK} (ha : SqT K H a xs) (hb : H b = some (.tup [x])) (hz : xs.length + 1 ≤ sizeLine) (k : ∀ t H', Same H H' → SqT K H' t (xs ++ [x]) → Q (.ref t) H') : rCatA K (.ref a) (.ref b) H Q :=
  ⟨a, b, xs, [x], rfl, rfl, ha, .inl (.inl hb), hz, fun e => by subst e; exact k b H (Same.refl H) (.inl (.inl hb)), fun _ e => (nomatch e), fun _ _ p hp => k p _ (same_new (Same.refl H) hp) (.inl (.inl upd_same))⟩
theorem zip_val {x : V} {z : Str} : ∀ {ks : List Str} {xs : List V} {j : Nat}, ks.Nodup → ks[j]? = some z → xs[j]? = some x → valV ((ks.map (Sum.inr : Str → Key)).zip xs) (Sum.inr z) = some x
  | [], _, j, _, h, _ => by rw [List.getElem?_nil] at h; cases h
  | _ :: _, [], j, _, _, h => by rw [List.getElem?_nil] at h; cases h
  | y :: ks, x' :: xs, 0, _, h1, h2 => by
    cases h1
    cases h2
    show valV ((Sum.inr z, x) :: _) (Sum.inr z) = some x
    simp [valV]
  | y :: ks, x' :: xs, j + 1, nd, h1, h2 => by
    have ih := zip_val (ks := ks) (xs := xs) (j := j) (List.nodup_cons.mp nd).2 h1 h2
    have ne : y ≠ z := fun e => (List.nodup_cons.mp nd).1 (e ▸ List.mem_of_getElem? h1)
    show valV ((Sum.inr y, x') :: (ks.map Sum.inr).zip xs) (Sum.inr z) = some x
    have : ¬ ((Sum.inr y : Key) = Sum.inr z) := fun e => ne (Sum.inr.inj e)
    simpa [valV, this] using ih
section
variable {P : Program} {w : World} {K : PySem.W.Frag} {mg : Str → Option Value} {base : Heap} {a : Ad}
theorem ty_leaf (T : Txt K mg a) {H : Hp} {l : Lf} {v : V} (h : LfAt K a H l v) : ∃ t, TyX K H v t ∧ PySem.W.kitOne K t (.type "list") = some false ∧ PySem.W.kitOne K t (.type "dict") = some false := by
  cases l with
  | non => cases h; exact ⟨_, .base .non, kit_ty (by decide +kernel), kit_ty (by decide +kernel)⟩
  | bl b => cases h; exact ⟨_, .base (.bl b), kit_ty (by decide +kernel), kit_ty (by decide +kernel)⟩
  | int i => cases h; exact ⟨_, .base (.int i), kit_ty (by decide +kernel), kit_ty (by decide +kernel)⟩
  | str z => cases h; exact ⟨_, .base (.str z), kit_ty (by decide +kernel), kit_ty (by decide +kernel)⟩
  | thg y f =>
    obtain ⟨p, rfl, h⟩ := h
    refine ⟨_, th_ty T h, ?_, ?_⟩
    · cases y
      · exact T.koWide_list
      · exact T.koData_list
      · exact T.koUid_list
      · exact T.koReal_list
      · exact T.koDate_list
    · cases y
      · exact T.koWide_dict
      · exact T.koData_dict
      · exact T.koUid_dict
      · exact T.koReal_dict
      · exact T.koDate_dict
theorem scWp : FnScope ["thing", "path", "found", "index", "item", "key"] ["thing", "path"] (defScope sWp) := ⟨rfl, rfl, rfl, by decide +kernel, rfl, by decide +kernel, by decide +kernel⟩
theorem ok_wp (D : Df K a) (T : Txt K mg a) : ∀ n : Nat, FnOk P w K mg base CX0 (n + 3) a.fWp D.dWp ["thing", "path"] (spWp K a n)
  | 0 => ok_elim fun vs H Q E h => by
    obtain ⟨v, q, val, ps, _, _, hd, _⟩ := h
    omega
  | n + 1 => by
    have GWp : FnOk P w K mg base CX0 (n + 3) a.fWp D.dWp ["thing", "path"] (spWp K a n) := ok_wp D T n
    have GIss : FnOk P w K mg base CX0 2 a.fIss D.dIss ["thing"] (spIss K) := ok_iss D T
    have GIsl : FnOk P w K mg base CX0 3 a.fIsl D.dIsl ["thing"] (spIsl2 K a) := ok_isl2 D T
    refine D.FWp.ok (k := n + 3) scWp (fun vs H Q E h => ?_) (fun cdv A outer s H vs Q E hr h => ?_)
    · obtain ⟨v, q, val, ps, rfl, _⟩ := h
      rfl
    · obtain ⟨v, q, val, ps, rfl, hV, hd, hsm, hq, hpl, h⟩ := h
      have hr3 : Room 3 _ := hr.mono (by omega)
      have hr2 : Room 2 _ := hr.mono (by omega)
      have hud := hu_of hr
      refine ⟨_, (pss_cons (ps_set (i := 2) scWp.nd rfl (.inl rfl) pe_non) (pss_cons (ps_if (pt_val (pe_callB call_isi (by rfl) T.bisinstance (by decide +kernel) (pa_cons (pv 0) (pa_cons (pe_bltn (v := .ty "list") rfl T.blist (by decide +kernel) rfl) pa_nil)))) (pss_cons (ps_for PassesOwn.never rfl (pi_enum (by rfl) T.benumerate (pa_cons (pv 0) pa_nil)) (pg_tup rfl (pgs_cons (pg_name (i := 3) scWp.nd rfl (.inl rfl)) (pgs_cons (pg_name (i := 4) scWp.nd rfl (.inl rfl)) pgs_nil))) (pss_one (ps_set (i := 2) scWp.nd rfl (.inl rfl) (pe_ifExp (pt_cmpR op_isN (pv 2) pe_non (nomark _)) (pe_call GWp hr rfl T.gWp D.FWp.kp D.bWp .nil pass0 (pa_cons (pv 4) (pa_cons (pe_op op_catA (pv 1) (pe_tup (pa_cons (pv 3) pa_nil))) pa_nil))) (pv 2))))) (pss_one (ps_ret (pv 2)))) pss_nil) (pss_cons (ps_if (PW.pt (pw_and (pt_val (pe_callB call_isi (by rfl) T.bisinstance (by decide +kernel) (pa_cons (pv 0) (pa_cons (pe_bltn (v := .ty "dict") rfl T.bdict (by decide +kernel) rfl) pa_nil)))) (pw_and1 (pt_val (pe_callB (cr_all rfl) (by rfl) T.ball (by decide +kernel) (pa_cons (pe_lock (pe_lc (te := tCall (spIss K) [] E0 (tCons (tVar 5) tNil)) (own := [("key", 5)]) (g := (gName 5)) (tt := tYes) rfl scWp.nd (pi_keys (pv 0)) (blkOk_by (N := ["thing", "path", "found", "index", "item", "key"]) (sc := defScope sWp) (by decide +kernel)) (fun _ _ _ _ _ => (pg_name (i := 5) scWp.nd rfl (.inl rfl))) (fun _ _ _ _ _ => pts_nil) (fun _ _ _ _ _ => (pe_call GIss hr2 rfl T.gIss D.FIss.kp D.bIss .nil pass0 (pa_cons (pv 5) pa_nil))))) pa_nil)))))) (pss_cons (ps_for PassesOwn.never rfl (pi_list (pe_callB (call_sortedDU rfl) (by rfl) T.bsorted (by decide +kernel) (pa_cons (pv 0) pa_nil))) (pg_name (i := 5) scWp.nd rfl (.inl rfl)) (pss_one (ps_set (i := 2) scWp.nd rfl (.inl rfl) (pe_ifExp (pt_cmpR op_isN (pv 2) pe_non (nomark _)) (pe_call GWp hr rfl T.gWp D.FWp.kp D.bWp .nil pass0 (pa_cons (pe_dget hud (pv 0) (pv 5) (fun _ _ => rfl)) (pa_cons (pe_op op_catA (pv 1) (pe_tup (pa_cons (pv 5) pa_nil))) pa_nil))) (pv 2))))) (pss_one (ps_ret (pv 2)))) pss_nil) (pss_one (ps_ret (pe_ifExp (pt_val (pe_call GIsl hr3 rfl T.gIsl D.FIsl.kp D.bIsl .nil pass0 (pa_cons (pv 0) pa_nil))) pe_non (pv 1))))))), ?_⟩
      cases val with
      | leaf l =>
        unfold ValAt at hV
        obtain ⟨t, ty, kl, kd⟩ := ty_leaf T hV
        refine ⟨_, rfl, v, .ty "list", t, _, false, rfl, .ty _, ty, kl, _, rfl, iteF ?_⟩
        refine ⟨_, rfl, v, .ty "dict", t, _, false, rfl, .ty _, ty, kd, _, rfl, iteF (iteF ?_)⟩
        refine ⟨_, rfl, v, rfl, .inl (.inl ⟨l, hV, (by unfold smallV at hsm; exact hsm), fun H1 s1 => ⟨_, rfl, ?_⟩⟩)⟩
        rcases h with ⟨hg, k⟩ | ⟨p, hb, k⟩
        · cases hg with
          | leaf _ ho =>
            rw [ho]
            exact iteT (k H1 s1)
        · cases hb with
          | leaf _ ho =>
            rw [ho]
            refine iteF ⟨_, rfl, k q H1 s1 ?_⟩
            rw [List.map_nil, List.append_nil]
            exact Same.tup s1 hq
      | tup vs =>
        unfold ValAt at hV
        obtain ⟨r, rfl, hr1⟩ := hV
        have ty : TyX K H (.ref r) (.type "tuple") := sqT_ty hr1
        refine ⟨_, rfl, .ref r, .ty "list", _, _, false, rfl, .ty _, ty, kit_ty (by decide +kernel), _, rfl, iteF ?_⟩
        refine ⟨_, rfl, .ref r, .ty "dict", _, _, false, rfl, .ty _, ty, kit_ty (by decide +kernel), _, rfl, iteF (iteF ?_)⟩
        refine ⟨_, rfl, .ref r, rfl, .inl (.inr ⟨⟨r, _, rfl, ty, .inl rfl⟩, fun H1 s1 => ⟨_, rfl, iteF ⟨_, rfl, ?_⟩⟩⟩)⟩
        rcases h with ⟨hg, k⟩ | ⟨p, hb, k⟩
        · cases hg
        · cases hb with
          | tup _ =>
            refine k q H1 s1 ?_
            rw [List.map_nil, List.append_nil]
            exact Same.tup s1 hq
      | odd =>
        unfold ValAt at hV
        obtain ⟨r, dx, rfl, hr1⟩ := hV
        have ty : TyX K H (.ref r) (.ref a.cUnfit) := od_ty T hr1
        refine ⟨_, rfl, .ref r, .ty "list", _, _, false, rfl, .ty _, ty, T.koUnfit_list, _, rfl, iteF ?_⟩
        refine ⟨_, rfl, .ref r, .ty "dict", _, _, false, rfl, .ty _, ty, T.koUnfit_dict, _, rfl, iteF (iteF ?_)⟩
        refine ⟨_, rfl, .ref r, rfl, .inr ⟨⟨r, _, rfl, hr1⟩, fun H1 s1 => ⟨_, rfl, iteF ⟨_, rfl, ?_⟩⟩⟩⟩
        rcases h with ⟨hg, k⟩ | ⟨p, hb, k⟩
        · cases hg
        · cases hb with
          | odd =>
            refine k q H1 s1 ?_
            rw [List.map_nil, List.append_nil]
            exact Same.tup s1 hq
      | lst vs =>
        unfold ValAt at hV
        obtain ⟨p, xs, rfl, hp, hvs⟩ := hV
        unfold depthV at hd
        unfold smallV at hsm
        obtain ⟨hlen, hat⟩ := vals_at hvs
        obtain ⟨i0, hg, hv⟩ : ∃ i0 : Nat, (∀ (j : Nat) (b : Val), j < i0 → vs[j]? = some b → GoodV b) ∧ ((i0 = vs.length ∧ ∀ H', Same H H' → Q .non H') ∨ (∃ b pp, vs[i0]? = some b ∧ BadV b pp ∧ ∀ t H', Same H H' → SqT K H' t (ps ++ ((Sum.inl ((i0 : Nat) : Int) : PStep) :: pp).map stepV) → Q (.ref t) H')) := by
          rcases h with ⟨hg, k⟩ | ⟨pp, hb, k⟩
          · cases hg with
            | lst _ g => exact ⟨vs.length, fun j b _ e => good_at g e, .inl ⟨rfl, k⟩⟩
          · cases hb with
            | lst _ i b p' e hg hb => exact ⟨i, hg, .inr ⟨b, p', e, hb, k⟩⟩
        refine ⟨_, rfl, .ref p, .ty "list", _, _, true, rfl, .ty _, .base (.lst hp), kit_ty (by decide +kernel), _, rfl, iteT ?_⟩
        refine ⟨_, rfl, p, _, rfl, .inl (.inl hp), for_it (enL (K := K) (p := p) (xs := xs)) (fun i st H1 => ∃ (f : V) (u3 u4 u5 : Option V), st = [some (.ref p), some (.ref q), some f, u3, u4, u5] ∧ Same H H1 ∧ (i ≤ i0 → f = .non) ∧ (i0 < i → ∃ t, f = .ref t ∧ ∀ H', Same H1 H' → Q (.ref t) H'))
          ⟨.non, _, _, _, rfl, Same.refl H, fun _ => rfl, fun z => by omega⟩ (fun i st H1 _ q => by
            obtain ⟨_, _, _, _, _, q, _⟩ := q
            exact .inl (.inl (q _ _ hp))) ?_ ?_⟩
        · rintro i y st H1 H2 hi ⟨f, u3, u4, u5, rfl, s1, hf1, hf2⟩ ⟨T', y', rfl, hT', rfl, hy⟩
          have s2 := same_new (o := .tup [.int (i : Nat), y']) s1 hT'
          refine ⟨T', _, rfl, .inl (.inl upd_same), rfl, _, _, rfl, _, _, rfl, rfl, ?_⟩
          have s12 := same_new (o := .tup [.int (i : Nat), y']) (Same.refl H1) hT'
          generalize upd H1 T' (.tup [.int (i : Nat), y']) = H2 at s2 s12 ⊢
          have eb : vs[i]? = some (vs[i]'(by omega)) := List.getElem?_eq_getElem _
          generalize vs[i]'(by omega) = b at eb
          have db := depth_at eb
          have hb := ValAt.same s2 _ _ (hat i b y' eb hy)
          refine ⟨f, rfl, ?_⟩
          by_cases c : i ≤ i0
          · have ef := hf1 c
            subst ef
            refine ⟨rfl, _, rfl, iteT ⟨_, rfl, _, rfl, _, rfl, by show 1 ≤ sizeLine; decide, fun t1 ht1 => ?_⟩⟩
            have s3 := same_new (o := .tup [.int (i : Nat)]) (Same.refl H2) ht1
            refine catA1 (Same.tup (s2.trans s3) hq) upd_same (Nat.le_trans (by omega : _ ≤ 1001) (by decide)) fun t H3 s4 h4 => ?_
            have s24 := s3.trans s4
            refine ⟨y', t, b, ps ++ [V.int ((i : Nat) : Int)], rfl, ValAt.same s24 _ _ hb, by omega, small_at hsm.2 eb, h4, by rw [List.length_append, List.length_singleton]; omega, ?_⟩
            have s04 := s2.trans s24
            by_cases c2 : i < i0
            · refine .inl ⟨hg i b c2 eb, fun H5 s5 => ?_⟩
              exact ⟨_, _, _, _, rfl, s04.trans s5, fun _ => rfl, fun z => by omega⟩
            · have ei : i = i0 := by omega
              subst ei
              rcases hv with ⟨z, _⟩ | ⟨b', pp, e, hb', k⟩
              · omega
              rw [eb] at e
              cases e
              refine .inr ⟨pp, hb', fun t5 H5 s5 h5 => ?_⟩
              refine ⟨_, _, _, _, rfl, s04.trans s5, fun z => by omega, fun _ => ⟨t5, rfl, fun H6 s6 => ?_⟩⟩
              refine k t5 H6 ((s04.trans s5).trans s6) ?_
              rw [List.append_assoc] at h5
              exact Same.tup s6 h5
          · obtain ⟨t, rfl, ht⟩ := hf2 (by omega)
            refine ⟨rfl, _, rfl, iteF ⟨_, rfl, ?_⟩⟩
            exact ⟨_, _, _, _, rfl, s2, fun z => by omega, fun _ => ⟨t, rfl, fun H3 s3 => ht H3 (s12.trans s3)⟩⟩
        · rintro st H1 ⟨f, u3, u4, u5, rfl, s1, hf1, hf2⟩
          refine ⟨f, rfl, ?_⟩
          rcases hv with ⟨rfl, k⟩ | ⟨b, pp, e, hb, k⟩
          · rw [hf1 (by omega)]
            exact k H1 s1
          · have := (List.getElem?_eq_some_iff.mp e).1
            obtain ⟨t, rfl, ht⟩ := hf2 (by omega)
            exact ht H1 (Same.refl H1)
      | dic ks vs =>
        unfold ValAt at hV
        obtain ⟨p, xs, ys0, rfl, hp, hkl, hnd, rfl, hvs⟩ := hV
        unfold depthV at hd
        unfold smallV at hsm
        obtain ⟨hlen, hat⟩ := vals_at hvs
        refine ⟨_, rfl, .ref p, .ty "list", _, _, false, rfl, .ty _, .base (.dK hp), kit_ty (by decide +kernel), _, rfl, iteF ?_⟩
        refine ⟨_, rfl, .ref p, .ty "dict", _, _, true, rfl, .ty _, .base (.dK hp), kit_ty (by decide +kernel), _, rfl, iteT ?_⟩
        have ekv : ((ks.map (Sum.inr : Str → Key)).zip ys0).map Prod.fst = ks.map Sum.inr := by
          rw [List.map_fst_zip]
          rw [List.length_map]
          omega
        have vkv : ∀ (j : Nat) (z : Str) (x : V), ks[j]? = some z → ys0[j]? = some x → valV ((ks.map (Sum.inr : Str → Key)).zip ys0) (Sum.inr z) = some x := fun j z x h1 h2 => zip_val hnd h1 h2
        generalize (ks.map (Sum.inr : Str → Key)).zip ys0 = kvs at hp ekv vkv
        have lkv : kvs.length = ks.length := by
          have := congrArg List.length ekv
          rw [List.length_map, List.length_map] at this
          exact this
        have key : ∀ (i : Nat) (kk : Key) (v0 : V), kvs[i]? = some (kk, v0) → ∃ z, ks[i]? = some z ∧ kk = Sum.inr z := fun i kk v0 e => by
          have e2 : (kvs.map Prod.fst)[i]? = some kk := by rw [List.getElem?_map, e]; rfl
          rw [ekv, List.getElem?_map] at e2
          obtain ⟨z, ez, rfl⟩ := Option.map_eq_some_iff.mp e2
          exact ⟨z, ez, rfl⟩
        refine ⟨p, _, hp, by trivial, fun od => ?_⟩
        refine ⟨_, rfl, p, od, rfl, .inl ⟨kvs, upd_same, fun DL hDL => lc_it walk_keys (fun i H' => H' DL = some (.lst (((ks.take i).map plainS).map V.bl)) ∧ Same (upd H p (.frz od (.dK kvs))) H') ⟨by rw [List.take_zero]; exact upd_same, same_new (Same.refl _) hDL⟩ (fun i H' _ q => q.2 _ _ upd_same) ?_ ?_⟩⟩
        · rintro i y H1 H2 hi ⟨e1, s1⟩ ⟨rfl, kk, v0, hk, rfl⟩
          obtain ⟨z, ez, rfl⟩ := key i kk v0 hk
          have hz := hsm.2.1 z (List.mem_of_getElem? ez)
          refine ⟨rfl, ⟨_, rfl, .str z, rfl, .inl ⟨z, rfl, hz, fun H3 s3 => ?_⟩⟩⟩
          refine ⟨_, s3 _ _ e1, ?_, ?_, fun b o e => ?_⟩
          · rw [List.length_map, List.length_map, List.length_take]
            exact Nat.lt_of_le_of_lt (by omega : _ ≤ 100000) (by decide)
          · rw [upd_same, List.take_add_one, ez, List.map_append, List.map_append]
            rfl
          · rw [upd_ne (ne_of_none e hDL)]
            exact s3 _ _ (s1 _ _ e)
        rintro H1 ⟨e1, s1⟩
        rw [lkv, List.take_length] at e1
        have sH : Same H (upd H1 p (.dK kvs)) := fun b o e => by
          by_cases c : b = p
          · subst c
            rw [hp] at e
            rw [upd_same]
            exact e
          · rw [upd_ne c]
            exact s1 _ _ (by rw [upd_ne c]; exact e)
        have nDL : DL ≠ p := fun z => by
          rw [z, upd_same] at hDL
          cases hDL
        have e2 : (upd H1 p (.dK kvs)) DL = some (.lst ((ks.map plainS).map V.bl)) := by rw [upd_ne nDL]; exact e1
        have hp2 : (upd H1 p (.dK kvs)) p = some (.dK kvs) := upd_same
        have hf := s1 _ _ (show (upd H p (.frz od (.dK kvs))) p = some (.frz od (.dK kvs)) from upd_same)
        refine ⟨hf, DL, _, rfl, .inl (.inl e2), _, rfl, ?_⟩
        generalize upd H1 p (.dK kvs) = H2 at sH e2 hp2 ⊢
        rw [List.all_map]
        show ite ((ks.all plainS) = true) _ _
        by_cases ca : ks.all plainS = true
        · refine (if_pos ca).symm ▸ ?_
          refine ⟨_, rfl, p, kvs, ks, rfl, .inl hp2, ekv, Nat.le_trans hsm.1 (by decide), fun ys LA hpm hpw hLA => ?_⟩
          have sL := same_new (o := .lst (ys.map V.str)) sH hLA
          have eL : (upd H2 LA (.lst (ys.map V.str))) LA = some (.lst (ys.map V.str)) := upd_same
          generalize upd H2 LA (.lst (ys.map V.str)) = H3 at sL eL ⊢
          have ndy : ys.Nodup := hpm.nodup_iff.mpr hnd
          obtain ⟨i0, hg, hv⟩ : ∃ i0 : Nat, (∀ (j jj : Nat) (z : Str) (b : Val), j < i0 → ys[j]? = some z → ks[jj]? = some z → vs[jj]? = some b → GoodV b) ∧ ((i0 = ys.length ∧ ∀ H', Same H H' → Q .non H') ∨ (∃ z jj b pp, ys[i0]? = some z ∧ ks[jj]? = some z ∧ vs[jj]? = some b ∧ BadV b pp ∧ ∀ t H', Same H H' → SqT K H' t (ps ++ ((Sum.inr z : PStep) :: pp).map stepV) → Q (.ref t) H')) := by
            rcases h with ⟨hg, k⟩ | ⟨pp, hb, k⟩
            · cases hg with
              | dic _ _ _ g => exact ⟨ys.length, fun j jj z b _ _ _ e => good_at g e, .inl ⟨rfl, k⟩⟩
            · cases hb with
              | key _ _ g =>
                obtain ⟨z, hz, e⟩ := g
                rw [show z.cps.toList.all plainC = plainS z from rfl, List.all_eq_true.mp ca z hz] at e
                cases e
              | dic _ _ i z b p' g e1 e2 hg hb =>
                obtain ⟨i0, hi0⟩ := List.getElem?_of_mem (hpm.mem_iff.mpr (List.mem_of_getElem? e1))
                refine ⟨i0, fun j jj z' b' hj e3 e4 e5 => hg jj z' b' e4 e5 ?_, .inr ⟨z, i, b, p', hi0, e1, e2, hb, k⟩⟩
                obtain ⟨l1, g1⟩ := List.getElem?_eq_some_iff.mp e3
                obtain ⟨l2, g2⟩ := List.getElem?_eq_some_iff.mp hi0
                have h1 := List.pairwise_iff_getElem.mp hpw j i0 l1 l2 hj
                have h2 := List.pairwise_iff_getElem.mp ndy j i0 l1 l2 hj
                rw [g1, g2] at h1 h2
                by_cases c : z'.cps.toList < z.cps.toList
                · exact c
                · exact absurd (str_ext (List.le_antisymm (List.not_lt.mp h1) (List.not_lt.mp c))) h2
          refine ⟨LA, rfl, ⟨_, .inl (.inl eL)⟩, for_it (walk_list (K := K) (a := LA) (xs := ys.map V.str)) (fun i st H4 => ∃ (f : V) (u3 u4 u5 : Option V), st = [some (.ref p), some (.ref q), some f, u3, u4, u5] ∧ Same H3 H4 ∧ (i ≤ i0 → f = .non) ∧ (i0 < i → ∃ t, f = .ref t ∧ ∀ H', Same H4 H' → Q (.ref t) H'))
            ⟨.non, _, _, _, rfl, Same.refl H3, fun _ => rfl, fun z => by omega⟩ (fun i st H4 _ q => by
              obtain ⟨_, _, _, _, _, q, _⟩ := q
              exact .inl (.inl (q _ _ eL))) ?_ ?_⟩
          · rintro i y st H4 H5 hi ⟨f, u3, u4, u5, rfl, s4, hf1, hf2⟩ ⟨rfl, hy⟩
            rw [List.getElem?_map] at hy
            obtain ⟨z, hz, rfl⟩ := Option.map_eq_some_iff.mp hy
            obtain ⟨jj, hjj⟩ := List.getElem?_of_mem (hpm.mem_iff.mp (List.mem_of_getElem? hz))
            have lj := (List.getElem?_eq_some_iff.mp hjj).1
            have eb : vs[jj]? = some (vs[jj]'(by omega)) := List.getElem?_eq_getElem _
            generalize vs[jj]'(by omega) = b at eb
            have ex : ys0[jj]? = some (ys0[jj]'(by omega)) := List.getElem?_eq_getElem _
            generalize ys0[jj]'(by omega) = x at ex
            have db := depth_at eb
            have s04 := sL.trans s4
            have hb := ValAt.same s04 _ _ (hat jj b x eb ex)
            refine ⟨f, rfl, ?_⟩
            by_cases c : i ≤ i0
            · have ef := hf1 c
              subst ef
              refine ⟨rfl, _, rfl, iteT ⟨_, rfl, _, rfl, p, x, rfl, ?_, ?_⟩⟩
              · rw [← vkv jj z x hjj ex]
                exact DGet.k (k := Sum.inr z) (s04 _ _ hp)
              refine ⟨_, rfl, _, rfl, by show 1 ≤ sizeLine; decide, fun t1 ht1 => ?_⟩
              have s5 := same_new (o := .tup [.str z]) (Same.refl H5) ht1
              refine catA1 (Same.tup (s04.trans s5) hq) upd_same (Nat.le_trans (by omega : _ ≤ 1001) (by decide)) fun t H6 s6 h6 => ?_
              have s56 := s5.trans s6
              refine ⟨x, t, b, ps ++ [V.str z], rfl, ValAt.same s56 _ _ hb, by omega, small_at hsm.2.2 eb, h6, by rw [List.length_append, List.length_singleton]; omega, ?_⟩
              have s36 := s4.trans s56
              by_cases c2 : i < i0
              · refine .inl ⟨hg i jj z b c2 hz hjj eb, fun H7 s7 => ?_⟩
                exact ⟨_, _, _, _, rfl, s36.trans s7, fun _ => rfl, fun z => by omega⟩
              · have ei : i = i0 := by omega
                subst ei
                rw [List.length_map] at hi
                rcases hv with ⟨z, _⟩ | ⟨z', jj', b', pp, e1, e2, e3, hb', k⟩
                · omega
                rw [hz] at e1
                cases e1
                have ejj : jj = jj' := (List.getElem?_inj (by omega) hnd).mp (hjj.trans e2.symm)
                subst ejj
                rw [eb] at e3
                cases e3
                refine .inr ⟨pp, hb', fun t5 H7 s7 h7 => ?_⟩
                refine ⟨_, _, _, _, rfl, s36.trans s7, fun z => by omega, fun _ => ⟨t5, rfl, fun H8 s8 => ?_⟩⟩
                refine k t5 H8 ((sL.trans s36).trans (s7.trans s8)) ?_
                rw [List.append_assoc] at h7
                exact Same.tup s8 h7
            · obtain ⟨t, rfl, ht⟩ := hf2 (by omega)
              refine ⟨rfl, _, rfl, iteF ⟨_, rfl, ?_⟩⟩
              exact ⟨_, _, _, _, rfl, s4, fun z => by omega, fun _ => ⟨t, rfl, ht⟩⟩
          · rintro st H4 ⟨f, u3, u4, u5, rfl, s4, hf1, hf2⟩
            refine ⟨f, rfl, ?_⟩
            have hly : (ys.map V.str).length = ys.length := List.length_map ..
            rcases hv with ⟨rfl, k⟩ | ⟨z, jj, b, pp, e, _, _, hb, k⟩
            · rw [hf1 (by omega)]
              exact k H4 (sL.trans s4)
            · have := (List.getElem?_eq_some_iff.mp e).1
              obtain ⟨t, rfl, ht⟩ := hf2 (by omega)
              exact ht H4 (Same.refl H4)
        · have hN : ks.all plainS = false := by
            cases e : ks.all plainS with
            | true => exact absurd e ca
            | false => rfl
          refine (if_neg ca).symm ▸ ?_
          refine ⟨_, rfl, .ref p, rfl, .inl (.inr ⟨⟨p, _, rfl, .base (.dK hp2), .inr rfl⟩, fun H3 s3 => ⟨_, rfl, iteF ⟨_, rfl, ?_⟩⟩⟩)⟩
          rcases h with ⟨hg, k⟩ | ⟨pp, hb, k⟩
          · cases hg with
            | dic _ _ g _ => exact absurd (List.all_eq_true.mpr g) ca
          · cases hb with
            | key _ _ _ =>
              refine k q H3 (sH.trans s3) ?_
              rw [List.map_nil, List.append_nil]
              exact Same.tup (sH.trans s3) hq
            | dic _ _ i kk b p' g _ _ _ _ => exact absurd (List.all_eq_true.mpr g) ca
end
end G58.V

set_option Elab.async false
set_option linter.all false
set_option pp.maxSteps 2500
set_option maxRecDepth 100000
set_option maxHeartbeats 4000000
/-! Items and members, depths, numbers of parts, check. -/
namespace G58.V
open PySem PySem.Spec PyProof.Rows L2 LamX
def kidsV : Val → List Val
  | .lst vs => vs
  | .dic _ vs => vs
  | _ => []
theorem depth_kids (v : Val) : depthV v = depthVs (kidsV v) := by
  cases v <;> first | (unfold depthV kidsV; rfl) | (unfold depthV kidsV depthVs; rfl)
theorem parts_kids (v : Val) : partsV v = 1 + partsVs (kidsV v) := by
  cases v <;> first | (unfold partsV kidsV; rfl) | (unfold partsV kidsV partsVs; rfl)
theorem depth_perm {vs us : List Val} (h : vs.Perm us) : depthVs vs = depthVs us := by
  induction h with
  | nil => rfl
  | cons x _ ih => unfold depthVs; rw [ih]
  | swap x y l => simp only [depthVs]; omega
  | trans _ _ a b => exact a.trans b
theorem parts_perm {vs us : List Val} (h : vs.Perm us) : partsVs vs = partsVs us := by
  induction h with
  | nil => rfl
  | cons x _ ih => unfold partsVs; rw [ih]
  | swap x y l => simp only [partsVs]; omega
  | trans _ _ a b => exact a.trans b
theorem small_all : ∀ {vs : List Val}, smallVs vs ↔ ∀ b ∈ vs, smallV b
  | [] => by unfold smallVs; exact ⟨fun _ b hb => (nomatch hb), fun _ => True.intro⟩
  | a :: r => by
    unfold smallVs
    rw [small_all (vs := r)]
    exact ⟨fun h b hb => (List.mem_cons.mp hb).elim (fun e => e ▸ h.1) (h.2 b), fun h => ⟨h a (List.mem_cons_self ..), fun b hb => h b (List.mem_cons_of_mem _ hb)⟩⟩
theorem small_kids {v : Val} (h : smallV v) : ∀ b ∈ kidsV v, smallV b := by
  cases v with
  | leaf l => exact fun b hb => nomatch hb
  | tup l => exact fun b hb => nomatch hb
  | odd => exact fun b hb => nomatch hb
  | lst vs => unfold smallV at h; exact small_all.mp h.2
  | dic ks vs => unfold smallV at h; exact small_all.mp h.2.2
theorem small_len {v : Val} {K : PySem.W.Frag} {a : Ad} {H : Hp} {x : V} (h : smallV v) (hv : ValAt K a H v x) : (kidsV v).length ≤ 100000 := by
  cases v with
  | leaf l => exact Nat.zero_le _
  | tup l => exact Nat.zero_le _
  | odd => exact Nat.zero_le _
  | lst vs => unfold smallV at h; exact h.1
  | dic ks vs =>
    unfold smallV at h
    unfold ValAt at hv
    obtain ⟨p, xs, ys, _, _, h1, _, rfl, h2⟩ := hv
    have := (vals_at h2).1
    show vs.length ≤ _
    omega
theorem depth_all {vs : List Val} {b : Val} (h : b ∈ vs) : 1 + depthV b ≤ depthVs vs := by
  obtain ⟨i, hi⟩ := List.getElem?_of_mem h
  exact depth_at hi
theorem depth_max : ∀ {vs : List Val} {m : Int}, m ∈ (0 : Int) :: vs.map (fun b => ((1 + depthV b : Nat) : Int)) → (∀ y ∈ (0 : Int) :: vs.map (fun b => ((1 + depthV b : Nat) : Int)), y ≤ m) → m = (depthVs vs : Nat) := by
  intro vs m h1 h2
  have a : m ≤ (depthVs vs : Nat) := by
    rcases List.mem_cons.mp h1 with rfl | h
    · omega
    · obtain ⟨b, hb, rfl⟩ := List.mem_map.mp h
      have := depth_all hb
      omega
  have b : ∀ us : List Val, (∀ y ∈ (0 : Int) :: us.map (fun b => ((1 + depthV b : Nat) : Int)), y ≤ m) → ((depthVs us : Nat) : Int) ≤ m := by
    intro us
    induction us with
    | nil => exact fun h => h 0 (List.mem_cons_self ..)
    | cons x r ih =>
      intro h
      have h3 := ih fun y hy => h y (by
        rcases List.mem_cons.mp hy with rfl | hy
        · exact List.mem_cons_self ..
        · exact List.mem_cons_of_mem _ (List.mem_cons_of_mem _ hy))
      have h4 := h ((1 + depthV x : Nat) : Int) (List.mem_cons_of_mem _ (List.mem_cons_self ..))
      unfold depthVs
      omega
  have := b vs h2
  omega
theorem parts_sum : ∀ vs : List Val, (vs.map fun b => ((partsV b : Nat) : Int)).sum = (partsVs vs : Nat)
  | [] => by unfold partsVs; rfl
  | a :: r => by
    unfold partsVs
    rw [List.map_cons, List.sum_cons, parts_sum r]
    omega
theorem lift_perm {α β : Type} {f : α → β} {ys m : List β} (h : ys.Perm m) : ∀ {l : List α}, m = l.map f → ∃ l' : List α, l'.Perm l ∧ l'.map f = ys := by
  induction h with
  | nil =>
    intro l e
    exact ⟨l, .refl _, e.symm⟩
  | cons x _ ih =>
    intro l e
    cases l with
    | nil => cases e
    | cons a t =>
      rw [List.map_cons] at e
      injection e with e1 e2
      obtain ⟨t', h1, h2⟩ := ih e2
      exact ⟨a :: t', h1.cons a, by rw [List.map_cons, h2, e1]⟩
  | swap x y l0 =>
    intro l e
    match l, e with
    | a :: b :: t, e =>
      rw [List.map_cons, List.map_cons] at e
      injection e with e1 e2
      injection e2 with e2 e3
      exact ⟨b :: a :: t, .swap .., by rw [List.map_cons, List.map_cons, e1, e2, e3]⟩
  | trans _ _ a b =>
    intro l e
    obtain ⟨l2, p2, e2⟩ := b e
    obtain ⟨l1, p1, e1⟩ := a e2.symm
    exact ⟨l1, p1.trans p2, e1⟩
theorem vals_map {α : Type} {K : PySem.W.Frag} {a : Ad} {H : Hp} {f : α → Val} {g : α → V} : ∀ {l : List α}, (∀ t ∈ l, ValAt K a H (f t) (g t)) → ValsAt K a H (l.map f) (l.map g)
  | [], _ => by
    show ValsAt K a H [] []
    unfold ValsAt
    rfl
  | x :: l, h => by
    show ValsAt K a H (f x :: l.map f) (g x :: l.map g)
    unfold ValsAt
    exact ⟨_, _, rfl, h x (List.mem_cons_self ..), vals_map fun t ht => h t (List.mem_cons_of_mem _ ht)⟩
def spIns (K : PySem.W.Frag) (a : Ad) : Sp := fun vs H Q _ => ∃ (v : V) (val : Val), vs = [v] ∧ ValAt K a H val v ∧ smallV val ∧ ∀ (r : Addr) (H' : Hp) (vs' : List Val) (xs : List V), vs'.Perm (kidsV val) → Same H H' → H' r = some (.lst xs) → ValsAt K a H' vs' xs → Q (.ref r) H'
def spDep (K : PySem.W.Frag) (a : Ad) (n : Nat) : Sp := fun vs H Q _ => ∃ (v : V) (val : Val), vs = [v] ∧ ValAt K a H val v ∧ depthV val < n ∧ smallV val ∧ ∀ H', Same H H' → Q (.int ((depthV val : Nat) : Int)) H'
def spPrt (K : PySem.W.Frag) (a : Ad) (n : Nat) : Sp := fun vs H Q _ => ∃ (v : V) (val : Val), vs = [v] ∧ ValAt K a H val v ∧ depthV val < n ∧ smallV val ∧ ∀ H', Same H H' → Q (.int ((partsV val : Nat) : Int)) H'
section
variable {P : Program} {w : World} {K : PySem.W.Frag} {mg : Str → Option Value} {base : Heap} {a : Ad}
theorem scIns : FnScope ["thing", "key"] ["thing"] (defScope sIns) := ⟨rfl, rfl, rfl, by decide +kernel, rfl, by decide +kernel, by decide +kernel⟩
theorem ok_ins (D : Df K a) (T : Txt K mg a) : FnOk P w K mg base CX0 1 a.fIns D.dIns ["thing"] (spIns K a) := by
  refine D.FIns.ok scIns (fun vs H Q E h => ?_) (fun cdv A outer s H vs Q E hr h => ?_)
  · obtain ⟨v, val, rfl, _⟩ := h
    rfl
  · obtain ⟨v, val, rfl, hV, hsm, k⟩ := h
    have hud := hu_of hr
    refine ⟨_, (pss_cons (ps_if (pt_val (pe_callB call_isi (by rfl) T.bisinstance (by decide +kernel) (pa_cons (pv 0) (pa_cons (pe_bltn (v := .ty "list") rfl T.blist (by decide +kernel) rfl) pa_nil)))) (pss_one (ps_ret (pv 0))) pss_nil) (pss_one (ps_ret (pe_ifExp (pt_val (pe_callB call_isi (by rfl) T.bisinstance (by decide +kernel) (pa_cons (pv 0) (pa_cons (pe_bltn (v := .ty "dict") rfl T.bdict (by decide +kernel) rfl) pa_nil)))) (pe_lc (te := tDGet (tVar 0) (tVar 1)) (own := [("key", 1)]) (g := (gName 1)) (tt := tYes) rfl scIns.nd (pi_list (pe_callB (call_sortedDU rfl) (by rfl) T.bsorted (by decide +kernel) (pa_cons (pv 0) pa_nil))) (blkOk_by (N := ["thing", "key"]) (sc := defScope sIns) (by decide +kernel)) (fun _ _ _ _ _ => (pg_name (i := 1) scIns.nd rfl (.inl rfl))) (fun _ _ _ _ _ => pts_nil) (fun _ _ _ _ _ => (pe_dget hud (pv 0) (pv 1) (fun _ _ => rfl)))) (pe_lst pa_nil))))), ?_⟩
    have fin : (∃ t, TyX K H v t ∧ PySem.W.kitOne K t (.type "list") = some false ∧ PySem.W.kitOne K t (.type "dict") = some false) → kidsV val = [] → ∀ p, H p = none → Q (.ref p) (upd H p (.lst [])) := fun _ e p hp =>
      k p _ [] [] (by rw [e]) (same_new (Same.refl H) hp) upd_same (by unfold ValsAt; rfl)
    cases val with
    | lst vs =>
      unfold ValAt at hV
      obtain ⟨p, xs, rfl, hp, hvs⟩ := hV
      refine ⟨_, rfl, .ref p, .ty "list", _, _, true, rfl, .ty _, .base (.lst hp), kit_ty (by decide +kernel), _, rfl, iteT ?_⟩
      exact ⟨_, rfl, k p H vs xs (.refl _) (Same.refl H) hp hvs⟩
    | leaf l =>
      unfold ValAt at hV
      obtain ⟨t, ty, kl, kd⟩ := ty_leaf T hV
      refine ⟨_, rfl, v, .ty "list", t, _, false, rfl, .ty _, ty, kl, _, rfl, iteF ?_⟩
      refine ⟨_, rfl, v, .ty "dict", t, _, false, rfl, .ty _, ty, kd, _, rfl, iteF ⟨by show 0 ≤ sizeLine; decide, fun p hp => ?_⟩⟩
      exact fin ⟨t, ty, kl, kd⟩ rfl p hp
    | tup vs =>
      unfold ValAt at hV
      obtain ⟨r, rfl, hr1⟩ := hV
      have ty : TyX K H (.ref r) (.type "tuple") := sqT_ty hr1
      refine ⟨_, rfl, .ref r, .ty "list", _, _, false, rfl, .ty _, ty, kit_ty (by decide +kernel), _, rfl, iteF ?_⟩
      refine ⟨_, rfl, .ref r, .ty "dict", _, _, false, rfl, .ty _, ty, kit_ty (by decide +kernel), _, rfl, iteF ⟨by show 0 ≤ sizeLine; decide, fun p hp => ?_⟩⟩
      exact fin ⟨_, ty, kit_ty (by decide +kernel), kit_ty (by decide +kernel)⟩ rfl p hp
    | odd =>
      unfold ValAt at hV
      obtain ⟨r, dx, rfl, hr1⟩ := hV
      have ty : TyX K H (.ref r) (.ref a.cUnfit) := od_ty T hr1
      refine ⟨_, rfl, .ref r, .ty "list", _, _, false, rfl, .ty _, ty, T.koUnfit_list, _, rfl, iteF ?_⟩
      refine ⟨_, rfl, .ref r, .ty "dict", _, _, false, rfl, .ty _, ty, T.koUnfit_dict, _, rfl, iteF ⟨by show 0 ≤ sizeLine; decide, fun p hp => ?_⟩⟩
      exact fin ⟨_, ty, T.koUnfit_list, T.koUnfit_dict⟩ rfl p hp
    | dic ks vs =>
      unfold ValAt at hV
      obtain ⟨p, xs, ys0, rfl, hp, hkl, hnd, rfl, hvs⟩ := hV
      unfold smallV at hsm
      obtain ⟨hlen, hat⟩ := vals_at hvs
      refine ⟨_, rfl, .ref p, .ty "list", _, _, false, rfl, .ty _, .base (.dK hp), kit_ty (by decide +kernel), _, rfl, iteF ?_⟩
      refine ⟨_, rfl, .ref p, .ty "dict", _, _, true, rfl, .ty _, .base (.dK hp), kit_ty (by decide +kernel), _, rfl, iteT ?_⟩
      have ekv : ((ks.map (Sum.inr : Str → Key)).zip ys0).map Prod.fst = ks.map Sum.inr := by
        rw [List.map_fst_zip]
        rw [List.length_map]
        omega
      have vkv : ∀ (j : Nat) (z : Str) (x : V), ks[j]? = some z → ys0[j]? = some x → valV ((ks.map (Sum.inr : Str → Key)).zip ys0) (Sum.inr z) = some x := fun j z x h1 h2 => zip_val hnd h1 h2
      generalize (ks.map (Sum.inr : Str → Key)).zip ys0 = kvs at hp ekv vkv
      refine ⟨_, rfl, p, kvs, ks, rfl, .inl hp, ekv, Nat.le_trans hsm.1 (by decide), fun ys LA hpm hpw hLA => ?_⟩
      have sL := same_new (o := .lst (ys.map V.str)) (Same.refl H) hLA
      have eL : (upd H LA (.lst (ys.map V.str))) LA = some (.lst (ys.map V.str)) := upd_same
      generalize upd H LA (.lst (ys.map V.str)) = H3 at sL eL ⊢
      obtain ⟨tr, htr⟩ : ∃ tr, tr = ks.zip (vs.zip ys0) := ⟨_, rfl⟩
      have e1 : tr.map Prod.fst = ks := by
        rw [htr, List.map_fst_zip]
        rw [List.length_zip]
        omega
      have e2 : tr.map (fun t => t.2.1) = vs := by
        have : tr.map (fun t => t.2.1) = (tr.map Prod.snd).map Prod.fst := by rw [List.map_map]; rfl
        rw [this, htr, List.map_snd_zip (by rw [List.length_zip]; omega), List.map_fst_zip (by omega)]
      have hm : ∀ t ∈ tr, ValAt K a H t.2.1 t.2.2 ∧ valV kvs (Sum.inr t.1) = some t.2.2 := fun t ht => by
        obtain ⟨i, hi⟩ := List.getElem?_of_mem ht
        rw [htr] at hi
        obtain ⟨g1, g2⟩ := List.getElem?_zip_eq_some.mp hi
        obtain ⟨g3, g4⟩ := List.getElem?_zip_eq_some.mp g2
        exact ⟨hat i _ _ g3 g4, vkv i _ _ g1 g4⟩
      rw [← e1] at hpm
      obtain ⟨tr', hp', e3⟩ := lift_perm hpm rfl
      clear htr
      refine ⟨LA, rfl, ⟨_, .inl (.inl eL)⟩, fun DL hDL => lc_it (walk_list (K := K) (a := LA) (xs := ys.map V.str)) (fun i H' => H' DL = some (.lst ((tr'.take i).map fun t => t.2.2)) ∧ Same H3 H') ⟨by rw [List.take_zero]; exact upd_same, same_new (Same.refl H3) hDL⟩ (fun i H4 _ q => .inl (.inl (q.2 _ _ eL))) ?_ ?_⟩
      · rintro i y H1 H2 hi ⟨e4, s4⟩ ⟨rfl, hy⟩
        rw [← e3, List.map_map, List.getElem?_map] at hy
        obtain ⟨t, ht, rfl⟩ := Option.map_eq_some_iff.mp hy
        have hmt := hm t (hp'.mem_iff.mp (List.mem_of_getElem? ht))
        refine ⟨rfl, ⟨_, rfl, _, rfl, p, t.2.2, rfl, ?_, ?_⟩⟩
        · rw [← hmt.2]
          exact DGet.k (k := Sum.inr t.1) (s4 _ _ (sL _ _ hp))
        refine ⟨_, e4, ?_, ?_, fun b o e => ?_⟩
        · rw [List.length_map, List.length_take]
          rw [List.length_map, ← e3, List.length_map, hp'.length_eq, ← List.length_map (f := Prod.fst), e1] at hi
          exact Nat.lt_of_le_of_lt (by omega : _ ≤ 100000) (by decide)
        · rw [upd_same, List.take_add_one, ht, List.map_append]
          rfl
        · rw [upd_ne (ne_of_none e hDL)]
          exact s4 _ _ e
      · rintro H4 ⟨e4, s4⟩
        have : (ys.map V.str).length = tr'.length := by rw [← e3, List.length_map, List.length_map]
        rw [this, List.take_length] at e4
        refine k DL H4 (tr'.map fun t => t.2.1) _ ?_ (sL.trans s4) e4 (vals_map fun t ht => ValAt.same (sL.trans s4) _ _ (hm t (hp'.mem_iff.mp ht)).1)
        show List.Perm _ vs
        rw [← e2]
        exact hp'.map _
theorem scDep : FnScope ["thing", "one"] ["thing"] (defScope sDep) := ⟨rfl, rfl, rfl, by decide +kernel, rfl, by decide +kernel, by decide +kernel⟩
theorem ok_dep (D : Df K a) (T : Txt K mg a) : ∀ n : Nat, FnOk P w K mg base CX0 (n + 1) a.fDep D.dDep ["thing"] (spDep K a n)
  | 0 => ok_elim fun vs H Q E h => by
    obtain ⟨v, val, _, _, hd, _⟩ := h
    omega
  | n + 1 => by
    have GDep : FnOk P w K mg base CX0 (n + 1) a.fDep D.dDep ["thing"] (spDep K a n) := ok_dep D T n
    have GIns : FnOk P w K mg base CX0 1 a.fIns D.dIns ["thing"] (spIns K a) := ok_ins D T
    refine D.FDep.ok (k := n + 1) scDep (fun vs H Q E h => ?_) (fun cdv A outer s H vs Q E hr h => ?_)
    · obtain ⟨v, val, rfl, _⟩ := h
      rfl
    · obtain ⟨v, val, rfl, hV, hd, hsm, k⟩ := h
      have hr1 : Room 1 _ := hr.mono (by omega)
      refine ⟨_, (pss_one (ps_ret (pe_callB (cr_max rfl) (by rfl) T.bmax (by decide +kernel) (pa_cons (pe_op op_cat (pe_lst (pa_cons pe_int pa_nil)) (pe_lc (te := tOp rAdd (tC (.int 1)) (tCall (spDep K a n) [] E0 (tCons (tVar 1) tNil))) (own := [("one", 1)]) (g := (gName 1)) (tt := tYes) rfl scDep.nd (pi_list (pe_call GIns hr1 rfl T.gIns D.FIns.kp D.bIns .nil pass0 (pa_cons (pv 0) pa_nil))) (blkOk_by (N := ["thing", "one"]) (sc := defScope sDep) (by decide +kernel)) (fun _ _ _ _ _ => (pg_name (i := 1) scDep.nd rfl (.inl rfl))) (fun _ _ _ _ _ => pts_nil) (fun _ _ _ _ _ => (pe_op op_add pe_int (pe_call GDep hr rfl T.gDep D.FDep.kp D.bDep .nil pass0 (pa_cons (pv 1) pa_nil)))))) pa_nil)))), ?_⟩
      refine ⟨by show 1 ≤ sizeLine; decide, fun q0 hq0 => ?_⟩
      have s0 := same_new (o := .lst [.int 0]) (Same.refl H) hq0
      have e0 : (upd H q0 (.lst [.int 0])) q0 = some (.lst [.int 0]) := upd_same
      generalize upd H q0 (.lst [.int 0]) = H0 at s0 e0 ⊢
      refine ⟨_, rfl, v, val, rfl, ValAt.same s0 _ _ hV, hsm, fun r H1 vs' xs hpm s1 er hvs => ?_⟩
      have s01 := s0.trans s1
      obtain ⟨hlen, hat⟩ := vals_at hvs
      have dk := depth_kids val
      rw [← depth_perm hpm] at dk
      have l5 := small_len hsm hV
      rw [← hpm.length_eq] at l5
      refine ⟨r, rfl, ⟨_, .inl (.inl er)⟩, fun DL hDL => lc_it (walk_list (K := K) (a := r) (xs := xs)) (fun i H' => H' DL = some (.lst (((vs'.take i).map fun b => ((1 + depthV b : Nat) : Int)).map V.int)) ∧ Same H1 H') ⟨by rw [List.take_zero]; exact upd_same, same_new (Same.refl H1) hDL⟩ (fun i H4 _ q => .inl (.inl (q.2 _ _ er))) ?_ ?_⟩
      · rintro i y H2 H3 hi ⟨e4, s4⟩ ⟨rfl, hy⟩
        have eb : vs'[i]? = some (vs'[i]'(by omega)) := List.getElem?_eq_getElem _
        generalize vs'[i]'(by omega) = b at eb
        have db := depth_at eb
        refine ⟨rfl, ⟨_, rfl, y, b, rfl, ValAt.same s4 _ _ (hat i b y eb hy), by omega, small_kids hsm b (hpm.mem_iff.mp (List.mem_of_getElem? eb)), fun H5 s5 => ?_⟩⟩
        refine ⟨_, _, rfl, rfl, _, s5 _ _ e4, ?_, ?_, fun b' o e => ?_⟩
        · rw [List.length_map, List.length_map, List.length_take]
          exact Nat.lt_of_le_of_lt (by omega : _ ≤ 100000) (by decide)
        · rw [upd_same, List.take_add_one, eb, List.map_append, List.map_append]
          show _ = some (HO.lst (_ ++ [V.int ((1 + depthV b : Nat) : Int)]))
          rw [Int.natCast_add]
          rfl
        · rw [upd_ne (ne_of_none e hDL)]
          exact s5 _ _ (s4 _ _ e)
      · rintro H4 ⟨e4, s4⟩
        rw [hlen, List.take_length] at e4
        refine ⟨q0, DL, _, _, rfl, rfl, s4 _ _ (s1 _ _ e0), e4, ?_, fun m hm => ?_⟩
        · rw [List.length_map, List.length_map]
          exact Nat.le_trans (by show 1 + vs'.length ≤ 100001; omega) (by decide)
        have e6 : (upd H4 m (.lst ([V.int 0] ++ (vs'.map fun b => ((1 + depthV b : Nat) : Int)).map V.int))) m = some (.lst (((0 : Int) :: vs'.map fun b => ((1 + depthV b : Nat) : Int)).map V.int)) := upd_same
        refine ⟨m, _, rfl, .inl (.inl e6), Nat.succ_pos _, fun x hx hy => ?_⟩
        rw [depth_max hx hy, ← dk]
        exact k _ (same_new (s01.trans s4) hm)
theorem scPrt : FnScope ["thing", "one"] ["thing"] (defScope sPrt) := ⟨rfl, rfl, rfl, by decide +kernel, rfl, by decide +kernel, by decide +kernel⟩
theorem ok_prt (D : Df K a) (T : Txt K mg a) : ∀ n : Nat, FnOk P w K mg base CX0 (n + 1) a.fPrt D.dPrt ["thing"] (spPrt K a n)
  | 0 => ok_elim fun vs H Q E h => by
    obtain ⟨v, val, _, _, hd, _⟩ := h
    omega
  | n + 1 => by
    have GPrt : FnOk P w K mg base CX0 (n + 1) a.fPrt D.dPrt ["thing"] (spPrt K a n) := ok_prt D T n
    have GIns : FnOk P w K mg base CX0 1 a.fIns D.dIns ["thing"] (spIns K a) := ok_ins D T
    refine D.FPrt.ok (k := n + 1) scPrt (fun vs H Q E h => ?_) (fun cdv A outer s H vs Q E hr h => ?_)
    · obtain ⟨v, val, rfl, _⟩ := h
      rfl
    · obtain ⟨v, val, rfl, hV, hd, hsm, k⟩ := h
      have hr1 : Room 1 _ := hr.mono (by omega)
      refine ⟨_, (pss_one (ps_ret (pe_op op_add pe_int (pe_callB (cr_sum rfl) (by rfl) T.bsum (by decide +kernel) (pa_cons (pe_lc (te := tCall (spPrt K a n) [] E0 (tCons (tVar 1) tNil)) (own := [("one", 1)]) (g := (gName 1)) (tt := tYes) rfl scPrt.nd (pi_list (pe_call GIns hr1 rfl T.gIns D.FIns.kp D.bIns .nil pass0 (pa_cons (pv 0) pa_nil))) (blkOk_by (N := ["thing", "one"]) (sc := defScope sPrt) (by decide +kernel)) (fun _ _ _ _ _ => (pg_name (i := 1) scPrt.nd rfl (.inl rfl))) (fun _ _ _ _ _ => pts_nil) (fun _ _ _ _ _ => (pe_call GPrt hr rfl T.gPrt D.FPrt.kp D.bPrt .nil pass0 (pa_cons (pv 1) pa_nil)))) pa_nil))))), ?_⟩
      refine ⟨_, rfl, v, val, rfl, hV, hsm, fun r H1 vs' xs hpm s1 er hvs => ?_⟩
      obtain ⟨hlen, hat⟩ := vals_at hvs
      have dk := depth_kids val
      rw [← depth_perm hpm] at dk
      have pk := parts_kids val
      rw [← parts_perm hpm] at pk
      have l5 := small_len hsm hV
      rw [← hpm.length_eq] at l5
      refine ⟨r, rfl, ⟨_, .inl (.inl er)⟩, fun DL hDL => lc_it (walk_list (K := K) (a := r) (xs := xs)) (fun i H' => H' DL = some (.lst (((vs'.take i).map fun b => ((partsV b : Nat) : Int)).map V.int)) ∧ Same H1 H') ⟨by rw [List.take_zero]; exact upd_same, same_new (Same.refl H1) hDL⟩ (fun i H4 _ q => .inl (.inl (q.2 _ _ er))) ?_ ?_⟩
      · rintro i y H2 H3 hi ⟨e4, s4⟩ ⟨rfl, hy⟩
        have eb : vs'[i]? = some (vs'[i]'(by omega)) := List.getElem?_eq_getElem _
        generalize vs'[i]'(by omega) = b at eb
        have db := depth_at eb
        refine ⟨rfl, ⟨_, rfl, y, b, rfl, ValAt.same s4 _ _ (hat i b y eb hy), by omega, small_kids hsm b (hpm.mem_iff.mp (List.mem_of_getElem? eb)), fun H5 s5 => ?_⟩⟩
        refine ⟨_, s5 _ _ e4, ?_, ?_, fun b' o e => ?_⟩
        · rw [List.length_map, List.length_map, List.length_take]
          exact Nat.lt_of_le_of_lt (by omega : _ ≤ 100000) (by decide)
        · rw [upd_same, List.take_add_one, eb, List.map_append, List.map_append]
          rfl
        · rw [upd_ne (ne_of_none e hDL)]
          exact s5 _ _ (s4 _ _ e)
      · rintro H4 ⟨e4, s4⟩
        rw [hlen, List.take_length] at e4
        refine ⟨DL, _, rfl, .inl (.inl e4), _, _, rfl, rfl, ?_⟩
        rw [parts_sum]
        have ep : (1 : Int) + (partsVs vs' : Nat) = (partsV val : Nat) := by omega
        show Q (V.int ((1 : Int) + (partsVs vs' : Nat))) H4
        rw [ep]
        exact k _ (s1.trans s4)
/-- an error with one field -/
def spE1 (C : Addr) (f : Str) : Sp := fun vs H Q _ => ∃ (a : Addr) (v : V), vs = [.ref a, v] ∧ H a = some (exo a C none) ∧ ∀ dx, H dx = none → dx ≠ a → Q .non (upd (upd H dx (exd dx [(f, v)])) a (exo a C (some dx)))
theorem mk_read1 {C : Addr} {f : Str} {v : V} {H1 : Hp} {Qx : XK} (h : ∀ d, H1 d = none → Qx (.ref C) (some d) (upd H1 d (.xd [(f, v)]))) (x : Addr) (hx : H1 x = none) :
    spE1 C f (.ref x :: ([v] ++ [])) (upd H1 x (exo x C none)) (fun y H2 => y = .non ∧ ∃ (d : Addr) (fs : List (Str × V)), H2 x = some (exo x C (some d)) ∧ H2 d = some (exd d fs) ∧ H1 d = none ∧ Qx (.ref C) (some d) (upd (del H2 x) d (.xd fs))) (fun _ _ _ => False) := by
  refine ⟨x, v, rfl, upd_same, fun dx h1 h2 => ?_⟩
  rw [upd_ne h2] at h1
  refine ⟨rfl, dx, [(f, v)], upd_same, by rw [upd_ne h2, upd_same], h1, ?_⟩
  have e : upd (del (upd (upd (upd H1 x (exo x C none)) dx (exd dx [(f, v)])) x (exo x C (some dx))) x) dx (.xd [(f, v)]) = upd H1 dx (.xd [(f, v)]) := by
    funext b
    by_cases hb : b = dx
    · rw [hb, upd_same, upd_same]
    · rw [upd_ne hb, upd_ne hb]
      by_cases hc : b = x
      · rw [hc, del_same, hx]
      · rw [del_ne hc, upd_ne hc, upd_ne hb, upd_ne hc]
  rw [e]
  exact h dx h1
def Out1 (C : Addr) (f : Str) (H : Hp) (E : XK) (i : Int) : Prop := ∀ d H', Same H H' → H' d = some (.xd [(f, .int i)]) → E (.ref C) (some d) H'
theorem Out1.same {C : Addr} {f : Str} {H H' : Hp} {E : XK} {i : Int} (h : Out1 C f H E i) (s : Same H H') : Out1 C f H' E i := fun d H2 s2 hd => h d H2 (s.trans s2) hd
theorem Out1.go {C : Addr} {f : Str} {H : Hp} {E : XK} {i : Int} (h : Out1 C f H E i) : ∀ d, H d = none → E (.ref C) (some d) (upd H d (.xd [(f, .int i)])) := fun d hd => h d _ (same_new (Same.refl H) hd) upd_same
def OutS (C : Addr) (f : Str) (H : Hp) (E : XK) (z : Str) : Prop := ∀ d H', Same H H' → H' d = some (.xd [(f, .str z)]) → E (.ref C) (some d) H'
theorem OutS.same {C : Addr} {f : Str} {H H' : Hp} {E : XK} {z : Str} (h : OutS C f H E z) (s : Same H H') : OutS C f H' E z := fun d H2 s2 hd => h d H2 (s.trans s2) hd
theorem OutS.go {C : Addr} {f : Str} {H : Hp} {E : XK} {z : Str} (h : OutS C f H E z) : ∀ d, H d = none → E (.ref C) (some d) (upd H d (.xd [(f, .str z)])) := fun d hd => h d _ (same_new (Same.refl H) hd) upd_same
/-- of values less deep than n -/
def spChkL (K : PySem.W.Frag) (a : Ad) (n : Nat) : Sp := fun vs H Q E => ∃ (v : V) (val : Val), vs = [v] ∧ ValAt K a H val v ∧ depthV val < n ∧ smallV val ∧ n ≤ 900 ∧
  ((∃ p : List PStep, BadV val p ∧ OutW K a H (p.map stepV) E) ∨ (GoodV val ∧ ((100 < depthV val ∧ OutS a.cLarge "what" H E "depth") ∨ (depthV val ≤ 100 ∧ 20000 < partsV val ∧ OutS a.cLarge "what" H E "parts") ∨ (depthV val ≤ 100 ∧ partsV val ≤ 20000 ∧ ∀ H', Same H H' → Q .non H'))))
theorem sciL : FnScope ["self", "what"] ["self", "what"] (defScope siL) := ⟨rfl, rfl, rfl, by decide +kernel, rfl, by decide +kernel, by decide +kernel⟩
theorem ok_iL (D : Df K a) (T : Txt K mg a) : FnOk P w K mg base CX0 1 a.fiL D.diL ["self", "what"] (spE1 a.cLarge "what") := by
  refine D.FiL.ok sciL (fun vs H Q E h => ?_) (fun cdv A outer s H vs Q E hr h => ?_)
  · obtain ⟨x, v, rfl, _⟩ := h
    rfl
  · obtain ⟨x, v, rfl, hx, k⟩ := h
    refine ⟨_, (pss_one (ps_ost (pv 0) (pv 1))), ?_⟩
    exact ⟨_, rfl, _, rfl, x, a.cLarge, rfl, T.xLarge.ox, T.noLarge_what, .inl ⟨hx, fun dx h3 h4 => k dx h3 h4⟩⟩
/-- of values less deep than n, not too large -/
def spChk (K : PySem.W.Frag) (a : Ad) (n : Nat) : Sp := fun vs H Q E => ∃ (v : V) (val : Val), vs = [v] ∧ ValAt K a H val v ∧ depthV val < n ∧ smallV val ∧ depthV val ≤ 100 ∧ partsV val ≤ 20000 ∧ n ≤ 900 ∧
  ((GoodV val ∧ ∀ H', Same H H' → Q .non H') ∨ ∃ p : List PStep, BadV val p ∧ OutW K a H (p.map stepV) E)
theorem scChk : FnScope ["value", "path"] ["value"] (defScope sChk) := ⟨rfl, rfl, rfl, by decide +kernel, rfl, by decide +kernel, by decide +kernel⟩
theorem ok_chk (D : Df K a) (T : Txt K mg a) (n : Nat) : FnOk P w K mg base (L2.CX P w) (n + 4) a.fChk D.dChk ["value"] (spChkL K a n) := by
  have GWp : FnOk P w K mg base CX0 (n + 3) a.fWp D.dWp ["thing", "path"] (spWp K a n) := ok_wp D T n
  have GDep : FnOk P w K mg base CX0 (n + 1) a.fDep D.dDep ["thing"] (spDep K a n) := ok_dep D T n
  have GPrt : FnOk P w K mg base CX0 (n + 1) a.fPrt D.dPrt ["thing"] (spPrt K a n) := ok_prt D T n
  have GiV : FnOk P w K mg base CX0 1 a.fiV D.diV ["self", "path"] (spEV K a.cNoValue) := ok_iV D T
  have GiL : FnOk P w K mg base CX0 1 a.fiL D.diL ["self", "what"] (spE1 a.cLarge "what") := ok_iL D T
  refine D.FChk.okX scChk (fun vs H Q E h => ?_) (fun cdv A outer s H vs Q E hr h => ?_)
  · obtain ⟨v, val, rfl, _⟩ := h
    rfl
  · obtain ⟨v, val, rfl, hV, hd, hsm, hn, h⟩ := h
    obtain ⟨t1, kMOST_DEPTH⟩ := T.kMOST_DEPTH
    obtain ⟨t2, kMOST_PARTS⟩ := T.kMOST_PARTS
    have hrw : Room (n + 3) _ := hr.mono (by omega)
    have hrd : Room (n + 1) _ := hr.mono (by omega)
    have hr2 : Room 2 _ := hr.mono (by omega)
    refine ⟨_, (pss_cons (ps_set (i := 1) scChk.nd rfl (.inl rfl) (pe_call GWp hrw rfl T.gWp D.FWp.kp D.bWp .nil pass0 (pa_cons (pv 0) (pa_cons (pe_tup pa_nil) pa_nil)))) (pss_cons (ps_if (pt_cmpR op_notN (pv 1) pe_non (nomark _)) (pss_one (ps_raise rfl (takes_of rfl rfl rfl rfl) (pmk_oex T.xNoValue.ox T.xNoValue.ini T.xNoValue.ti GiV hr2 D.biV .nil pass0 rfl T.gcNoValue (pa_cons (pv 1) pa_nil)))) pss_nil) (pss_cons (ps_if (pt_cmpR op_gt (pe_call GDep hrd rfl T.gDep D.FDep.kp D.bDep .nil pass0 (pa_cons (pv 0) pa_nil)) (pe_glob (v := .int 100) rfl kMOST_DEPTH ⟨_, rfl⟩) (nomark _)) (pss_one (ps_raise rfl (takes_of rfl rfl rfl rfl) (pmk_oex T.xLarge.ox T.xLarge.ini T.xLarge.ti GiL hr2 D.biL .nil pass0 rfl T.gcLarge (pa_cons pe_str pa_nil)))) pss_nil) (pss_one (ps_if (pt_cmpR op_gt (pe_call GPrt hrd rfl T.gPrt D.FPrt.kp D.bPrt .nil pass0 (pa_cons (pv 0) pa_nil)) (pe_glob (v := .int 20000) rfl kMOST_PARTS ⟨_, rfl⟩) (nomark _)) (pss_one (ps_raise rfl (takes_of rfl rfl rfl rfl) (pmk_oex T.xLarge.ox T.xLarge.ini T.xLarge.ti GiL hr2 D.biL .nil pass0 rfl T.gcLarge (pa_cons pe_str pa_nil)))) pss_nil))))), ?_⟩
    refine ⟨_, rfl, by show 0 ≤ sizeLine; decide, fun t0 ht0 => ?_⟩
    have s0 := same_new (o := .tup []) (Same.refl H) ht0
    refine ⟨v, t0, val, [], rfl, ValAt.same s0 _ _ hV, hd, hsm, .inl (.inl upd_same), by show 0 + n ≤ 1000; omega, ?_⟩
    rcases h with ⟨p, hb, k⟩ | ⟨hg, k⟩
    · refine .inr ⟨p, hb, fun t1 H1 s1 h1 => ?_⟩
      have s01 := s0.trans s1
      refine ⟨_, rfl, rfl, _, rfl, iteT ?_⟩
      exact ⟨_, rfl, by show 1 ≤ 1000; decide, mk_readV h1 fun d t' H' s2 e1 e2 => k d t' H' (s01.trans s2) e1 e2⟩
    · refine .inl ⟨hg, fun H1 s1 => ?_⟩
      have s01 := s0.trans s1
      refine ⟨_, rfl, rfl, _, rfl, iteF ⟨_, rfl, v, val, rfl, ValAt.same s01 _ _ hV, hd, hsm, fun H2 s2 => ?_⟩⟩
      have s02 := s01.trans s2
      rcases k with ⟨kd, k⟩ | ⟨kd, kp, k⟩ | ⟨kd, kp, k⟩
      · refine ⟨_, _, rfl, rfl, true, congrArg V.bl (decide_eq_true (by omega)), iteT ?_⟩
        exact ⟨by show 1 ≤ 1000; decide, mk_read1 (k.same s02).go⟩
      · refine ⟨_, _, rfl, rfl, false, congrArg V.bl (decide_eq_false (by omega)), iteF ⟨_, rfl, v, val, rfl, ValAt.same s02 _ _ hV, hd, hsm, fun H3 s3 => ?_⟩⟩
        have s03 := s02.trans s3
        refine ⟨_, _, rfl, rfl, true, congrArg V.bl (decide_eq_true (by omega)), iteT ?_⟩
        exact ⟨by show 1 ≤ 1000; decide, mk_read1 (k.same s03).go⟩
      · refine ⟨_, _, rfl, rfl, false, congrArg V.bl (decide_eq_false (by omega)), iteF ⟨_, rfl, v, val, rfl, ValAt.same s02 _ _ hV, hd, hsm, fun H3 s3 => ?_⟩⟩
        exact ⟨_, _, rfl, rfl, false, congrArg V.bl (decide_eq_false (by omega)), iteF (k _ (s02.trans s3))⟩
end
end G58.V

set_option Elab.async false
set_option linter.all false
set_option maxRecDepth 100000
set_option maxHeartbeats 4000000
/-! Plain: texts of paths. -/
namespace G58.V
open PySem PySem.Spec PyProof.Rows L2 NumText
def strN (l : List Nat) : Str := ⟨l.toArray⟩
theorem strN_cps (z : Str) : strN z.cps.toList = z := by
  cases z
  simp [strN]
theorem cps_strN (l : List Nat) : (strN l).cps.toList = l := by simp [strN]
theorem strN_len (l : List Nat) : (strN l).length = l.length := by simp [strN, Str.length]
theorem strN_inj {l m : List Nat} (h : strN l = strN m) : l = m := by
  have := congrArg (fun z : Str => z.cps.toList) h
  simpa [strN] using this
def dgt (c : Nat) : Bool := decide (48 ≤ c ∧ c ≤ 57)
/-- a key from p on: the place of the fault, or the place behind it and its letters -/
def keyF (l : List Nat) : Nat → Nat → List Nat → Sum Nat (Nat × List Nat)
  | 0, p, _ => .inl p
  | f + 1, p, acc => match l[p]? with
    | none => .inl p
    | some c => if c = 34 then .inr (p + 1, acc) else if c = 92 then (match l[p + 1]? with
      | some d => if d = 34 ∨ d = 92 then keyF l f (p + 2) (acc ++ [d]) else .inl (p + 1)
      | none => .inl (p + 1))
      else keyF l f (p + 1) (acc ++ [c])
/-- the figures from e on of a number that begins at b -/
def digF (l : List Nat) (b : Nat) : Nat → Nat → Sum Nat Nat
  | 0, e => .inl e
  | f + 1, e => match l[e]? with
    | none => .inr e
    | some c => if dgt c = true then (if l[b]? = some 48 ∨ e - b = 20 then .inl e else digF l b f (e + 1)) else .inr e
def numV (l : List Nat) (b e : Nat) : Nat := digitsVal ((l.drop b).take (e - b))
def plcF (l : List Nat) (b : Nat) : Sum Nat (Nat × Nat) := match l[b]? with
  | none => .inl b
  | some c => if dgt c = true then (match digF l b (l.length + 1) (b + 1) with
    | .inl p => .inl p
    | .inr e => .inr (e, numV l b e)) else .inl b
/-! ### where they end -/
theorem at_lt {l : List Nat} {p c : Nat} (h : l[p]? = some c) : p < l.length := (List.getElem?_eq_some_iff.mp h).1
theorem keyF_le {l : List Nat} : ∀ {f p : Nat} {acc : List Nat} {e : Nat} {k : List Nat}, keyF l f p acc = .inr (e, k) → p < e ∧ e ≤ l.length ∧ k.length + p + 1 ≤ acc.length + e
  | 0, p, acc, e, k, h => by cases h
  | f + 1, p, acc, e, k, h => by
    rw [keyF] at h
    cases hc : l[p]? with
    | none =>
      rw [hc] at h
      cases h
    | some c =>
      rw [hc] at h
      have pl := at_lt hc
      simp only at h
      split at h
      · injection h with h
        injection h with h1 h2
        subst h1 h2
        omega
      · split at h
        · cases hd : l[p + 1]? with
          | none =>
            rw [hd] at h
            cases h
          | some d =>
            rw [hd] at h
            have := at_lt hd
            simp only at h
            split at h
            · obtain ⟨q1, q2, q3⟩ := keyF_le h
              rw [List.length_append] at q3
              simp only [List.length_cons, List.length_nil] at q3
              omega
            · cases h
        · obtain ⟨q1, q2, q3⟩ := keyF_le h
          rw [List.length_append] at q3
          simp only [List.length_cons, List.length_nil] at q3
          omega
theorem digF_le {l : List Nat} {b : Nat} : ∀ {f e x : Nat}, digF l b f e = .inr x → e ≤ l.length → e ≤ x ∧ x ≤ l.length ∧ ∀ i, e ≤ i → i < x → ∃ c, l[i]? = some c ∧ dgt c = true
  | 0, e, x, h, _ => by cases h
  | f + 1, e, x, h, hl => by
    rw [digF] at h
    cases hc : l[e]? with
    | none =>
      rw [hc] at h
      cases h
      exact ⟨Nat.le_refl _, hl, fun i a b => by omega⟩
    | some c =>
      rw [hc] at h
      simp only at h
      split at h
      · rename_i hd
        split at h
        · cases h
        · obtain ⟨q1, q2, q3⟩ := digF_le h (at_lt hc)
          refine ⟨by omega, q2, fun i a b => ?_⟩
          by_cases hi : i = e
          · subst hi
            exact ⟨c, hc, hd⟩
          · exact q3 i (by omega) b
      · cases h
        exact ⟨Nat.le_refl _, hl, fun i a b => by omega⟩
theorem digF_20 {l : List Nat} {b : Nat} : ∀ {f e x : Nat}, digF l b f e = .inr x → e ≤ b + 20 → x ≤ b + 20
  | 0, e, x, h, _ => by cases h
  | f + 1, e, x, h, hl => by
    rw [digF] at h
    cases hc : l[e]? with
    | none =>
      rw [hc] at h
      cases h
      exact hl
    | some c =>
      rw [hc] at h
      simp only at h
      split at h
      · split at h
        · cases h
        · rename_i n
          exact digF_20 h (by omega)
      · cases h
        exact hl
/-- the figures of a number are a number's text -/
theorem num_text {l : List Nat} {b e : Nat} (hb : b < e) (he : e ≤ l.length) (h20 : e ≤ b + 20) (h : ∀ i, b ≤ i → i < e → ∃ c, l[i]? = some c ∧ dgt c = true) : PySem.intText? (strN ((l.drop b).take (e - b))) = some ((numV l b e : Nat) : Int) ∧ (strN ((l.drop b).take (e - b))).length ≤ 20 := by
  have ll : ((l.drop b).take (e - b)).length = e - b := by
    rw [List.length_take, List.length_drop]
    omega
  have al : AllDigits (strN ((l.drop b).take (e - b))).cps.toList := by
    rw [cps_strN]
    intro c hc
    obtain ⟨i, hi⟩ := List.getElem?_of_mem hc
    have il := (List.getElem?_eq_some_iff.mp hi).1
    rw [ll] at il
    rw [List.getElem?_take_of_lt il, List.getElem?_drop] at hi
    obtain ⟨d, h1, h2⟩ := h (b + i) (by omega) (by omega)
    rw [h1] at hi
    cases hi
    exact of_decide_eq_true h2
  have := PySem.intText_digits al (by rw [cps_strN]; intro z; have := congrArg List.length z; rw [ll] at this; simp at this; omega) (by rw [strN_len, ll]; omega)
  rw [cps_strN] at this
  exact ⟨this, by rw [strN_len, ll]; omega⟩
end G58.V

set_option Elab.async false
set_option linter.all false
set_option maxRecDepth 100000
set_option maxHeartbeats 4000000
/-! Plain: what a text writes (good texts alone). -/
namespace G58.V
open PySem PySem.Spec PyProof.Rows L2 NumText
abbrev hexL : List Nat := [48, 49, 50, 51, 52, 53, 54, 55, 56, 57, 97, 98, 99, 100, 101, 102]
def isAt (l g : List Nat) (p : Nat) : Bool := match l[p]? with
  | some c => decide (c ∈ g)
  | none => false
theorem isAt_lt {l g : List Nat} {p : Nat} (h : isAt l g p = true) : ∃ c, l[p]? = some c ∧ c ∈ g ∧ p < l.length := by
  unfold isAt at h
  cases e : l[p]? with
  | none => rw [e] at h; cases h
  | some c =>
    rw [e] at h
    exact ⟨c, rfl, of_decide_eq_true h, at_lt e⟩
/-- a number of so many hexadecimal digits -/
def hexF (l : List Nat) : Nat → Nat → Nat → Option (Nat × Nat)
  | 0, p, acc => some (p, acc)
  | n + 1, p, acc => match l[p]? with
    | some c => if c ∈ hexL then hexF l n (p + 1) (16 * acc + hexL.idxOf c) else none
    | none => none
/-- so many groups of g digits -/
def hxnF (l : List Nat) (g : Nat) : Nat → Nat → List Nat → Option (Nat × List Nat)
  | 0, p, acc => some (p, acc)
  | n + 1, p, acc => match hexF l g p 0 with
    | some (e, v) => hxnF l g n e (acc ++ [v])
    | none => none
/-- groups as long as there are digits -/
def hxsF (l : List Nat) (g : Nat) : Nat → Nat → List Nat → Option (Nat × List Nat)
  | 0, _, _ => none
  | f + 1, p, acc => if isAt l hexL p = true then (match hexF l g p 0 with
    | some (e, v) => hxsF l g f e (acc ++ [v])
    | none => none) else some (p, acc)
def stgF (l : List Nat) (p : Nat) : Option (Nat × List Nat) :=
  if l[p]? = some 34 then (match keyF l (l.length + 1) (p + 1) [] with
    | .inr r => some r
    | .inl _ => none) else none
def figF (l : List Nat) (p : Nat) : Option (Nat × Nat) := match plcF l p with
  | .inr r => some r
  | .inl _ => none
def sitF (l : List Nat) (p : Nat) : Option (Nat × Int) :=
  if l[p]? = some 45 then (if l[p + 1]? = some 48 then none else (figF l (p + 1)).map fun r => (r.1, -(r.2 : Int)))
  else (figF l p).map fun r => (r.1, (r.2 : Int))
/-- a word that stands there -/
def expF (l : List Nat) : List Nat → Nat → Option Nat
  | [], p => some p
  | c :: g, p => if l[p]? = some c then expF l g (p + 1) else none
abbrev intsL (us : List Nat) : List Int := us.map fun n => ((n : Nat) : Int)
def thgV (y : Wy) (us : List Nat) : Val := .leaf (.thg y (.row (intsL us)))
/-- behind the letter -/
def ltdF (l : List Nat) (p c : Nat) : Option (Nat × Val) :=
  if c = 119 then (match hexF l 4 p 0 with
    | some (e, v) => (hxsF l 4 (l.length + 1) e [v]).map fun r => (r.1, if r.2.all plainC then .odd else thgV .w r.2)
    | none => none)
  else if c = 114 then (match hxnF l 2 4 p [] with
    | some (e, os) => if isAt l hexL e = true then (hxnF l 2 4 e []).map fun r => (r.1, thgV .r (os ++ r.2)) else some (e, thgV .r os)
    | none => none)
  else if c = 100 then (hxsF l 2 (l.length + 1) p []).map fun r => (r.1, thgV .d r.2)
  else if c = 116 then (hxnF l 2 8 p []).map fun r => (r.1, thgV .t r.2)
  else (figF l p).map fun r => (r.1, if r.2 ≤ 18446744073709551615 then .leaf (.thg .u (.num (r.2 : Int))) else .odd)
/-- items as long as there are commas -/
def lsnF (l : List Nat) (val : Nat → Option (Nat × Val)) : Nat → Nat → List Val → Option (Nat × Val)
  | 0, _, _ => none
  | f + 1, e, acc => if l[e]? = some 44 then (match val (e + 1) with
    | some (e2, v) => lsnF l val f e2 (acc ++ [v])
    | none => none) else if l[e]? = some 93 then some (e + 1, .lst acc) else none
def lstF (l : List Nat) (val : Nat → Option (Nat × Val)) (p : Nat) : Option (Nat × Val) :=
  if l[p]? = some 91 then (if l[p + 1]? = some 93 then some (p + 2, .lst []) else match val (p + 1) with
    | some (e, v) => lsnF l val (l.length + 1) e [v]
    | none => none) else none
def memF (l : List Nat) (val : Nat → Option (Nat × Val)) (p : Nat) (ks : List Str) : Option (Nat × Str × Val) := match stgF l p with
  | some (e, k) => if strN k ∈ ks then none else if l[e]? = some 58 then (val (e + 1)).map fun r => (r.1, strN k, r.2) else none
  | none => none
def dcnF (l : List Nat) (val : Nat → Option (Nat × Val)) : Nat → Nat → List Str → List Val → Option (Nat × Val)
  | 0, _, _, _ => none
  | f + 1, e, ks, vs => if l[e]? = some 44 then (match memF l val (e + 1) ks with
    | some (e2, k, v) => dcnF l val f e2 (ks ++ [k]) (vs ++ [v])
    | none => none) else if l[e]? = some 125 then some (e + 1, .dic ks vs) else none
def dicF (l : List Nat) (val : Nat → Option (Nat × Val)) (p : Nat) : Option (Nat × Val) :=
  if l[p]? = some 123 then (if l[p + 1]? = some 125 then some (p + 2, .dic [] []) else match memF l val (p + 1) [] with
    | some (e, k, v) => dcnF l val (l.length + 1) e [k] [v]
    | none => none) else none
/-- the value at a place, less than n deep -/
def vaF (l : List Nat) : Nat → Nat → Option (Nat × Val)
  | 0, _ => none
  | n + 1, p =>
    if l[p]? = some 34 then (stgF l p).map fun r => (r.1, .leaf (.str (strN r.2)))
    else if l[p]? = some 91 then lstF l (vaF l n) p
    else if l[p]? = some 123 then dicF l (vaF l n) p
    else if l[p]? = some 110 then (expF l [110, 117, 108, 108] p).map fun e => (e, .leaf .non)
    else if l[p]? = some 102 then (expF l [102, 97, 108, 115, 101] p).map fun e => (e, .leaf (.bl false))
    else if (l.drop p).take 2 = [116, 114] then (expF l [116, 114, 117, 101] p).map fun e => (e, .leaf (.bl true))
    else match l[p]? with
      | some c => if c ∈ [119, 100, 117, 114, 116] then ltdF l (p + 1) c else (sitF l p).map fun r => (r.1, .leaf (.int r.2))
      | none => none
/-! ### where they end -/
theorem hexF_le {l : List Nat} : ∀ {n p acc e v : Nat}, hexF l n p acc = some (e, v) → e = p + n ∧ (p ≤ l.length → e ≤ l.length)
  | 0, p, acc, e, v, h => by
    cases h
    exact ⟨rfl, id⟩
  | n + 1, p, acc, e, v, h => by
    rw [hexF] at h
    cases hc : l[p]? with
    | none => rw [hc] at h; cases h
    | some c =>
      rw [hc] at h
      simp only at h
      split at h
      · obtain ⟨h1, h2⟩ := hexF_le h
        exact ⟨by omega, fun _ => h2 (at_lt hc)⟩
      · cases h
theorem hxnF_le {l : List Nat} {g : Nat} : ∀ {n p : Nat} {acc : List Nat} {e : Nat} {vs : List Nat}, hxnF l g n p acc = some (e, vs) → e = p + g * n ∧ (p ≤ l.length → e ≤ l.length) ∧ vs.length = acc.length + n
  | 0, p, acc, e, vs, h => by
    cases h
    exact ⟨rfl, id, rfl⟩
  | n + 1, p, acc, e, vs, h => by
    rw [hxnF] at h
    cases hc : hexF l g p 0 with
    | none => rw [hc] at h; cases h
    | some r =>
      obtain ⟨e1, v1⟩ := r
      rw [hc] at h
      obtain ⟨h1, h2⟩ := hexF_le hc
      obtain ⟨h3, h4, h5⟩ := hxnF_le (show hxnF l g n e1 (acc ++ [v1]) = some (e, vs) from h)
      rw [List.length_append, List.length_singleton] at h5
      exact ⟨by rw [h3, h1, Nat.mul_succ]; omega, fun q => h4 (h2 q), by omega⟩
theorem hxsF_le {l : List Nat} {g : Nat} : ∀ {f p : Nat} {acc : List Nat} {e : Nat} {vs : List Nat}, hxsF l g f p acc = some (e, vs) → p ≤ e ∧ (p ≤ l.length → e ≤ l.length) ∧ g * vs.length + p = g * acc.length + e
  | 0, p, acc, e, vs, h => by cases h
  | f + 1, p, acc, e, vs, h => by
    rw [hxsF] at h
    split at h
    · cases hc : hexF l g p 0 with
      | none => rw [hc] at h; cases h
      | some r =>
        obtain ⟨e1, v1⟩ := r
        rw [hc] at h
        obtain ⟨h1, h2⟩ := hexF_le hc
        obtain ⟨h3, h4, h5⟩ := hxsF_le (show hxsF l g f e1 (acc ++ [v1]) = some (e, vs) from h)
        rw [List.length_append, List.length_singleton, Nat.mul_add, Nat.mul_one] at h5
        exact ⟨by omega, fun q => h4 (h2 q), by omega⟩
    · cases h
      exact ⟨Nat.le_refl _, id, rfl⟩
/-! ### how large they are -/
theorem hexF_lt {l : List Nat} : ∀ {n p acc e v : Nat}, hexF l n p acc = some (e, v) → v < 16 ^ n * (acc + 1)
  | 0, p, acc, e, v, h => by
    cases h
    omega
  | n + 1, p, acc, e, v, h => by
    rw [hexF] at h
    cases hc : l[p]? with
    | none => rw [hc] at h; cases h
    | some c =>
      rw [hc] at h
      simp only at h
      split at h
      · rename_i hm
        have h1 := hexF_lt h
        have h2 : hexL.idxOf c < 16 := List.idxOf_lt_length_of_mem hm
        calc v < 16 ^ n * (16 * acc + hexL.idxOf c + 1) := h1
          _ ≤ 16 ^ n * (16 * (acc + 1)) := Nat.mul_le_mul_left _ (by omega)
          _ = 16 ^ (n + 1) * (acc + 1) := by rw [Nat.pow_succ, Nat.mul_assoc]
      · cases h
theorem hxnF_lt {l : List Nat} {g : Nat} : ∀ {n p : Nat} {acc : List Nat} {e : Nat} {vs : List Nat}, (∀ v ∈ acc, v < 16 ^ g) → hxnF l g n p acc = some (e, vs) → ∀ v ∈ vs, v < 16 ^ g
  | 0, p, acc, e, vs, ha, h => by
    cases h
    exact ha
  | n + 1, p, acc, e, vs, ha, h => by
    rw [hxnF] at h
    cases hc : hexF l g p 0 with
    | none => rw [hc] at h; cases h
    | some r =>
      obtain ⟨e1, v1⟩ := r
      rw [hc] at h
      have h1 := hexF_lt hc
      refine hxnF_lt (fun v hv => ?_) (show hxnF l g n e1 (acc ++ [v1]) = some (e, vs) from h)
      rcases List.mem_append.mp hv with hv | hv
      · exact ha v hv
      · rw [List.mem_singleton.mp hv]
        omega
theorem hxsF_lt {l : List Nat} {g : Nat} : ∀ {f p : Nat} {acc : List Nat} {e : Nat} {vs : List Nat}, (∀ v ∈ acc, v < 16 ^ g) → hxsF l g f p acc = some (e, vs) → ∀ v ∈ vs, v < 16 ^ g
  | 0, p, acc, e, vs, ha, h => by cases h
  | f + 1, p, acc, e, vs, ha, h => by
    rw [hxsF] at h
    split at h
    · cases hc : hexF l g p 0 with
      | none => rw [hc] at h; cases h
      | some r =>
        obtain ⟨e1, v1⟩ := r
        rw [hc] at h
        have h1 := hexF_lt hc
        refine hxsF_lt (fun v hv => ?_) (show hxsF l g f e1 (acc ++ [v1]) = some (e, vs) from h)
        rcases List.mem_append.mp hv with hv | hv
        · exact ha v hv
        · rw [List.mem_singleton.mp hv]
          omega
    · cases h
      exact ha
theorem stgF_le {l : List Nat} {p e : Nat} {k : List Nat} (h : stgF l p = some (e, k)) : l[p]? = some 34 ∧ keyF l (l.length + 1) (p + 1) [] = .inr (e, k) ∧ p < e ∧ e ≤ l.length ∧ k.length ≤ l.length := by
  unfold stgF at h
  split at h
  · rename_i c
    cases hk : keyF l (l.length + 1) (p + 1) [] with
    | inl q => rw [hk] at h; cases h
    | inr r =>
      rw [hk] at h
      cases h
      obtain ⟨q1, q2, q3⟩ := keyF_le hk
      refine ⟨c, rfl, by omega, q2, ?_⟩
      simp only [List.length_nil] at q3
      omega
  · cases h
theorem plcF_le {l : List Nat} {p e n : Nat} (h : plcF l p = .inr (e, n)) : p < e ∧ e ≤ l.length := by
  unfold plcF at h
  cases hc : l[p]? with
  | none =>
    rw [hc] at h
    cases h
  | some c =>
    rw [hc] at h
    simp only at h
    split at h
    · cases hd : digF l p (l.length + 1) (p + 1) with
      | inl q =>
        rw [hd] at h
        cases h
      | inr e' =>
        rw [hd] at h
        cases h
        obtain ⟨q1, q2, _⟩ := digF_le hd (at_lt hc)
        omega
    · cases h
theorem figF_le {l : List Nat} {p e n : Nat} (h : figF l p = some (e, n)) : plcF l p = .inr (e, n) ∧ p < e ∧ e ≤ l.length := by
  unfold figF at h
  cases hk : plcF l p with
  | inl q => rw [hk] at h; cases h
  | inr r =>
    rw [hk] at h
    cases h
    exact ⟨rfl, plcF_le hk⟩
theorem expF_le {l : List Nat} : ∀ {g : List Nat} {p e : Nat}, expF l g p = some e → e = p + g.length ∧ (p ≤ l.length → e ≤ l.length)
  | [], p, e, h => by
    cases h
    exact ⟨rfl, id⟩
  | c :: g, p, e, h => by
    rw [expF] at h
    split at h
    · rename_i hc
      obtain ⟨h1, h2⟩ := expF_le h
      exact ⟨by rw [h1, List.length_cons]; omega, fun _ => h2 (at_lt hc)⟩
    · cases h
theorem map_some {α β : Type} {f : α → β} {o : Option α} {b : β} (h : o.map f = some b) : ∃ x, o = some x ∧ f x = b := Option.map_eq_some_iff.mp h
theorem sitF_le {l : List Nat} {p e : Nat} {n : Int} (h : sitF l p = some (e, n)) : p < e ∧ e ≤ l.length := by
  unfold sitF at h
  split at h
  · split at h
    · cases h
    · obtain ⟨r, h1, h2⟩ := map_some h
      cases h2
      have := figF_le h1
      omega
  · obtain ⟨r, h1, h2⟩ := map_some h
    cases h2
    have := figF_le h1
    omega
theorem ltdF_le {l : List Nat} {p c e : Nat} {v : Val} (hp : p ≤ l.length) (h : ltdF l p c = some (e, v)) : p ≤ e ∧ e ≤ l.length := by
  unfold ltdF at h
  split at h
  · cases hc : hexF l 4 p 0 with
    | none => rw [hc] at h; cases h
    | some r =>
      obtain ⟨e1, v1⟩ := r
      rw [hc] at h
      obtain ⟨r, h1, h2⟩ := map_some h
      cases h2
      obtain ⟨g1, g2⟩ := hexF_le hc
      obtain ⟨g3, g4, _⟩ := hxsF_le h1
      exact ⟨by omega, g4 (g2 hp)⟩
  split at h
  · cases hc : hxnF l 2 4 p [] with
    | none => rw [hc] at h; cases h
    | some r =>
      obtain ⟨e1, v1⟩ := r
      rw [hc] at h
      obtain ⟨g1, g2, _⟩ := hxnF_le hc
      simp only at h
      split at h
      · obtain ⟨r, h1, h2⟩ := map_some h
        cases h2
        obtain ⟨g3, g4, _⟩ := hxnF_le h1
        exact ⟨by omega, g4 (g2 hp)⟩
      · cases h
        exact ⟨by omega, g2 hp⟩
  split at h
  · obtain ⟨r, h1, h2⟩ := map_some h
    cases h2
    obtain ⟨g3, g4, _⟩ := hxsF_le h1
    exact ⟨g3, g4 hp⟩
  split at h
  · obtain ⟨r, h1, h2⟩ := map_some h
    cases h2
    obtain ⟨g3, g4, _⟩ := hxnF_le h1
    exact ⟨by omega, g4 hp⟩
  · obtain ⟨r, h1, h2⟩ := map_some h
    cases h2
    have := figF_le h1
    omega
/-- what a value's reader keeps to -/
def Fwd (l : List Nat) (val : Nat → Option (Nat × Val)) : Prop := ∀ p e v, val p = some (e, v) → p < e ∧ e ≤ l.length
theorem lsnF_le {l : List Nat} {val : Nat → Option (Nat × Val)} (hv : Fwd l val) : ∀ {f p : Nat} {acc : List Val} {e : Nat} {v : Val}, lsnF l val f p acc = some (e, v) → p < e ∧ e ≤ l.length
  | 0, p, acc, e, v, h => by cases h
  | f + 1, p, acc, e, v, h => by
    rw [lsnF] at h
    split at h
    · cases hc : val (p + 1) with
      | none => rw [hc] at h; cases h
      | some r =>
        obtain ⟨e1, v1⟩ := r
        rw [hc] at h
        have h1 := hv _ _ _ hc
        have h2 := lsnF_le hv (show lsnF l val f e1 (acc ++ [v1]) = some (e, v) from h)
        omega
    · split at h
      · rename_i hc
        cases h
        have := at_lt hc
        omega
      · cases h
theorem lstF_le {l : List Nat} {val : Nat → Option (Nat × Val)} (hv : Fwd l val) {p e : Nat} {v : Val} (h : lstF l val p = some (e, v)) : p < e ∧ e ≤ l.length := by
  unfold lstF at h
  split at h
  · split at h
    · rename_i hc
      cases h
      have := at_lt hc
      omega
    · cases hc : val (p + 1) with
      | none => rw [hc] at h; cases h
      | some r =>
        obtain ⟨e1, v1⟩ := r
        rw [hc] at h
        have h1 := hv _ _ _ hc
        have h2 := lsnF_le hv h
        omega
  · cases h
theorem memF_le {l : List Nat} {val : Nat → Option (Nat × Val)} (hv : Fwd l val) {p e : Nat} {ks : List Str} {k : Str} {v : Val} (h : memF l val p ks = some (e, k, v)) : p < e ∧ e ≤ l.length ∧ k ∉ ks := by
  unfold memF at h
  cases hs : stgF l p with
  | none => rw [hs] at h; cases h
  | some r =>
    obtain ⟨e1, k1⟩ := r
    rw [hs] at h
    simp only at h
    split at h
    · cases h
    · rename_i nk
      split at h
      · obtain ⟨r, h1, h2⟩ := map_some h
        cases h2
        have := hv _ _ _ h1
        have := stgF_le hs
        exact ⟨by omega, by omega, nk⟩
      · cases h
theorem dcnF_le {l : List Nat} {val : Nat → Option (Nat × Val)} (hv : Fwd l val) : ∀ {f p : Nat} {ks : List Str} {vs : List Val} {e : Nat} {v : Val}, dcnF l val f p ks vs = some (e, v) → p < e ∧ e ≤ l.length
  | 0, p, ks, vs, e, v, h => by cases h
  | f + 1, p, ks, vs, e, v, h => by
    rw [dcnF] at h
    split at h
    · cases hc : memF l val (p + 1) ks with
      | none => rw [hc] at h; cases h
      | some r =>
        obtain ⟨e1, k1, v1⟩ := r
        rw [hc] at h
        have h1 := memF_le hv hc
        have h2 := dcnF_le hv (show dcnF l val f e1 (ks ++ [k1]) (vs ++ [v1]) = some (e, v) from h)
        omega
    · split at h
      · rename_i hc
        cases h
        have := at_lt hc
        omega
      · cases h
theorem dicF_le {l : List Nat} {val : Nat → Option (Nat × Val)} (hv : Fwd l val) {p e : Nat} {v : Val} (h : dicF l val p = some (e, v)) : p < e ∧ e ≤ l.length := by
  unfold dicF at h
  split at h
  · split at h
    · rename_i hc
      cases h
      have := at_lt hc
      omega
    · cases hc : memF l val (p + 1) [] with
      | none => rw [hc] at h; cases h
      | some r =>
        obtain ⟨e1, k1, v1⟩ := r
        rw [hc] at h
        have h1 := memF_le hv hc
        have h2 := dcnF_le hv h
        omega
  · cases h
theorem vaF_le {l : List Nat} : ∀ n : Nat, Fwd l (vaF l n)
  | 0 => fun p e v h => by cases h
  | n + 1 => fun p e v h => by
    rw [vaF] at h
    split at h
    · obtain ⟨r, h1, h2⟩ := map_some h
      cases h2
      have := stgF_le h1
      omega
    split at h
    · exact lstF_le (vaF_le n) h
    split at h
    · exact dicF_le (vaF_le n) h
    split at h
    · rename_i hc
      obtain ⟨r, h1, h2⟩ := map_some h
      cases h2
      have := at_lt hc
      obtain ⟨g1, g2⟩ := expF_le h1
      have := g2 (by omega)
      simp only [List.length_cons, List.length_nil] at g1
      omega
    split at h
    · rename_i hc
      obtain ⟨r, h1, h2⟩ := map_some h
      cases h2
      have := at_lt hc
      obtain ⟨g1, g2⟩ := expF_le h1
      have := g2 (by omega)
      simp only [List.length_cons, List.length_nil] at g1
      omega
    split at h
    · rename_i hc
      obtain ⟨r, h1, h2⟩ := map_some h
      cases h2
      have pl : p < l.length := by
        have := congrArg List.length hc
        rw [List.length_take, List.length_drop] at this
        simp only [List.length_cons, List.length_nil] at this
        omega
      obtain ⟨g1, g2⟩ := expF_le h1
      have := g2 (by omega)
      simp only [List.length_cons, List.length_nil] at g1
      omega
    cases hc : l[p]? with
    | none => rw [hc] at h; cases h
    | some c =>
      rw [hc] at h
      have pl := at_lt hc
      simp only at h
      split at h
      · have := ltdF_le (by omega) h
        omega
      · obtain ⟨r, h1, h2⟩ := map_some h
        cases h2
        exact sitF_le h1
end G58.V

set_option Elab.async false
set_option linter.all false
set_option pp.maxSteps 2500
set_option maxRecDepth 100000
set_option maxHeartbeats 4000000
/-! The reader of texts (good texts alone). -/
namespace G58.V
open PySem PySem.Spec PyProof.Rows L2 NumText
def scF (l : List Nat) (p : Nat) : List (Str × V) := [("text", .str (strN l)), ("place", .int ((p : Nat) : Int))]
/-- a scanner at p of a text -/
def ScAt (a : Ad) (H : Hp) (x : Addr) (l : List Nat) (p : Nat) : Prop := ∃ dx, H x = some (.ins a.cScanner dx (scF l p))
def ButS (x : Addr) (H H' : Hp) : Prop := ∀ b o, H b = some o → b ≠ x → H' b = some o
theorem ButS.refl (x : Addr) (H : Hp) : ButS x H H := fun _ _ h _ => h
theorem ButS.trans {x : Addr} {H H1 H2 : Hp} (s : ButS x H H1) (t : ButS x H1 H2) : ButS x H H2 := fun b o h n => t b o (s b o h n) n
theorem ButS.same {x : Addr} {H H1 H2 : Hp} (s : ButS x H H1) (t : Same H1 H2) : ButS x H H2 := fun b o h n => t b o (s b o h n)
theorem ButS.of {x : Addr} {H H1 : Hp} (t : Same H H1) : ButS x H H1 := fun b o h _ => t b o h
theorem ButS.put {x : Addr} {H : Hp} {o : HO} : ButS x H (upd H x o) := fun b u h n => by
  rw [upd_ne n]
  exact h
theorem ButS.new {x y : Addr} {H H1 : Hp} {o : HO} (s : ButS x H H1) (hy : H y = none) : ButS x H (upd H1 y o) := fun b u h n => by
  rw [upd_ne (ne_of_none h hy)]
  exact s _ _ h n
theorem ScAt.keep {a : Ad} {H H' : Hp} {x : Addr} {l : List Nat} {p : Nat} (h : ScAt a H x l p) (s : Same H H') : ScAt a H' x l p := by
  obtain ⟨dx, h⟩ := h
  exact ⟨dx, s _ _ h⟩
theorem ScAt.ne {a : Ad} {H : Hp} {x y : Addr} {l : List Nat} {p : Nat} (h : ScAt a H x l p) (e : H y = none) : y ≠ x := fun z => by
  obtain ⟨dx, h⟩ := h
  rw [← z, e] at h
  cases h
theorem ScAt.upd {a : Ad} {H : Hp} {x y : Addr} {l : List Nat} {p : Nat} {o : HO} (h : ScAt a H x l p) (n : y ≠ x) : ScAt a (L2.upd H y o) x l p := by
  obtain ⟨dx, h⟩ := h
  exact ⟨dx, by rw [upd_ne n.symm]; exact h⟩
/-- what is tracked stays tracked -/
def Gr (H H' : Hp) : Prop := ∀ b, H' b = none → H b = none
theorem Gr.refl (H : Hp) : Gr H H := fun _ h => h
theorem Gr.trans {H H1 H2 : Hp} (s : Gr H H1) (t : Gr H1 H2) : Gr H H2 := fun b h => s b (t b h)
theorem Gr.of {a : Ad} {x : Addr} {H H1 : Hp} {l : List Nat} {p : Nat} (b : ButS x H H1) (h : ScAt a H1 x l p) : Gr H H1 := fun y e => by
  by_cases c : y = x
  · exact absurd c (h.ne e)
  · cases q : H y with
    | none => rfl
    | some o => rw [b _ _ q c] at e; cases e
theorem Gr.same {H H1 : Hp} (s : Same H H1) : Gr H H1 := fun y e => by
  cases q : H y with
  | none => rfl
  | some o => rw [s _ _ q] at e; cases e
theorem Gr.upd {H H1 : Hp} {y : Addr} {o : HO} (g : Gr H H1) : Gr H (L2.upd H1 y o) := fun b e => by
  by_cases c : b = y
  · rw [c, upd_same] at e
    cases e
  · rw [upd_ne c] at e
    exact g _ e
/-- what may be changed: lists, dictionaries, scanners -/
def heldO : HO → Bool
  | .lst _ => true
  | .dK _ => true
  | .ins _ _ (_ :: _ :: _) => true
  | _ => false
/-- what is new, and what is never changed -/
def nw (H H' : Hp) : Hp := fun b => match H' b with
  | none => none
  | some o => if (H b).isSome = true ∧ heldO o = true then none else some o
theorem nw_mk {H H' : Hp} {b : Addr} {o : HO} (h : H' b = some o) (n : H b = none ∨ heldO o = false) : nw H H' b = some o := by
  unfold nw
  rw [h]
  show (if _ then _ else _) = _
  rw [if_neg]
  rintro ⟨h1, h2⟩
  rcases n with n | n
  · rw [n] at h1
    cases h1
  · rw [n] at h2
    cases h2
theorem nw_some {H H' : Hp} {b : Addr} {o : HO} (h : nw H H' b = some o) : H' b = some o ∧ (H b = none ∨ heldO o = false) := by
  unfold nw at h
  cases q : H' b with
  | none => rw [q] at h; cases h
  | some u =>
    rw [q] at h
    have h : (if (H b).isSome = true ∧ heldO u = true then none else some u) = some o := h
    by_cases c : (H b).isSome = true ∧ heldO u = true
    · rw [if_pos c] at h
      cases h
    · rw [if_neg c] at h
      cases h
      refine ⟨rfl, ?_⟩
      cases q2 : H b with
      | none => exact .inl rfl
      | some u2 =>
        refine .inr ?_
        cases q3 : heldO o with
        | false => rfl
        | true => exact absurd ⟨by rw [q2]; rfl, q3⟩ c
theorem nw_sub {H H' : Hp} : Same (nw H H') H' := fun b o e => (nw_some e).1
theorem nw_same {H H1 H2 : Hp} (s : Same H1 H2) : Same (nw H H1) (nw H H2) := fun b o e => by
  obtain ⟨h1, h2⟩ := nw_some e
  exact nw_mk (s _ _ h1) h2
theorem nw_upd {H H1 : Hp} {y : Addr} {o o1 : HO} (hy : H y ≠ none) (h1 : H1 y = some o1) (hh : heldO o1 = true) : Same (nw H H1) (nw H (upd H1 y o)) := fun b u e => by
  obtain ⟨g1, g2⟩ := nw_some e
  refine nw_mk ?_ g2
  rw [upd_ne]
  · exact g1
  · rintro rfl
    rw [h1] at g1
    cases g1
    rcases g2 with g2 | g2
    · exact hy g2
    · rw [hh] at g2
      cases g2
theorem nw_new {H H1 : Hp} {y : Addr} {o : HO} (h1 : H1 y = none) : Same (nw H H1) (nw H (upd H1 y o)) := fun b u e => by
  obtain ⟨g1, g2⟩ := nw_some e
  refine nw_mk ?_ g2
  rw [upd_ne (ne_of_none g1 h1)]
  exact g1
theorem nw_gr {H H1 H2 : Hp} (g : Gr H H1) : Same (nw H1 H2) (nw H H2) := fun b o e => by
  obtain ⟨h1, h2⟩ := nw_some e
  exact nw_mk h1 (h2.imp (g b) id)
theorem nw_but {a : Ad} {H H1 H2 : Hp} {x : Addr} {l : List Nat} {p : Nat} (hx : H x ≠ none) (h1 : ScAt a H1 x l p) (s : ButS x H1 H2) : Same (nw H H1) (nw H H2) := fun b o e => by
  obtain ⟨g1, g2⟩ := nw_some e
  refine nw_mk (s _ _ g1 ?_) g2
  rintro rfl
  obtain ⟨dx, h1⟩ := h1
  rw [h1] at g1
  cases g1
  rcases g2 with g2 | g2
  · exact hx g2
  · cases g2
/-- a leaf is made of what is never changed -/
theorem LfAt.nw {K : PySem.W.Frag} {a : Ad} {H H' : Hp} {l : Lf} {v : V} (h : LfAt K a H' l v) : LfAt K a (nw H H') l v := by
  cases l with
  | thg y f =>
    obtain ⟨p, e, dx, v', h1, h2⟩ := h
    refine ⟨p, e, dx, v', nw_mk h1 (.inr rfl), ?_⟩
    cases f with
    | num n => exact h2
    | row ns =>
      obtain ⟨t, e2, h3⟩ := h2
      refine ⟨t, e2, ?_⟩
      rcases h3 with (h | ⟨z, h⟩) | h
      · exact .inl (.inl (nw_mk h (.inr rfl)))
      · exact .inl (.inr ⟨z, nw_mk h (.inr rfl)⟩)
      · exact .inr h
  | non => exact h
  | bl b => exact h
  | int i => exact h
  | str z => exact h
theorem ScAt.tr {a : Ad} {H : Hp} {x : Addr} {l : List Nat} {p : Nat} (h : ScAt a H x l p) : H x ≠ none := fun e => h.ne e rfl
def spSin (a : Ad) : Sp := fun vs H Q _ => ∃ (x dx : Addr) (l : List Nat), vs = [.ref x, .str (strN l)] ∧ H x = some (.ins a.cScanner dx []) ∧ ∀ H', ButS x H H' → ScAt a H' x l 0 → Q .non H'
def spSgn (a : Ad) : Sp := fun vs H Q _ => ∃ (x : Addr) (l : List Nat) (p : Nat), vs = [.ref x] ∧ ScAt a H x l p ∧ l.length ≤ 100000 ∧ Q (.str (strN ((l.drop p).take 1))) H
def spIsa (a : Ad) : Sp := fun vs H Q _ => ∃ (x : Addr) (l g : List Nat) (p : Nat), vs = [.ref x, .str (strN g)] ∧ ScAt a H x l p ∧ l.length ≤ 100000 ∧ Q (.bl (isAt l g p)) H
def spExp (a : Ad) : Sp := fun vs H Q _ => ∃ (x : Addr) (l g : List Nat) (p e : Nat), vs = [.ref x, .str (strN g)] ∧ ScAt a H x l p ∧ l.length ≤ 100000 ∧ expF l g p = some e ∧ (∀ H', ButS x H H' → ScAt a H' x l e → Q .non H')
def spFns (a : Ad) : Sp := fun vs H Q _ => ∃ (x : Addr) (l : List Nat) (p : Nat), vs = [.ref x] ∧ ScAt a H x l p ∧ l.length ≤ 100000 ∧ l[p]? = none ∧ Q .non H
theorem sg_some {l : List Nat} {p c : Nat} (h : l[p]? = some c) : strN ((l.drop p).take 1) = strN [c] := by
  have pl := at_lt h
  rw [List.drop_eq_getElem_cons pl, List.take_succ_cons, List.take_zero]
  have : l[p] = c := by
    have := (List.getElem?_eq_some_iff.mp h).2
    exact this
  rw [this]
theorem sg_none {l : List Nat} {p : Nat} (h : l[p]? = none) : strN ((l.drop p).take 1) = strN [] := by
  rw [List.drop_eq_nil_of_le (List.getElem?_eq_none_iff.mp h)]
  rfl
theorem sg_eq {l : List Nat} {p c : Nat} : (V.str (strN ((l.drop p).take 1)) = V.str (strN [c])) ↔ l[p]? = some c := by
  constructor
  · intro h
    have := strN_inj (V.str.inj h)
    cases e : l[p]? with
    | none =>
      rw [List.drop_eq_nil_of_le (List.getElem?_eq_none_iff.mp e)] at this
      cases this
    | some d =>
      have q := strN_inj (sg_some e)
      rw [q] at this
      injection this with this
      rw [this]
  · intro h
    rw [sg_some h]
theorem sg_nil {l : List Nat} {p : Nat} : (V.str (strN ((l.drop p).take 1)) = V.str (strN [])) ↔ l[p]? = none := by
  constructor
  · intro h
    have := strN_inj (V.str.inj h)
    cases e : l[p]? with
    | none => rfl
    | some d =>
      have q := strN_inj (sg_some e)
      rw [q] at this
      cases this
  · intro h
    rw [sg_none h]
theorem cut1 (l : List Nat) (p q : Nat) : cutS (strN l) (some ((p : Nat) : Int)) (some ((q : Nat) : Int)) = strN ((l.drop p).take (q - p)) := by
  unfold cutS
  rw [HT.sIx_nat, HT.sIx_nat, cps_strN, strN_len]
  unfold strN
  congr 1
  by_cases h1 : p ≤ l.length
  · rw [Nat.min_eq_left h1]
    by_cases h2 : q ≤ l.length
    · rw [Nat.min_eq_left h2]
    · rw [Nat.min_eq_right (by omega), List.take_of_length_le (by rw [List.length_drop]; exact Nat.le_refl _), List.take_of_length_le (by rw [List.length_drop]; omega)]
  · have h1' : min p l.length = l.length := by omega
    rw [h1', List.drop_length, List.drop_eq_nil_of_le (by omega), List.take_nil, List.take_nil]
theorem scF_text {l : List Nat} {p : Nat} : (scF l p).lookup ("text" : Str) = some (.str (strN l)) := by simp [scF, List.lookup]
theorem scF_place {l : List Nat} {p : Nat} : (scF l p).lookup ("place" : Str) = some (.int ((p : Nat) : Int)) := rfl
theorem scF_put {l : List Nat} {p q : Nat} : putF ("place" : Str) (.int ((q : Nat) : Int)) (scF l p) = scF l q := by
  show (if ("text" : Str) = "place" then _ else _) = _
  rw [if_neg (by decide +kernel)]
  show _ :: (if ("place" : Str) = "place" then _ else _) = _
  rw [if_pos rfl]
  rfl
theorem scF_no {l : List Nat} {p : Nat} {m : Str} (h1 : m ≠ "text") (h2 : m ≠ "place") : (scF l p).lookup m = none := by
  simp [scF, List.lookup, beq_eq_false_iff_ne.mpr h1, beq_eq_false_iff_ne.mpr h2]
theorem sg_nil' {l : List Nat} {p : Nat} : (V.str (strN ((l.drop p).take 1)) = V.str ("" : Str)) ↔ l[p]? = none := sg_nil
theorem str1 (c : Nat) : strN [c] = ⟨#[c]⟩ := rfl
/-- one step on -/
theorem sc_step {a : Ad} {H : Hp} {x d : Addr} {l : List Nat} {p : Nat} : (upd H x (.ins a.cScanner d (putF "place" (.int (((p : Nat) : Int) + 1)) (scF l p)))) x = some (.ins a.cScanner d (scF l (p + 1))) := by
  rw [upd_same]
  exact congrArg (fun z => some (HO.ins a.cScanner d z)) (scF_put (l := l) (p := p) (q := p + 1))
section
variable {P : Program} {w : World} {K : PySem.W.Frag} {mg : Str → Option Value} {base : Heap} {a : Ad}
theorem scSin : FnScope ["self", "text"] ["self", "text"] (defScope sSin) := ⟨rfl, rfl, rfl, by decide +kernel, rfl, by decide +kernel, by decide +kernel⟩
theorem ok_sin (D : Df K a) (T : Txt K mg a) : FnOk P w K mg base CX0 1 a.fSin D.dSin ["self", "text"] (spSin a) := by
  refine D.FSin.ok scSin (fun vs H Q E h => ?_) (fun cdv A outer s H vs Q E hr h => ?_)
  · obtain ⟨x, dx, l, rfl, _⟩ := h
    rfl
  · obtain ⟨x, dx, l, rfl, hx, k⟩ := h
    refine ⟨_, (pss_cons (ps_fld (pv 0) (pv 1) rfl) (pss_one (ps_fld (pv 0) pe_int rfl))), ?_⟩
    refine ⟨_, rfl, _, rfl, x, a.cScanner, dx, [], rfl, hx, T.clScanner, T.nScanner_text, by show 0 < 1000; decide, ?_⟩
    refine ⟨_, rfl, x, a.cScanner, dx, _, rfl, upd_same, T.clScanner, T.nScanner_place, by show 1 < 1000; decide, ?_⟩
    refine k _ (ButS.put.trans ButS.put) ⟨dx, ?_⟩
    rw [upd_same]
    rfl
theorem scSgn : FnScope ["self"] ["self"] (defScope sSgn) := ⟨rfl, rfl, rfl, by decide +kernel, rfl, by decide +kernel, by decide +kernel⟩
theorem ok_sgn (D : Df K a) (T : Txt K mg a) : FnOk P w K mg base CX0 1 a.fSgn D.dSgn ["self"] (spSgn a) := by
  refine D.FSgn.ok scSgn (fun vs H Q E h => ?_) (fun cdv A outer s H vs Q E hr h => ?_)
  · obtain ⟨x, l, p, rfl, _⟩ := h
    rfl
  · obtain ⟨x, l, p, rfl, ⟨dx, hx⟩, hl, k⟩ := h
    refine ⟨_, (pss_one (ps_ret (pe_slice sl_str (pe_fld (pv 0) rfl) (po_some (pe_fld (pv 0) rfl)) (po_some (pe_op op_add (pe_fld (pv 0) rfl) pe_int))))), ?_⟩
    refine ⟨_, rfl, x, a.cScanner, dx, _, _, rfl, hx, T.clScanner, T.nScanner_text, scF_text, ?_⟩
    refine ⟨_, rfl, x, a.cScanner, dx, _, _, rfl, hx, T.clScanner, T.nScanner_place, scF_place, _, rfl, ?_⟩
    refine ⟨_, rfl, x, a.cScanner, dx, _, _, rfl, hx, T.clScanner, T.nScanner_place, scF_place, _, _, rfl, rfl, _, rfl, strN l, rfl, by rw [strN_len]; exact Nat.le_trans hl (by decide), ?_⟩
    have e := cut1 l p (p + 1)
    rw [Nat.add_sub_cancel_left] at e
    show Q (.str (cutS (strN l) (some ((p : Nat) : Int)) (some (((p + 1 : Nat)) : Int)))) H
    rw [e]
    exact k
theorem scIsa : FnScope ["self", "signs"] ["self", "signs"] (defScope sIsa) := ⟨rfl, rfl, rfl, by decide +kernel, rfl, by decide +kernel, by decide +kernel⟩
theorem ok_isa (D : Df K a) (T : Txt K mg a) : FnOk P w K mg base CX0 2 a.fIsa D.dIsa ["self", "signs"] (spIsa a) := by
  have GSgn : FnOk P w K mg base CX0 1 a.fSgn D.dSgn ["self"] (spSgn a) := ok_sgn D T
  refine D.FIsa.ok scIsa (fun vs H Q E h => ?_) (fun cdv A outer s H vs Q E hr h => ?_)
  · obtain ⟨x, l, g, p, rfl, _⟩ := h
    rfl
  · obtain ⟨x, l, g, p, rfl, hS, hl, k⟩ := h
    refine ⟨_, (pss_one (ps_ret (pe_and (pe_cmpR op_ne (pe_meth0 (pv 0) T.clScanner T.mtSgn GSgn hr D.bSgn .nil pass0) pe_str (nomark _)) (pe_one (pe_cmpR op_in_sign (pe_meth0 (pv 0) T.clScanner T.mtSgn GSgn hr D.bSgn .nil pass0) (pv 1) rfl))))), ?_⟩
    obtain ⟨dx, hx⟩ := hS
    refine ⟨_, rfl, x, dx, _, rfl, hx, scF_no (by decide +kernel) (by decide +kernel), x, l, p, rfl, ⟨dx, hx⟩, hl, ?_⟩
    cases e : l[p]? with
    | none =>
      refine ⟨rfl, false, congrArg V.bl (by rw [decide_eq_true (sg_nil'.mpr e)]; rfl), iteF ?_⟩
      have e2 : isAt l g p = false := by unfold isAt; rw [e]
      rw [e2] at k
      exact k
    | some c =>
      refine ⟨rfl, true, congrArg V.bl (by rw [decide_eq_false (fun q => by rw [sg_nil'.mp q] at e; cases e)]; rfl), iteT ?_⟩
      refine ⟨_, rfl, x, dx, _, rfl, hx, scF_no (by decide +kernel) (by decide +kernel), x, l, p, rfl, ⟨dx, hx⟩, hl, _, rfl, c, strN g, by rw [sg_some e, str1], rfl, ?_⟩
      have e2 : isAt l g p = decide (c ∈ g) := by unfold isAt; rw [e]
      rw [e2] at k
      rw [cps_strN]
      exact k
theorem scExp : FnScope ["self", "signs", "sign"] ["self", "signs"] (defScope sExp) := ⟨rfl, rfl, rfl, by decide +kernel, rfl, by decide +kernel, by decide +kernel⟩
theorem ok_exp (D : Df K a) (T : Txt K mg a) : FnOk P w K mg base CX0 2 a.fExp D.dExp ["self", "signs"] (spExp a) := by
  have GSgn : FnOk P w K mg base CX0 1 a.fSgn D.dSgn ["self"] (spSgn a) := ok_sgn D T
  refine D.FExp.ok scExp (fun vs H Q E h => ?_) (fun cdv A outer s H vs Q E hr h => ?_)
  · obtain ⟨x, l, g, p, e, rfl, _⟩ := h
    rfl
  · obtain ⟨x, l, g, p, e, rfl, hS, hl, he, k⟩ := h
    refine ⟨_, (pss_one (ps_for PassesOwn.never rfl (pi_str (pv 1)) (pg_name (i := 2) scExp.nd rfl (.inl rfl)) (pss_cons (ps_if (pt_cmpR op_ne (pe_meth0 (pv 0) T.clScanner T.mtSgn GSgn hr D.bSgn .nil pass0) (pv 2) (nomark _)) (pss_one ps_never) pss_nil) (pss_one (ps_fldaug (pv 0) pe_int in_add))))), ?_⟩
    refine ⟨_, rfl, strN g, rfl, for_it (walk_str (z := strN g)) (fun i st H' => ∃ u, st = [some (.ref x), some (.str (strN g)), u] ∧ ∃ p', expF l (g.drop i) p' = some e ∧ ButS x H H' ∧ ScAt a H' x l p') ⟨_, rfl, p, he, ButS.refl _ _, hS⟩ (fun _ _ _ _ _ => True.intro) ?_ ?_⟩
    · rintro i y st H1 H2 hi ⟨u, rfl, p', he', b1, ⟨dx, hx⟩⟩ ⟨rfl, d, hd, rfl⟩
      have hd' : g[i]? = some d := by
        rw [← Array.getElem?_toList, cps_strN] at hd
        exact hd
      have eg := List.drop_eq_getElem_cons (at_lt hd')
      rw [(List.getElem?_eq_some_iff.mp hd').2] at eg
      rw [eg, expF] at he'
      by_cases c : l[p']? = some d
      · rw [if_pos c] at he'
        refine ⟨_, rfl, x, dx, _, rfl, hx, scF_no (by decide +kernel) (by decide +kernel), x, l, p', rfl, ⟨dx, hx⟩, hl, _, rfl, rfl, ?_⟩
        refine ⟨false, congrArg V.bl (by rw [← str1, decide_eq_true (sg_eq.mpr c)]; rfl), iteF ?_⟩
        refine ⟨_, rfl, x, a.cScanner, dx, _, _, rfl, hx, T.clScanner, T.nScanner_place, scF_place, _, _, rfl, rfl, dx, _, hx, by show 2 < 1000; decide, _, rfl, p' + 1, he', b1.trans ButS.put, dx, sc_step⟩
      · rw [if_neg c] at he'
        cases he'
    · rintro st H1 ⟨u, rfl, p', he', b1, hS1⟩
      have ez : (strN g).cps.size = g.length := by
        have := strN_len g
        exact this
      rw [ez, List.drop_length] at he'
      cases he'
      exact k H1 b1 hS1
theorem scFns : FnScope ["self"] ["self"] (defScope sFns) := ⟨rfl, rfl, rfl, by decide +kernel, rfl, by decide +kernel, by decide +kernel⟩
theorem ok_fns (D : Df K a) (T : Txt K mg a) : FnOk P w K mg base CX0 2 a.fFns D.dFns ["self"] (spFns a) := by
  have GSgn : FnOk P w K mg base CX0 1 a.fSgn D.dSgn ["self"] (spSgn a) := ok_sgn D T
  refine D.FFns.ok scFns (fun vs H Q E h => ?_) (fun cdv A outer s H vs Q E hr h => ?_)
  · obtain ⟨x, l, p, rfl, _⟩ := h
    rfl
  · obtain ⟨x, l, p, rfl, ⟨dx, hx⟩, hl, e, k⟩ := h
    refine ⟨_, (pss_one (ps_if (pt_cmpR op_ne (pe_meth0 (pv 0) T.clScanner T.mtSgn GSgn hr D.bSgn .nil pass0) pe_str (nomark _)) (pss_one ps_never) pss_nil)), ?_⟩
    refine ⟨_, rfl, x, dx, _, rfl, hx, scF_no (by decide +kernel) (by decide +kernel), x, l, p, rfl, ⟨dx, hx⟩, hl, ?_⟩
    exact ⟨rfl, false, congrArg V.bl (by rw [decide_eq_true (sg_nil'.mpr e)]; rfl), iteF k⟩
end
end G58.V

set_option Elab.async false
set_option linter.all false
set_option pp.maxSteps 2500
set_option maxRecDepth 100000
set_option maxHeartbeats 4000000
/-! Numbers, digits, strings. -/
namespace G58.V
open PySem PySem.Spec PyProof.Rows L2 NumText TL
abbrev figL : List Nat := [48, 49, 50, 51, 52, 53, 54, 55, 56, 57]
theorem fig_str : ("0123456789" : Str) = strN figL := by decide +kernel
theorem hex_str : ("0123456789abcdef" : Str) = strN hexL := by decide +kernel
theorem fig_mem (c : Nat) : decide (c ∈ figL) = dgt c := by
  unfold dgt
  refine decide_eq_decide.mpr ?_
  simp only [List.mem_cons, List.not_mem_nil, or_false]
  omega
theorem isAt_fig (l : List Nat) (p : Nat) : isAt l figL p = match l[p]? with
    | some c => dgt c
    | none => false := by
  unfold isAt
  cases l[p]? with
  | none => rfl
  | some c => exact fig_mem c
theorem hex_occ : ∀ c ∈ hexL, Builtin.Str.occurrences ("0123456789abcdef" : Str) ⟨#[c]⟩ 0 ("0123456789abcdef" : Str).length 1 = [hexL.idxOf c] := by decide +kernel
theorem join_onesN : ∀ ns : List Nat, Txt.join Str.empty (ns.map fun n => strN [n]) = strN ns := by
  intro ns
  rw [join_eq]
  refine ext_tl ?_
  rw [tl_join]
  show joinL [] ((ns.map fun n => strN [n]).map tl) = ns
  rw [List.map_map]
  show joinL [] (ns.map fun n => [n]) = ns
  induction ns with
  | nil => rfl
  | cons n r ih =>
    cases r with
    | nil => rfl
    | cons m r =>
      show [n] ++ ([] ++ joinL [] ((m :: r).map fun n => [n])) = n :: (m :: r)
      rw [ih, List.nil_append]
      rfl
theorem ones_len : ∀ ns : List Nat, ((ns.map fun n => strN [n]).map (·.length)).sum = ns.length
  | [] => rfl
  | n :: r => by
    show 1 + ((r.map fun n => strN [n]).map (·.length)).sum = r.length + 1
    rw [ones_len r]
    omega
theorem with_rest {G : Prop} (R : L2.St → Hp → Prop) (C : (L2.St → Hp → Prop) → Prop) (h : C R → G) (c : C R) : G := h c
abbrev onesV (acc : List Nat) : List V := (acc.map fun n => strN [n]).map V.str
theorem onesV_app (acc : List Nat) (d : Nat) : onesV acc ++ [V.str (strN [d])] = onesV (acc ++ [d]) := by
  unfold onesV
  rw [List.map_append, List.map_append]
  rfl
theorem keyF_step (l : List Nat) (f e : Nat) (acc : List Nat) : keyF l (f + 1) e acc = match l[e]? with
    | none => .inl e
    | some c => if c = 34 then .inr (e + 1, acc) else if c = 92 then (match l[e + 1]? with
      | some d => if d = 34 ∨ d = 92 then keyF l f (e + 2) (acc ++ [d]) else .inl (e + 1)
      | none => .inl (e + 1))
      else keyF l f (e + 1) (acc ++ [c]) := by
  rw [keyF]
  all_goals (cases l[e]? <;> rfl)
def spFig (a : Ad) : Sp := fun vs H Q _ => ∃ (x : Addr) (l : List Nat) (p e n : Nat), vs = [.ref x] ∧ ScAt a H x l p ∧ l.length ≤ 100000 ∧ figF l p = some (e, n) ∧ ∀ H', ButS x H H' → ScAt a H' x l e → Q (.int ((n : Nat) : Int)) H'
def spSit (a : Ad) : Sp := fun vs H Q _ => ∃ (x : Addr) (l : List Nat) (p e : Nat) (n : Int), vs = [.ref x] ∧ ScAt a H x l p ∧ l.length ≤ 100000 ∧ sitF l p = some (e, n) ∧ ∀ H', ButS x H H' → ScAt a H' x l e → Q (.int n) H'
def spHxn (a : Ad) : Sp := fun vs H Q _ => ∃ (x : Addr) (l : List Nat) (p n e v : Nat), vs = [.ref x, .int ((n : Nat) : Int)] ∧ ScAt a H x l p ∧ l.length ≤ 100000 ∧ n ≤ 8 ∧ hexF l n p 0 = some (e, v) ∧ ∀ H', ButS x H H' → ScAt a H' x l e → Q (.int ((v : Nat) : Int)) H'
def spOcr (a : Ad) : Sp := fun vs H Q _ => ∃ (x : Addr) (l : List Nat) (p n e : Nat) (us : List Nat), vs = [.ref x, .int ((n : Nat) : Int)] ∧ ScAt a H x l p ∧ l.length ≤ 100000 ∧ p ≤ l.length ∧ n ≤ 100 ∧ (if n = 0 then hxsF l 2 (l.length + 1) p [] = some (e, us) else hxnF l 2 n p [] = some (e, us)) ∧
  ∀ r H', H r = none → H' r = some (.lst (vInts us)) → ButS x H H' → ScAt a H' x l e → Q (.ref r) H'
def spStg (a : Ad) : Sp := fun vs H Q _ => ∃ (x : Addr) (l : List Nat) (p e : Nat) (k : List Nat), vs = [.ref x] ∧ ScAt a H x l p ∧ l.length ≤ 100000 ∧ stgF l p = some (e, k) ∧ ∀ H', ButS x H H' → ScAt a H' x l e → Q (.str (strN k)) H'
theorem hex_lt {c : Nat} (h : c ∈ hexL) : hexL.idxOf c < 16 := by
  have := List.idxOf_lt_length_of_mem h
  exact this
section
variable {P : Program} {w : World} {K : PySem.W.Frag} {mg : Str → Option Value} {base : Heap} {a : Ad}
theorem scFig : FnScope ["self", "begin"] ["self"] (defScope sFig) := ⟨rfl, rfl, rfl, by decide +kernel, rfl, by decide +kernel, by decide +kernel⟩
theorem ok_fig (D : Df K a) (T : Txt K mg a) : FnOk P w K mg base CX0 3 a.fFig D.dFig ["self"] (spFig a) := by
  have GIsa : FnOk P w K mg base CX0 2 a.fIsa D.dIsa ["self", "signs"] (spIsa a) := ok_isa D T
  obtain ⟨t1, kFIGURES⟩ := T.kFIGURES
  obtain ⟨t2, kMOST_FIGURES⟩ := T.kMOST_FIGURES
  refine D.FFig.ok scFig (fun vs H Q E h => ?_) (fun cdv A outer s H vs Q E hr h => ?_)
  · obtain ⟨x, l, p, e, n, rfl, _⟩ := h
    rfl
  · obtain ⟨x, l, p, eE, nE, rfl, ⟨dx, hx⟩, hl, hF, k2⟩ := h
    have hF := (figF_le hF).1
    refine ⟨_, (pss_cons (ps_set (i := 1) scFig.nd rfl (.inl rfl) (pe_fld (pv 0) rfl)) (pss_cons (ps_if (pt_not (pt_val (pe_meth (pv 0) T.clScanner T.mtIsa GIsa hr D.bIsa .nil pass0 (pa_cons (pe_glob (v := .str "0123456789") rfl kFIGURES ⟨_, rfl⟩) pa_nil)))) (pss_one ps_never) pss_nil) (pss_cons (ps_fldaug (pv 0) pe_int in_add) (pss_cons (ps_while PassesOwn.never (pt_val (pe_meth (pv 0) T.clScanner T.mtIsa GIsa hr D.bIsa .nil pass0 (pa_cons (pe_glob (v := .str "0123456789") rfl kFIGURES ⟨_, rfl⟩) pa_nil))) (pss_cons (ps_if (PW.pt (pw_or (pt_cmpR op_eq (pe_ix ix_str (pe_fld (pv 0) rfl) (pv 1) (fun _ _ => rfl)) pe_str (nomark _)) (pw_or1 (pt_cmpR op_eq (pe_op op_sub (pe_fld (pv 0) rfl) (pv 1)) (pe_glob (v := .int 20) rfl kMOST_FIGURES ⟨_, rfl⟩) (nomark _))))) (pss_one ps_never) pss_nil) (pss_one (ps_fldaug (pv 0) pe_int in_add)))) (pss_one (ps_ret (pe_callTy call_int_str (by rfl) T.bint (by decide +kernel) (pa_cons (pe_slice sl_str (pe_fld (pv 0) rfl) (po_some (pv 1)) (po_some (pe_fld (pv 0) rfl))) pa_nil)))))))), ?_⟩
    refine ⟨_, rfl, x, a.cScanner, dx, _, _, rfl, hx, T.clScanner, T.nScanner_place, scF_place, ?_⟩
    refine ⟨_, rfl, x, dx, _, rfl, hx, scF_no (by decide +kernel) (by decide +kernel), x, l, figL, p, by rw [← fig_str]; rfl, ⟨dx, hx⟩, hl, _, rfl, ?_⟩
    cases e0 : l[p]? with
    | none =>
      unfold plcF at hF
      rw [e0] at hF
      cases hF
    | some c =>
      cases ed : dgt c with
      | false =>
        unfold plcF at hF
        rw [e0] at hF
        simp [ed] at hF
      | true =>
        have pl := at_lt e0
        have ep : plcF l p = match digF l p (l.length + 1) (p + 1) with
          | .inl q => .inl q
          | .inr e => .inr (e, numV l p e) := by
          unfold plcF
          rw [e0]
          simp only [ed, if_true]
          all_goals (cases digF l p (l.length + 1) (p + 1) <;> rfl)
        rw [show isAt l figL p = true by rw [isAt_fig, e0]; exact ed, Bool.not_true]
        refine iteF ?_
        refine ⟨_, rfl, x, a.cScanner, dx, _, _, rfl, hx, T.clScanner, T.nScanner_place, scF_place, _, _, rfl, rfl, dx, _, hx, by show 2 < 1000; decide, ?_⟩
        have hx1 := sc_step (a := a) (H := H) (x := x) (d := dx) (l := l) (p := p)
        have b1 : ButS x H (upd H x (.ins a.cScanner dx (putF "place" (.int (((p : Nat) : Int) + 1)) (scF l p)))) := ButS.put
        refine ⟨fun m st H' => ∃ e f, m = l.length + 1 - e ∧ st = [some (.ref x), some (.int ((p : Nat) : Int))] ∧ ButS x H H' ∧ ScAt a H' x l e ∧ digF l p (l.length + 1) (p + 1) = digF l p f e ∧ l.length < f + e ∧ p < e ∧ e ≤ l.length, ⟨_, p + 1, l.length + 1, rfl, rfl, b1, ⟨dx, hx1⟩, rfl, by omega, by omega, by omega⟩, ?_⟩
        rintro m st H' ⟨e, f, rfl, rfl, b2, ⟨d2, hx2⟩, eq, hf, pe, el⟩
        obtain ⟨f, rfl⟩ : ∃ g, f = g + 1 := ⟨f - 1, by omega⟩
        refine ⟨_, rfl, x, d2, _, rfl, hx2, scF_no (by decide +kernel) (by decide +kernel), x, l, figL, e, by rw [← fig_str]; rfl, ⟨d2, hx2⟩, hl, _, rfl, ?_⟩
        have stop : digF l p (l.length + 1) (p + 1) = .inr e → (tRet (tCB (fun xs H Q => ∃ a n, xs = [V.str a] ∧ intText? a = some n ∧ a.length ≤ 640 ∧ Q (V.int n) H) (tCons (tSl rSlS (tFld K (tVar 0) "text") (tPart (tVar 1)) (tPart (tFld K (tVar 0) "place"))) tNil))) { nx := fun x H' => Q V.non H', rt := Q } [some (.ref x), some (.int ((p : Nat) : Int))] H' := fun ee => by
          refine ⟨_, rfl, x, a.cScanner, d2, _, _, rfl, hx2, T.clScanner, T.nScanner_text, scF_text, _, rfl, _, rfl, ?_⟩
          refine ⟨_, rfl, x, a.cScanner, d2, _, _, rfl, hx2, T.clScanner, T.nScanner_place, scF_place, _, rfl, strN l, rfl, by rw [strN_len]; exact Nat.le_trans hl (by decide), ?_⟩
          rw [cut1]
          have h20 := digF_20 ee (by omega)
          obtain ⟨q1, q2, q3⟩ := digF_le ee pl
          obtain ⟨n1, n2⟩ := num_text pe el h20 (fun i h1 h2 => by
            by_cases hi : i = p
            · subst hi
              exact ⟨c, e0, ed⟩
            · exact q3 i (by omega) h2)
          refine ⟨_, _, rfl, n1, by omega, ?_⟩
          rw [ep, ee] at hF
          cases hF
          exact k2 H' b2 ⟨d2, hx2⟩
        have dstep : digF l p (f + 1) e = (match l[e]? with
          | none => .inr e
          | some c => if dgt c = true then (if l[p]? = some 48 ∨ e - p = 20 then .inl e else digF l p f (e + 1)) else .inr e) := by
          rw [digF]
          all_goals (cases l[e]? <;> rfl)
        cases e1 : l[e]? with
        | none =>
          rw [show isAt l figL e = false by rw [isAt_fig, e1]]
          refine iteF ?_
          rw [dstep, e1] at eq
          exact stop eq
        | some c1 =>
          cases ed1 : dgt c1 with
          | false =>
            rw [show isAt l figL e = false by rw [isAt_fig, e1]; exact ed1]
            refine iteF ?_
            rw [dstep, e1] at eq
            simp only [ed1] at eq
            exact stop eq
          | true =>
            have el1 := at_lt e1
            rw [dstep, e1] at eq
            simp only [ed1, if_true] at eq
            rw [show isAt l figL e = true by rw [isAt_fig, e1]; exact ed1]
            refine iteT ⟨fun st H' => ∃ m', m' < l.length + 1 - e ∧ ∃ e f, m' = l.length + 1 - e ∧ st = [some (.ref x), some (.int ((p : Nat) : Int))] ∧ ButS x H H' ∧ ScAt a H' x l e ∧ digF l p (l.length + 1) (p + 1) = digF l p f e ∧ l.length < f + e ∧ p < e ∧ e ≤ l.length, fun _ _ q => q, ?_⟩
            refine ⟨_, rfl, x, a.cScanner, d2, _, _, rfl, hx2, T.clScanner, T.nScanner_text, scF_text, _, rfl, strN l, _, c, rfl, rfl, by rw [strN_len]; exact Nat.le_trans hl (by decide), by rw [cps_strN]; exact atI_nat e0, ?_⟩
            have z48 : (decide (V.str ⟨#[c]⟩ = V.str ("0" : Str))) = decide (l[p]? = some 48) := by
              rw [e0]
              refine decide_eq_decide.mpr ⟨fun q => ?_, fun q => ?_⟩
              · have q2 : strN [c] = strN [48] := V.str.inj q
                have := strN_inj q2
                injection this with this
                rw [this]
              · rw [Option.some.inj q]
                rfl
            refine ⟨rfl, _, rfl, ?_⟩
            rw [z48]
            by_cases c48 : l[p]? = some 48
            · rw [if_pos (.inl c48)] at eq
              rw [ep, eq] at hF
              cases hF
            · rw [decide_eq_false c48]
              refine iteF ⟨_, rfl, x, a.cScanner, d2, _, _, rfl, hx2, T.clScanner, T.nScanner_place, scF_place, _, rfl, _, _, rfl, rfl, rfl, _, rfl, ?_⟩
              have z20 : decide (V.int (((e : Nat) : Int) - ((p : Nat) : Int)) = V.int 20) = decide (e - p = 20) := decide_eq_decide.mpr ⟨fun q => by have := V.int.inj q; omega, fun q => congrArg V.int (by omega)⟩
              rw [z20]
              by_cases c20 : e - p = 20
              · rw [if_pos (.inr c20)] at eq
                rw [ep, eq] at hF
                cases hF
              · rw [decide_eq_false c20]
                rw [if_neg (fun q => q.elim c48 c20)] at eq
                exact iteF ⟨_, rfl, x, a.cScanner, d2, _, _, rfl, hx2, T.clScanner, T.nScanner_place, scF_place, _, _, rfl, rfl, d2, _, hx2, by show 2 < 1000; decide, _, by omega, e + 1, f, rfl, rfl, b2.trans ButS.put, ⟨d2, sc_step⟩, eq, by omega, by omega, el1⟩
theorem scSit : FnScope ["self"] ["self"] (defScope sSit) := ⟨rfl, rfl, rfl, by decide +kernel, rfl, by decide +kernel, by decide +kernel⟩
theorem ok_sit (D : Df K a) (T : Txt K mg a) : FnOk P w K mg base CX0 4 a.fSit D.dSit ["self"] (spSit a) := by
  have GSgn : FnOk P w K mg base CX0 1 a.fSgn D.dSgn ["self"] (spSgn a) := ok_sgn D T
  have GFig : FnOk P w K mg base CX0 3 a.fFig D.dFig ["self"] (spFig a) := ok_fig D T
  refine D.FSit.ok scSit (fun vs H Q E h => ?_) (fun cdv A outer s H vs Q E hr h => ?_)
  · obtain ⟨x, l, p, e, n, rfl, _⟩ := h
    rfl
  · obtain ⟨x, l, p, e, n, rfl, ⟨dx, hx⟩, hl, hF, k⟩ := h
    have hr1 : Room 1 _ := hr.mono (by decide)
    refine ⟨_, (pss_cons (ps_if (pt_cmpR op_ne (pe_meth0 (pv 0) T.clScanner T.mtSgn GSgn hr1 D.bSgn .nil pass0) pe_str (nomark _)) (pss_one (ps_ret (pe_meth0 (pv 0) T.clScanner T.mtFig GFig hr D.bFig .nil pass0))) pss_nil) (pss_cons (ps_fldaug (pv 0) pe_int in_add) (pss_cons (ps_if (pt_cmpR op_eq (pe_meth0 (pv 0) T.clScanner T.mtSgn GSgn hr1 D.bSgn .nil pass0) pe_str (nomark _)) (pss_one ps_never) pss_nil) (pss_one (ps_ret (pe_un un_neg (pe_meth0 (pv 0) T.clScanner T.mtFig GFig hr D.bFig .nil pass0))))))), ?_⟩
    unfold sitF at hF
    refine ⟨_, rfl, x, dx, _, rfl, hx, scF_no (by decide +kernel) (by decide +kernel), x, l, p, rfl, ⟨dx, hx⟩, hl, rfl, !decide (l[p]? = some 45), congrArg V.bl (by rw [show ("-" : Str) = strN [45] from by decide +kernel]; exact congrArg (fun z => !z) (decide_eq_decide.mpr sg_eq)), ?_⟩
    by_cases c : l[p]? = some 45
    · rw [if_pos c] at hF
      rw [decide_eq_true c]
      refine iteF ?_
      refine ⟨_, rfl, x, a.cScanner, dx, _, _, rfl, hx, T.clScanner, T.nScanner_place, scF_place, _, _, rfl, rfl, dx, _, hx, by show 2 < 1000; decide, ?_⟩
      have hx1 := sc_step (a := a) (H := H) (x := x) (d := dx) (l := l) (p := p)
      have b1 : ButS x H (upd H x (.ins a.cScanner dx (putF "place" (.int (((p : Nat) : Int) + 1)) (scF l p)))) := ButS.put
      generalize upd H x (.ins a.cScanner dx (putF "place" (.int (((p : Nat) : Int) + 1)) (scF l p))) = H1 at hx1 b1 ⊢
      refine ⟨_, rfl, x, dx, _, rfl, hx1, scF_no (by decide +kernel) (by decide +kernel), x, l, p + 1, rfl, ⟨dx, hx1⟩, hl, rfl, decide (l[p + 1]? = some 48), congrArg V.bl (by rw [show ("0" : Str) = strN [48] from by decide +kernel]; exact decide_eq_decide.mpr sg_eq), ?_⟩
      by_cases c2 : l[p + 1]? = some 48
      · rw [if_pos c2] at hF
        cases hF
      · rw [if_neg c2] at hF
        rw [decide_eq_false c2]
        obtain ⟨r, h1, h2⟩ := map_some hF
        cases h2
        refine iteF ⟨_, rfl, x, dx, _, rfl, hx1, scF_no (by decide +kernel) (by decide +kernel), x, l, p + 1, r.1, r.2, rfl, ⟨dx, hx1⟩, hl, h1, fun H2 b2 hS2 => ?_⟩
        exact ⟨_, rfl, k H2 (b1.trans b2) hS2⟩
    · rw [if_neg c] at hF
      rw [decide_eq_false c]
      obtain ⟨r, h1, h2⟩ := map_some hF
      cases h2
      exact iteT ⟨_, rfl, x, dx, _, rfl, hx, scF_no (by decide +kernel) (by decide +kernel), x, l, p, r.1, r.2, rfl, ⟨dx, hx⟩, hl, h1, k⟩
theorem scHxn : FnScope ["self", "count", "found", "turn"] ["self", "count"] (defScope sHxn) := ⟨rfl, rfl, rfl, by decide +kernel, rfl, by decide +kernel, by decide +kernel⟩
theorem ok_hxn (D : Df K a) (T : Txt K mg a) : FnOk P w K mg base CX0 3 a.fHxn D.dHxn ["self", "count"] (spHxn a) := by
  have GSgn : FnOk P w K mg base CX0 1 a.fSgn D.dSgn ["self"] (spSgn a) := ok_sgn D T
  have GIsa : FnOk P w K mg base CX0 2 a.fIsa D.dIsa ["self", "signs"] (spIsa a) := ok_isa D T
  obtain ⟨t1, kHEX⟩ := T.kHEX
  refine D.FHxn.ok scHxn (fun vs H Q E h => ?_) (fun cdv A outer s H vs Q E hr h => ?_)
  · obtain ⟨x, l, p, n, e, v, rfl, _⟩ := h
    rfl
  · obtain ⟨x, l, p, n, e, v, rfl, hS, hl, hn, hF, k⟩ := h
    have hr1 : Room 1 _ := hr.mono (by decide)
    refine ⟨_, (pss_cons (ps_set (i := 2) scHxn.nd rfl (.inl rfl) pe_int) (pss_cons (ps_for PassesOwn.never rfl (pi_range1 (by rfl) T.brange (pa_cons (pv 1) pa_nil)) (pg_name (i := 3) scHxn.nd rfl (.inl rfl)) (pss_cons (ps_if (pt_not (pt_val (pe_meth (pv 0) T.clScanner T.mtIsa GIsa hr D.bIsa .nil pass0 (pa_cons (pe_glob (v := .str "0123456789abcdef") rfl kHEX ⟨_, rfl⟩) pa_nil)))) (pss_one ps_never) pss_nil) (pss_cons (ps_set (i := 2) scHxn.nd rfl (.inl rfl) (pe_op op_add (pe_op op_mul pe_int (pv 2)) (pe_m1 PySem.F.slot_str_index PySem.F.type_str_index mt_sindex (pe_glob (v := .str "0123456789abcdef") rfl kHEX ⟨_, rfl⟩) (pe_meth0 (pv 0) T.clScanner T.mtSgn GSgn hr1 D.bSgn .nil pass0)))) (pss_one (ps_fldaug (pv 0) pe_int in_add))))) (pss_one (ps_ret (pv 2))))), ?_⟩
    refine ⟨_, rfl, ((n : Nat) : Int), rfl, by omega, by omega, for_it walk_range (fun i st H' => ∃ (u : Option V) (p' acc : Nat), st = [some (.ref x), some (.int ((n : Nat) : Int)), some (.int ((acc : Nat) : Int)), u] ∧ i ≤ n ∧ hexF l (n - i) p' acc = some (e, v) ∧ ButS x H H' ∧ ScAt a H' x l p') ⟨_, p, 0, rfl, Nat.zero_le _, hF, ButS.refl _ _, hS⟩ (fun _ _ _ _ _ => True.intro) ?_ ?_⟩
    · rintro i y st H1' H1 hi ⟨u, p', acc, rfl, hin, hF', b1, ⟨dx, hx⟩⟩ ⟨rfl, rfl⟩
      have hi : i < n := by omega
      obtain ⟨m, hm⟩ : ∃ m, n - i = m + 1 := ⟨n - i - 1, by omega⟩
      rw [hm, hexF] at hF'
      cases e0 : l[p']? with
      | none => rw [e0] at hF'; cases hF'
      | some c =>
        rw [e0] at hF'
        by_cases hc : c ∈ hexL
        · have hF' : hexF l m (p' + 1) (16 * acc + hexL.idxOf c) = some (e, v) := by
            have := hF'
            simp only [if_pos hc] at this
            exact this
          refine ⟨_, rfl, x, dx, _, rfl, hx, scF_no (by decide +kernel) (by decide +kernel), x, l, hexL, p', by rw [← hex_str]; rfl, ⟨dx, hx⟩, hl, _, rfl, ?_⟩
          rw [show isAt l hexL p' = true by unfold isAt; rw [e0]; exact decide_eq_true hc]
          refine iteF ?_
          refine ⟨_, rfl, _, _, rfl, rfl, .inl ⟨by decide, by decide⟩, ⟨_, rfl⟩, _, rfl, x, dx, _, rfl, hx, scF_no (by decide +kernel) (by decide +kernel), x, l, p', rfl, ⟨dx, hx⟩, hl, _, _, hexL.idxOf c, [], rfl, by rw [sg_some e0, str1], hex_occ c hc, _, _, rfl, rfl, ?_⟩
          refine ⟨_, rfl, x, a.cScanner, dx, _, _, rfl, hx, T.clScanner, T.nScanner_place, scF_place, _, _, rfl, rfl, dx, _, hx, by show 2 < 1000; decide, some (.int (0 + ((i : Nat) : Int))), p' + 1, 16 * acc + hexL.idxOf c, ?_, by omega, by rw [show n - (i + 1) = m by omega]; exact hF', b1.trans ButS.put, dx, sc_step⟩
          rw [Int.natCast_add, Int.natCast_mul]
          rfl
        · simp only [if_neg hc] at hF'
          cases hF'
    · rintro st H1 ⟨u, p', acc, rfl, hin, hF', b1, hS1⟩
      rw [show n - ((n : Nat) : Int).toNat = 0 by omega] at hF'
      cases hF'
      exact ⟨_, rfl, k H1 b1 hS1⟩
end
end G58.V

set_option Elab.async false
set_option linter.all false
set_option maxRecDepth 100000
set_option maxHeartbeats 4000000
/-! the law's source of draws, its picks. -/
namespace G58.V
open PySem PySem.Spec PyProof.Rows L2 LamX
/-- a source stands at S -/
def SrcAt (H : Hp) (S : Addr) : Prop := ∃ x y z : Int, H S = some (.lst [.int x, .int y, .int z])
def spSrc : Sp := fun vs H Q _ => ∃ n : Int, vs = [.int n] ∧ ∀ p H', H p = none → Same H H' → SrcAt H' p → Q (.ref p) H'
/-- all that was tracked stays but what is at S -/
def But (S : Addr) (H H' : Hp) : Prop := ∀ b o, H b = some o → b ≠ S → H' b = some o
theorem But.refl (S : Addr) (H : Hp) : But S H H := fun _ _ h _ => h
theorem But.trans {S : Addr} {H H1 H2 : Hp} (x : But S H H1) (y : But S H1 H2) : But S H H2 := fun b o h n => y b o (x b o h n) n
theorem But.same {S : Addr} {H H1 H2 : Hp} (x : But S H H1) (y : Same H1 H2) : But S H H2 := fun b o h n => y b o (x b o h n)
theorem But.upd {S : Addr} {H : Hp} {o : HO} : But S H (L2.upd H S o) := fun b u h n => by
  rw [upd_ne n]
  exact h
theorem Same.but {S : Addr} {H H1 : Hp} (x : Same H H1) : But S H H1 := fun b o h _ => x b o h
def spDrw : Sp := fun vs H Q _ => ∃ (S : Addr) (m : Int), vs = [.ref S, .int m] ∧ SrcAt H S ∧ 0 < m ∧ m ≤ 18446744073709551616 ∧ ∀ (r : Int) (H' : Hp), 0 ≤ r → r < m → SrcAt H' S → But S H H' → (∀ b, H b = none → H' b = none) → Q (.int r) H'
def spPik : Sp := fun vs H Q _ => ∃ (S L : Addr) (xs : List V), vs = [.ref S, .ref L] ∧ SrcAt H S ∧ H L = some (.lst xs) ∧ L ≠ S ∧ 0 < xs.length ∧ xs.length < 1000 ∧ ∀ (i : Nat) (x : V) (H' : Hp), xs[i]? = some x → SrcAt H' S → But S H H' → (∀ b, H b = none → H' b = none) → Q x H'
theorem wid64 {i m : Int} (h0 : 0 < m) (h1 : m ≤ 18446744073709551616) : CDivW i m := wide_div (b := 65) h0 (by
  have e : (2 : Nat) ^ 65 = 36893488147419103232 := by decide
  rw [e]
  omega) (by decide) (by decide)
section
variable {P : Program} {w : World} {K : PySem.W.Frag} {mg : Str → Option Value} {base : Heap} {a : Ad}
theorem scSrc : FnScope ["_law_cell"] ["_law_cell"] (defScope sSrc) := ⟨rfl, rfl, rfl, by decide +kernel, rfl, by decide +kernel, by decide +kernel⟩
theorem scDrw : FnScope ["_law_source_here", "_law_many", "_law_found", "_law_mixed"] ["_law_source_here", "_law_many"] (defScope sDrw) := ⟨rfl, rfl, rfl, by decide +kernel, rfl, by decide +kernel, by decide +kernel⟩
theorem scPik : FnScope ["_law_source_here", "_law_items"] ["_law_source_here", "_law_items"] (defScope sPik) := ⟨rfl, rfl, rfl, by decide +kernel, rfl, by decide +kernel, by decide +kernel⟩
theorem ok_src (D : Df K a) (T : Txt K mg a) : FnOk P w K mg base CX0 1 a.fSrc D.dSrc ["_law_cell"] spSrc := by
  refine D.FSrc.ok scSrc (fun vs H Q E h => ?_) (fun cdv A outer s H vs Q E hr h => ?_)
  · obtain ⟨n, rfl, _⟩ := h
    rfl
  · obtain ⟨n, rfl, k⟩ := h
    refine ⟨_, (pss_one (ps_ret (pe_lst (pa_cons (pe_callB call_abs (by rfl) T.babs (by decide +kernel) (pa_cons (pv 0) pa_nil)) (pa_cons (pe_op op_mod (pe_callTy call_int1 (by rfl) T.bint (by decide +kernel) (pa_cons (pv 0) pa_nil)) pe_int) (pa_cons pe_int pa_nil)))))), ?_⟩
    refine ⟨_, rfl, n, rfl, _, rfl, .inl ⟨_, rfl, _, _, rfl, rfl, by show (0 : Int) < 2147483629; decide, by show 3 ≤ sizeLine; decide, fun p hp => ?_⟩⟩
    exact k p _ hp (same_new (Same.refl H) hp) ⟨_, _, _, upd_same⟩
theorem ok_drw (D : Df K a) (T : Txt K mg a) : FnOk P w K mg base CX0 1 a.fDrw D.dDrw ["_law_source_here", "_law_many"] spDrw := by
  refine D.FDrw.ok scDrw (fun vs H Q E h => ?_) (fun cdv A outer s H vs Q E hr h => ?_)
  · obtain ⟨S, m, rfl, _⟩ := h
    rfl
  · obtain ⟨S, m, rfl, ⟨x, y, z, hS⟩, h0, h1, k⟩ := h
    refine ⟨_, (pss_cons (ps_if (pt_cmpR op_ge (pe_ix ix_list (pv 0) pe_int (fun _ _ => rfl)) (pe_op op_pow pe_int pe_int) (nomark _)) (pss_cons (ps_set (i := 2) scDrw.nd rfl (.inl rfl) (pe_op op_mod (pe_callTy call_int1 (by rfl) T.bint (by decide +kernel) (pa_cons (pe_ix ix_list (pv 0) pe_int (fun _ _ => rfl)) pa_nil)) (pv 1))) (pss_cons (ps_asg (pe_op op_fdivW (pe_ix ix_list (pv 0) pe_int (fun _ _ => rfl)) (pv 1)) (pg_sub (pv 0) pe_int set_list)) (pss_one (ps_ret (pv 2))))) pss_nil) (pss_cons (ps_asg (pe_op op_add (pe_ix ix_list (pv 0) pe_int (fun _ _ => rfl)) pe_int) (pg_sub (pv 0) pe_int set_list)) (pss_cons (ps_set (i := 3) scDrw.nd rfl (.inl rfl) (pe_op op_mod (pe_callTy call_int1 (by rfl) T.bint (by decide +kernel) (pa_cons (pe_op op_mul (pe_op op_add (pe_op op_add (pe_ix ix_list (pv 0) pe_int (fun _ _ => rfl)) (pe_op op_mul pe_int (pe_ix ix_list (pv 0) pe_int (fun _ _ => rfl)))) pe_int) pe_int) pa_nil)) pe_int)) (pss_cons (ps_set (i := 3) scDrw.nd rfl (.inl rfl) (pe_op op_mod (pe_callTy call_int1 (by rfl) T.bint (by decide +kernel) (pa_cons (pe_op op_mul (pv 3) (pe_op op_add (pe_op op_fdiv (pv 3) pe_int) pe_int)) pa_nil)) pe_int)) (pss_one (ps_ret (pe_op op_mod (pe_callTy call_int1 (by rfl) T.bint (by decide +kernel) (pa_cons (pe_op op_mod (pe_callTy call_int1 (by rfl) T.bint (by decide +kernel) (pa_cons (pe_op op_add (pe_op op_fdiv (pv 3) pe_int) (pe_op op_mul (pe_op op_mod (pe_callTy call_int1 (by rfl) T.bint (by decide +kernel) (pa_cons (pv 3) pa_nil)) pe_int) pe_int)) pa_nil)) pe_int) pa_nil)) (pv 1)))))))), ?_⟩
    have at0 : ∀ {u v t : V}, atI [u, v, t] 0 = some u := rfl
    have at1 : ∀ {u v t : V}, atI [u, v, t] 1 = some v := rfl
    have at2 : ∀ {u v t : V}, atI [u, v, t] 2 = some t := rfl
    have fr : ∀ {o : HO}, ∀ b, H b = none → (upd H S o) b = none := fun b hb => by
      rw [upd_ne (ne_of_none hS hb).symm]
      exact hb
    refine ⟨_, rfl, S, _, _, _, rfl, rfl, .inl (.inl hS), at0, _, _, rfl, rfl, ⟨by decide, by decide, by decide⟩, _, _, rfl, rfl, _, rfl, ?_⟩
    refine ite2 (fun _ => ?_) (fun _ => ?_)
    · refine ⟨_, rfl, S, _, _, _, rfl, rfl, .inl (.inl hS), at0, .inl ⟨_, rfl, _, rfl, _, _, rfl, rfl, h0, ?_⟩⟩
      refine ⟨_, rfl, S, _, _, _, rfl, rfl, .inl (.inl hS), at0, _, rfl, _, _, rfl, rfl, wid64 h0 h1, _, rfl, S, _, _, 0, rfl, rfl, hS, rfl, ?_⟩
      refine ⟨_, rfl, k _ _ (Int.emod_nonneg _ (by omega)) (Int.emod_lt_of_pos _ h0) ⟨_, _, _, upd_same⟩ But.upd fr⟩
    · refine ⟨_, rfl, S, _, _, _, rfl, rfl, .inl (.inl hS), at2, _, _, rfl, rfl, _, rfl, S, _, _, 2, rfl, rfl, hS, rfl, ?_⟩
      refine ⟨_, rfl, S, _, _, _, rfl, rfl, .inl (.inl upd_same), at1, _, rfl, S, _, _, _, rfl, rfl, .inl (.inl upd_same), at2, _, _, rfl, rfl, .inl ⟨by decide, by decide⟩, _, _, rfl, rfl, _, _, rfl, rfl, _, _, rfl, rfl, .inr ⟨by decide, by decide⟩,
        .inl ⟨_, rfl, _, _, rfl, rfl, by show (0 : Int) < 2147483647; decide, ?_⟩⟩
      generalize hm : ((y + 7919 * (z + 1) + 1) * 48271 : Int) % 2147483647 = q
      have q0 : 0 ≤ q := by rw [← hm]; exact Int.emod_nonneg _ (by decide)
      have q1 : q < 2147483647 := by rw [← hm]; exact Int.emod_lt_of_pos _ (by decide)
      refine ⟨_, rfl, _, rfl, _, _, rfl, rfl, ⟨by decide, by decide⟩, _, _, rfl, rfl, _, _, rfl, rfl, .inl ⟨by omega, by omega⟩, .inl ⟨_, rfl, _, _, rfl, rfl, by show (0 : Int) < 2147483587; decide, ?_⟩⟩
      refine ⟨_, rfl, _, _, rfl, rfl, ⟨by decide, by decide⟩, _, rfl, .inl ⟨_, rfl, _, _, rfl, rfl, by show (0 : Int) < 7919; decide, _, _, rfl, rfl, .inr ⟨by decide, by decide⟩, _, _, rfl, rfl, .inl ⟨_, rfl, _, _, rfl, rfl, by show (0 : Int) < 2147483399; decide,
        .inl ⟨_, rfl, _, rfl, _, _, rfl, rfl, h0, ?_⟩⟩⟩⟩
      exact k _ _ (Int.emod_nonneg _ (by omega)) (Int.emod_lt_of_pos _ h0) ⟨_, _, _, upd_same⟩ But.upd fr
theorem ok_pik (D : Df K a) (T : Txt K mg a) : FnOk P w K mg base CX0 2 a.fPik D.dPik ["_law_source_here", "_law_items"] spPik := by
  have GDrw : FnOk P w K mg base CX0 1 a.fDrw D.dDrw ["_law_source_here", "_law_many"] spDrw := ok_drw D T
  refine D.FPik.ok scPik (fun vs H Q E h => ?_) (fun cdv A outer s H vs Q E hr h => ?_)
  · obtain ⟨S, L, xs, rfl, _⟩ := h
    rfl
  · obtain ⟨S, L1, xs, rfl, hS, hL, ne, l0, l1, k⟩ := h
    refine ⟨_, (pss_one (ps_ret (pe_ix ix_list (pv 1) (pe_call GDrw hr rfl T.gDrw D.FDrw.kp D.bDrw .nil pass0 (pa_cons (pv 0) (pa_cons (pe_callB call_len_seq (by rfl) T.blen PySem.boot_len (pa_cons (pv 1) pa_nil)) pa_nil))) (fun _ _ => rfl)))), ?_⟩
    refine ⟨_, rfl, _, rfl, _, rfl, L1, xs, rfl, .inl (.inl (.inl hL)), S, _, rfl, hS, by omega, by omega, fun r H' r0 r1 hS' hB hF => ?_⟩
    have hi : r.toNat < xs.length := by omega
    refine ⟨L1, xs, r, xs[r.toNat], rfl, rfl, .inl (.inl (hB L1 _ hL ne)), ?_, k r.toNat _ H' (by simp [hi]) hS' hB hF⟩
    exact at_of (j := r.toNat) (by omega) (by simp [hi])
end
end G58.V

set_option Elab.async false
set_option linter.all false
set_option pp.maxSteps 2500
set_option maxRecDepth 100000
set_option maxHeartbeats 4000000
/-! drawn leaves. -/
namespace G58.V
open PySem PySem.Spec PyProof.Rows L2 LamX
theorem SrcAt.ne {H : Hp} {S : Addr} (h : SrcAt H S) : H S ≠ none := fun e => by
  obtain ⟨x, y, z, q⟩ := h
  rw [e] at q
  cases q
theorem src_same {H H' : Hp} {S : Addr} (h : SrcAt H S) (s : Same H H') : SrcAt H' S := by
  obtain ⟨x, y, z, q⟩ := h
  exact ⟨x, y, z, s _ _ q⟩
theorem src_ne {H : Hp} {S L : Addr} (h : SrcAt H S) (e : H L = none) : L ≠ S := fun z => h.ne (z ▸ e)
/-- a pick of what was just laid -/
theorem pickL {S L : Addr} {H : Hp} {xs : List V} {Q : VK} {E : XK} (hS : SrcAt H S) (hL : H L = none) (l0 : 0 < xs.length) (l1 : xs.length < 1000)
    (k : ∀ (i : Nat) (x : V) (H' : Hp), xs[i]? = some x → SrcAt H' S → But S H H' → Q x H') : spPik [.ref S, .ref L] (upd H L (.lst xs)) Q E := by
  have s := same_new (o := .lst xs) (Same.refl H) hL
  exact ⟨S, L, xs, rfl, src_same hS s, upd_same, src_ne hS hL, l0, l1, fun i x H' hx h1 h2 _ => k i x H' hx h1 ((Same.but s).trans h2)⟩
theorem new_at {H : Hp} {p : Addr} (o : HO) (h : H p = none) : Same H (upd H p o) ∧ (upd H p o) p = some o := ⟨same_new (Same.refl H) h, upd_same⟩
theorem catV {H : Hp} {q r : Addr} {xs ys : List V} {Q : VK} (h1 : H q = some (.lst xs)) (h2 : H r = some (.lst ys)) (hl : xs.length + ys.length ≤ 1000000) (k : ∀ p H', H p = none → Same H H' → H' p = some (.lst (xs ++ ys)) → Q (.ref p) H') : rCat (.ref q) (.ref r) H Q :=
  ⟨q, r, xs, ys, rfl, rfl, h1, h2, Nat.le_trans hl (by decide), fun p hp => k p _ hp (same_new (Same.refl H) hp) upd_same⟩
theorem join_ones (ns : List Nat) : PySem.Txt.join Str.empty (ns.map fun n => (⟨#[n]⟩ : Str)) = ⟨ns.toArray⟩ := by
  have h := SX.join_S [] (ns.map fun n => [n])
  rw [List.map_map] at h
  have e : TL.joinL [] (ns.map fun n => [n]) = ns := by
    induction ns with
    | nil => rfl
    | cons n r ih =>
      cases r with
      | nil => rfl
      | cons m r =>
        have q := ih (by have := SX.join_S [] ((m :: r).map fun n => [n]); rw [List.map_map] at this; exact this)
        show n :: ([] ++ TL.joinL [] ((m :: r).map fun n => [n])) = _
        rw [q]
        rfl
  rw [e] at h
  exact h
def Byts (ns : List Int) : Prop := ∀ n ∈ ns, 0 ≤ n ∧ n ≤ 255
def Unts (ns : List Int) : Prop := ∀ n ∈ ns, 0 ≤ n ∧ n ≤ 65535
def spByt : Sp := fun vs H Q _ => ∃ (S : Addr) (m : Nat), vs = [.ref S, .int (m : Nat)] ∧ SrcAt H S ∧ m ≤ 100 ∧ ∀ (ns : List Int) (L : Addr) (H' : Hp), ns.length = m → Byts ns → L ≠ S → H' L = some (.lst (ns.map V.int)) → SrcAt H' S → But S H H' → Q (.ref L) H'
def spUni : Sp := fun vs H Q _ => ∃ (S : Addr), vs = [.ref S] ∧ SrcAt H S ∧ ∀ (ns : List Int) (L : Addr) (H' : Hp), ns.length ≤ 100 → Unts ns → ns.all plainI = false → L ≠ S → H' L = some (.lst (ns.map V.int)) → SrcAt H' S → But S H H' → Q (.ref L) H'
section
variable {P : Program} {w : World} {K : PySem.W.Frag} {mg : Str → Option Value} {base : Heap} {a : Ad}
theorem scByt : FnScope ["_law_source_here", "_law_many", "_law_k"] ["_law_source_here", "_law_many"] (defScope sByt) := ⟨rfl, rfl, rfl, by decide +kernel, rfl, by decide +kernel, by decide +kernel⟩
theorem ok_byt (D : Df K a) (T : Txt K mg a) : FnOk P w K mg base CX0 3 a.fByt D.dByt ["_law_source_here", "_law_many"] spByt := by
  have GDrw : FnOk P w K mg base CX0 1 a.fDrw D.dDrw ["_law_source_here", "_law_many"] spDrw := ok_drw D T
  have GPik : FnOk P w K mg base CX0 2 a.fPik D.dPik ["_law_source_here", "_law_items"] spPik := ok_pik D T
  refine D.FByt.ok scByt (fun vs H Q E h => ?_) (fun cdv A outer s H vs Q E hr h => ?_)
  · obtain ⟨S, m, rfl, _⟩ := h
    rfl
  · obtain ⟨S, m, rfl, hS, hm, k⟩ := h
    have hr2 : Room 2 _ := hr.mono (by decide)
    have hr1 : Room 1 _ := hr.mono (by decide)
    refine ⟨_, (pss_one (ps_ret (pe_lc (own := [("_law_k", 2)]) (g := (gName 2)) (tt := tYes) rfl scByt.nd (pi_range1 (by rfl) T.brange (pa_cons (pv 1) pa_nil)) (blkOk_by (N := ["_law_source_here", "_law_many", "_law_k"]) (sc := defScope sByt) (by decide +kernel)) (fun _ _ _ _ _ => (pg_name (i := 2) scByt.nd rfl (.inl rfl))) (fun _ _ _ _ _ => pts_nil) (fun _ _ _ _ _ => (pe_call GPik hr2 rfl T.gPik D.FPik.kp D.bPik .nil pass0 (pa_cons (pv 0) (pa_cons (pe_lst (pa_cons pe_int (pa_cons pe_int (pa_cons pe_int (pa_cons (pe_call GDrw hr1 rfl T.gDrw D.FDrw.kp D.bDrw .nil pass0 (pa_cons (pv 0) (pa_cons pe_int pa_nil))) pa_nil))))) pa_nil))))))), ?_⟩
    refine ⟨_, rfl, ((m : Nat) : Int), rfl, by omega, by omega, fun DL hDL => lc_it walk_range (fun i H' => ∃ ns : List Int, ns.length = i ∧ H' DL = some (.lst (ns.map V.int)) ∧ Byts ns ∧ SrcAt H' S ∧ But S H H')
      ⟨[], rfl, upd_same, fun _ z => (nomatch z), src_same hS (same_new (Same.refl H) hDL), Same.but (same_new (Same.refl H) hDL)⟩ (fun _ _ _ _ => True.intro) ?_ ?_⟩
    · rintro i y H1' H1 hi ⟨ns, hl, eL, hb, hS1, b1⟩ ⟨rfl, rfl⟩
      refine ⟨rfl, ?_⟩
      dsimp only [tYes]
      refine iteT ?_
      refine ⟨_, rfl, _, rfl, S, 256, rfl, hS1, by decide, by decide, fun r H2 r0 r1 hS2 b2 _ => ⟨by show 4 ≤ sizeLine; decide, fun L hL => pickL (E := E0) hS2 hL (by show 0 < 4; decide) (by show 4 < 1000; decide) fun j x H3 hx hS3 b3 => ?_⟩⟩
      obtain ⟨n, rfl, hn⟩ : ∃ n : Int, x = .int n ∧ 0 ≤ n ∧ n ≤ 255 := by
        have := List.mem_of_getElem? hx
        simp only [List.mem_cons, List.not_mem_nil, or_false] at this
        rcases this with rfl | rfl | rfl | rfl
        · exact ⟨_, rfl, by decide, by decide⟩
        · exact ⟨_, rfl, by decide, by decide⟩
        · exact ⟨_, rfl, by decide, by decide⟩
        · exact ⟨_, rfl, r0, by omega⟩
      have nL : DL ≠ S := src_ne hS hDL
      refine ⟨_, b3 _ _ (b2 _ _ eL nL) nL, ?_, ns ++ [n], ?_, ?_, ?_, ?_, ?_⟩
      · rw [List.length_map]
        exact Nat.lt_of_lt_of_le (by omega : _ < 200) (by decide)
      · rw [List.length_append, hl]
        rfl
      · rw [upd_same, List.map_append]
        rfl
      · intro q hq
        rcases List.mem_append.mp hq with hq | hq
        · exact hb q hq
        · rw [List.mem_singleton.mp hq]
          exact hn
      · obtain ⟨x1, x2, x3, e⟩ := hS3
        exact ⟨x1, x2, x3, by rw [upd_ne (Ne.symm nL)]; exact e⟩
      · intro b o e n1
        rw [upd_ne (ne_of_none e hDL)]
        exact b3 _ _ (b2 _ _ (b1 _ _ e n1) n1) n1
    · rintro H1 ⟨ns, hl, eL, hb, hS1, b1⟩
      exact k ns DL H1 (by rw [hl]; exact Int.toNat_natCast m) hb (src_ne hS hDL) eL hS1 b1
def spItg : Sp := fun vs H Q _ => ∃ (S : Addr), vs = [.ref S] ∧ SrcAt H S ∧ ∀ (i : Int) (H' : Hp), -9223372036854775808 ≤ i → i ≤ 18446744073709551615 → SrcAt H' S → But S H H' → Q (.int i) H'
def spStr : Sp := fun vs H Q _ => ∃ (S : Addr), vs = [.ref S] ∧ SrcAt H S ∧ ∀ (z : Str) (H' : Hp), z.cps.toList.all plainC = true → z.cps.size ≤ 20 → SrcAt H' S → But S H H' → Q (.str z) H'
theorem scItg : FnScope ["_law_source_here", "_law_ends", "_law_near", "_law_some"] ["_law_source_here"] (defScope sItg) := ⟨rfl, rfl, rfl, by decide +kernel, rfl, by decide +kernel, by decide +kernel⟩
theorem ok_itg (D : Df K a) (T : Txt K mg a) : FnOk P w K mg base CX0 3 a.fItg D.dItg ["_law_source_here"] spItg := by
  have GDrw : FnOk P w K mg base CX0 1 a.fDrw D.dDrw ["_law_source_here", "_law_many"] spDrw := ok_drw D T
  have GPik : FnOk P w K mg base CX0 2 a.fPik D.dPik ["_law_source_here", "_law_items"] spPik := ok_pik D T
  refine D.FItg.ok scItg (fun vs H Q E h => ?_) (fun cdv A outer s H vs Q E hr h => ?_)
  · obtain ⟨S, rfl, _⟩ := h
    rfl
  · obtain ⟨S, rfl, hS, k⟩ := h
    have hr1 : Room 1 _ := hr.mono (by decide)
    refine ⟨_, (pss_cons (ps_set (i := 1) scItg.nd rfl (.inl rfl) (pe_lst (pa_cons pe_int (pa_cons pe_int (pa_cons pe_int (pa_cons (pe_op op_pow pe_int pe_int) (pa_cons (pe_op op_pow pe_int pe_int) (pa_cons (pe_op op_pow pe_int pe_int) (pa_cons (pe_op op_sub pe_int (pe_op op_pow pe_int pe_int)) pa_nil))))))))) (pss_cons (ps_set (i := 2) scItg.nd rfl (.inl rfl) (pe_op op_sub (pe_op op_add (pe_call GPik hr rfl T.gPik D.FPik.kp D.bPik .nil pass0 (pa_cons (pv 0) (pa_cons (pv 1) pa_nil))) (pe_call GDrw hr1 rfl T.gDrw D.FDrw.kp D.bDrw .nil pass0 (pa_cons (pv 0) (pa_cons pe_int pa_nil)))) pe_int)) (pss_cons (ps_set (i := 3) scItg.nd rfl (.inl rfl) (pe_lst (pa_cons (pv 2) (pa_cons (pv 2) (pa_cons (pe_op op_sub (pe_op op_sub (pe_op op_pow pe_int pe_int) pe_int) (pe_call GDrw hr1 rfl T.gDrw D.FDrw.kp D.bDrw .nil pass0 (pa_cons (pv 0) (pa_cons pe_int pa_nil)))) (pa_cons (pe_op op_sub (pe_call GDrw hr1 rfl T.gDrw D.FDrw.kp D.bDrw .nil pass0 (pa_cons (pv 0) (pa_cons pe_int pa_nil))) (pe_op op_pow pe_int pe_int)) pa_nil)))))) (pss_cons (ps_set (i := 3) scItg.nd rfl (.inl rfl) (pe_op op_cat (pv 3) (pe_lst (pa_cons (pe_call GDrw hr1 rfl T.gDrw D.FDrw.kp D.bDrw .nil pass0 (pa_cons (pv 0) (pa_cons pe_int pa_nil))) (pa_cons (pe_op op_sub pe_int (pe_call GDrw hr1 rfl T.gDrw D.FDrw.kp D.bDrw .nil pass0 (pa_cons (pv 0) (pa_cons (pe_op op_pow pe_int pe_int) pa_nil)))) pa_nil))))) (pss_one (ps_ret (pe_call GPik hr rfl T.gPik D.FPik.kp D.bPik .nil pass0 (pa_cons (pv 0) (pa_cons (pe_op op_cat (pv 3) (pe_lst (pa_cons (pe_call GDrw hr1 rfl T.gDrw D.FDrw.kp D.bDrw .nil pass0 (pa_cons (pv 0) (pa_cons (pe_op op_pow pe_int pe_int) pa_nil))) pa_nil))) pa_nil))))))))), ?_⟩
    have cp : ∀ {i j : Int}, 0 ≤ j → j ≤ 1000000 → i.natAbs < 2 ^ 64 → CPow i j := fun a b c => ⟨a, b, c⟩
    refine ⟨_, _, rfl, rfl, ⟨by decide, by decide, by decide⟩, _, _, rfl, rfl, ⟨by decide, by decide, by decide⟩, _, _, rfl, rfl, ⟨by decide, by decide, by decide⟩, _, _, rfl, rfl, ⟨by decide, by decide, by decide⟩, _, _, rfl, rfl, by show 7 ≤ sizeLine; decide, fun L1 hL1 => ?_⟩
    have s1 := same_new (o := .lst [.int 0, .int 256, .int 65536, .int (2 ^ 31), .int (2 ^ 32), .int (2 ^ 63), .int (0 - 2 ^ 31)]) (Same.refl H) hL1
    refine ⟨_, rfl, _, rfl, pickL (E := E0) hS hL1 (by show 0 < 7; decide) (by show 7 < 1000; decide) fun j x H1 hx hS1 b1 => ?_⟩
    obtain ⟨n, rfl, hn0, hn1⟩ : ∃ n : Int, x = .int n ∧ -2147483648 ≤ n ∧ n ≤ 9223372036854775808 := by
      have := List.mem_of_getElem? hx
      simp only [List.mem_cons, List.not_mem_nil, or_false] at this
      rcases this with rfl | rfl | rfl | rfl | rfl | rfl | rfl <;> exact ⟨_, rfl, by decide, by decide⟩
    have d2 : ∀ {i j : Int}, (0 ≤ j ∧ j ≤ 1000000 ∧ i.natAbs < 2 ^ 64) → CPow i j := fun h => h
    refine ⟨_, rfl, S, 5, rfl, hS1, by decide, by decide, fun q2 H2 q20 q21 hS2 b2 _ => ⟨_, _, rfl, rfl, _, _, rfl, rfl, ?_⟩⟩
    refine ⟨_, rfl, _, rfl, _, _, rfl, rfl, ⟨by decide, by decide, by decide⟩, _, _, rfl, rfl, _, rfl, S, 3, rfl, hS2, by decide, by decide, fun q3 H3 q30 q31 hS3 b3 _ => ⟨_, _, rfl, rfl, _, rfl, S, 3, rfl, hS3, by decide, by decide, fun q4 H4 q40 q41 hS4 b4 _ => ⟨_, _, rfl, rfl, ⟨by decide, by decide, by decide⟩, _, _, rfl, rfl, by show 4 ≤ sizeLine; decide, fun L2 hL2 => ?_⟩⟩⟩
    obtain ⟨s5, e5⟩ := new_at (.lst [.int (n + q2 - 2), .int (n + q2 - 2), .int (2 ^ 64 - 1 - q3), .int (q4 - 2 ^ 63)]) hL2
    have hS5 := src_same hS4 s5
    have nL2 := src_ne hS4 hL2
    refine ⟨_, rfl, _, rfl, S, 300, rfl, hS5, by decide, by decide, fun q5 H5 q50 q51 hS6 b5 _ => ?_⟩
    refine ⟨_, rfl, _, _, rfl, rfl, ⟨by decide, by decide, by decide⟩, S, _, rfl, hS6, by decide, by decide, fun q6 H6 q60 q61 hS7 b6 _ => ⟨_, _, rfl, rfl, by show 2 ≤ sizeLine; decide, fun L3 hL3 => ?_⟩⟩
    obtain ⟨s8, e8⟩ := new_at (.lst [.int q5, .int (0 - q6)]) hL3
    have e5' := s8 _ _ (b6 _ _ (b5 _ _ e5 nL2) nL2)
    have hS8 := src_same hS7 s8
    refine catV e5' e8 (by show 4 + 2 ≤ _; decide) fun L4 H7 _ s9 e9 => ?_
    have hS9 := src_same hS8 s9
    have nL4 : L4 ≠ S := fun z => by
      obtain ⟨y1, y2, y3, h⟩ := hS9
      rw [← z, e9] at h
      cases h
    refine ⟨_, rfl, _, rfl, _, rfl, _, _, rfl, rfl, ⟨by decide, by decide, by decide⟩, S, _, rfl, hS9, by decide, by decide, fun q7 H8 q70 q71 hS10 b7 _ => ⟨by show 1 ≤ sizeLine; decide, fun L5 hL5 => ?_⟩⟩
    obtain ⟨s10, e10⟩ := new_at (.lst [.int q7]) hL5
    refine catV (s10 _ _ (b7 _ _ e9 nL4)) e10 (by show 6 + 1 ≤ _; decide) fun L6 H9 hL6 s11 e11 => ?_
    have hS11 := src_same (src_same hS10 s10) s11
    have nL6 : L6 ≠ S := fun z => by
      obtain ⟨y1, y2, y3, h⟩ := hS11
      rw [← z, e11] at h
      cases h
    refine ⟨S, L6, _, rfl, hS11, e11, nL6, by show 0 < 7; decide, by show 7 < 1000; decide, fun j x H10 hx hS12 b8 _ => ?_⟩
    obtain ⟨i, rfl, hi0, hi1⟩ : ∃ i : Int, x = .int i ∧ -9223372036854775808 ≤ i ∧ i ≤ 18446744073709551615 := by
      have z1 : (2 : Int) ^ (Int.toNat 64) = 18446744073709551616 := by decide
      have z2 : (2 : Int) ^ (Int.toNat 63) = 9223372036854775808 := by decide
      have z3 : (10 : Int) ^ (Int.toNat 12) = 1000000000000 := by decide
      have z4 : (2 : Int) ^ 64 = 18446744073709551616 := by decide
      have z5 : (2 : Int) ^ 63 = 9223372036854775808 := by decide
      rw [z1] at q71
      rw [z3] at q61
      have := List.mem_of_getElem? hx
      rw [z4, z5] at this
      simp only [List.mem_append, List.mem_cons, List.not_mem_nil, or_false] at this
      rcases this with ((rfl | rfl | rfl | rfl) | rfl | rfl) | rfl <;> exact ⟨_, rfl, by omega, by omega⟩
    refine k i H10 hi0 hi1 hS12 ?_
    have c1 := (b1.trans b2).trans b3
    have c2 := (c1.trans b4).trans (Same.but s5)
    have c3 := (c2.trans b5).trans b6
    have c4 := (c3.trans (Same.but (s8.trans s9))).trans b7
    exact (c4.trans (Same.but (s10.trans s11))).trans b8
theorem scStr : FnScope ["_law_source_here", "_law_signs", "_law_many", "_law_k"] ["_law_source_here"] (defScope sStr) := ⟨rfl, rfl, rfl, by decide +kernel, rfl, by decide +kernel, by decide +kernel⟩
theorem ok_str (D : Df K a) (T : Txt K mg a) : FnOk P w K mg base CX0 3 a.fStr D.dStr ["_law_source_here"] spStr := by
  have GDrw : FnOk P w K mg base CX0 1 a.fDrw D.dDrw ["_law_source_here", "_law_many"] spDrw := ok_drw D T
  have GPik : FnOk P w K mg base CX0 2 a.fPik D.dPik ["_law_source_here", "_law_items"] spPik := ok_pik D T
  refine D.FStr.ok scStr (fun vs H Q E h => ?_) (fun cdv A outer s H vs Q E hr h => ?_)
  · obtain ⟨S, rfl, _⟩ := h
    rfl
  · obtain ⟨S, rfl, hS, k⟩ := h
    have hr1 : Room 1 _ := hr.mono (by decide)
    refine ⟨_, (pss_cons (ps_set (i := 1) scStr.nd rfl (.inr rfl) pe_str) (pss_cons (ps_set (i := 2) scStr.nd rfl (.inl rfl) (pe_call GPik hr rfl T.gPik D.FPik.kp D.bPik .nil pass0 (pa_cons (pv 0) (pa_cons (pe_lst (pa_cons pe_int (pa_cons pe_int (pa_cons pe_int (pa_cons pe_int (pa_cons pe_int (pa_cons pe_int (pa_cons pe_int (pa_cons pe_int (pa_cons pe_int pa_nil)))))))))) pa_nil)))) (pss_one (ps_ret (pe_join pe_str (pe_lc (own := [("_law_k", 3)]) (g := (gName 3)) (tt := tYes) rfl scStr.nd (pi_range1 (by rfl) T.brange (pa_cons (pv 2) pa_nil)) (blkOk_by (N := ["_law_source_here", "_law_signs", "_law_many", "_law_k"]) (sc := defScope sStr) (by decide +kernel)) (fun _ _ _ _ _ => (pg_name (i := 3) scStr.nd rfl (.inl rfl))) (fun _ _ _ _ _ => pts_nil) (fun _ _ _ _ _ => (pe_ix ix_str (pv 1) (pe_call GDrw hr1 rfl T.gDrw D.FDrw.kp D.bDrw .nil pass0 (pa_cons (pv 0) (pa_cons (pe_callB call_len_str (by rfl) T.blen PySem.boot_len (pa_cons (pv 1) pa_nil)) pa_nil))) (fun _ _ => rfl))))))))), ?_⟩
    refine ⟨_, rfl, by show 9 ≤ sizeLine; decide, fun L1 hL1 => pickL (E := E0) hS hL1 (by show 0 < 9; decide) (by show 9 < 1000; decide) fun j x H1 hx hS1 b1 => ?_⟩
    obtain ⟨n, rfl, hn⟩ : ∃ n : Nat, x = .int (n : Nat) ∧ n ≤ 16 := by
      have := List.mem_of_getElem? hx
      simp only [List.mem_cons, List.not_mem_nil, or_false] at this
      rcases this with rfl | rfl | rfl | rfl | rfl | rfl | rfl | rfl | rfl
      · exact ⟨0, rfl, by decide⟩
      · exact ⟨1, rfl, by decide⟩
      · exact ⟨1, rfl, by decide⟩
      · exact ⟨2, rfl, by decide⟩
      · exact ⟨3, rfl, by decide⟩
      · exact ⟨5, rfl, by decide⟩
      · exact ⟨14, rfl, by decide⟩
      · exact ⟨15, rfl, by decide⟩
      · exact ⟨16, rfl, by decide⟩
    obtain ⟨sg, esg⟩ : ∃ sg : Str, sg = "abcz AZ09~!\"\\/'.,:[]{}&#$-_" := ⟨_, rfl⟩
    have lsg : sg.length = 27 := by
      rw [esg]
      decide +kernel
    have psg : sg.cps.toList.all plainC = true := by
      rw [esg]
      decide +kernel
    rw [← esg]
    clear esg
    refine ⟨⟨_, rfl⟩, _, rfl, ((n : Nat) : Int), rfl, by omega, by omega, fun DL hDL => lc_it walk_range (fun i H' => ∃ ns : List Nat, ns.length = i ∧ H' DL = some (.lst ((ns.map fun c => (⟨#[c]⟩ : Str)).map V.str)) ∧ ns.all plainC = true ∧ SrcAt H' S ∧ But S H1 H')
      ⟨[], rfl, upd_same, rfl, src_same hS1 (same_new (Same.refl H1) hDL), Same.but (same_new (Same.refl H1) hDL)⟩ (fun _ _ _ _ => True.intro) ?_ ?_⟩
    · rintro i y H2' H2 hi ⟨ns, hl, eL, hb, hS2, b2⟩ ⟨rfl, rfl⟩
      refine ⟨rfl, ?_⟩
      dsimp only [tYes]
      refine iteT ?_
      have nL : DL ≠ S := src_ne hS1 hDL
      refine ⟨_, rfl, _, rfl, _, rfl, _, rfl, by rw [lsg]; decide, S, _, rfl, hS2, by rw [lsg]; decide, by rw [lsg]; decide, fun r H3 r0 r1 hS3 b3 _ => ?_⟩
      rw [lsg] at r1
      have hr3 : r.toNat < sg.cps.toList.length := by
        rw [Array.length_toList]
        show r.toNat < sg.length
        rw [lsg]
        omega
      have hc := List.getElem?_eq_getElem hr3
      generalize sg.cps.toList[r.toNat] = c at hc
      have pc : plainC c = true := List.all_eq_true.mp psg c (List.mem_of_getElem? hc)
      refine ⟨_, _, c, rfl, rfl, by rw [lsg]; decide, ?_, ?_⟩
      · have e : r = ((r.toNat : Nat) : Int) := by omega
        rw [e]
        exact atI_nat hc
      refine ⟨_, b3 _ _ eL nL, ?_, ns ++ [c], ?_, ?_, ?_, ?_, ?_⟩
      · rw [List.length_map, List.length_map]
        exact Nat.lt_of_lt_of_le (by omega : _ < 200) (by decide)
      · rw [List.length_append, hl]
        rfl
      · rw [upd_same, List.map_append, List.map_append]
        rfl
      · rw [List.all_append, hb]
        show (true && (plainC c && true)) = true
        rw [pc]
        rfl
      · obtain ⟨x1, x2, x3, e⟩ := hS3
        exact ⟨x1, x2, x3, by rw [upd_ne (Ne.symm nL)]; exact e⟩
      · intro b o e n1
        rw [upd_ne (ne_of_none e hDL)]
        exact b3 _ _ (b2 _ _ e n1) n1
    · rintro H2 ⟨ns, hl, eL, hb, hS2, b2⟩
      have l16 : ns.length ≤ 16 := by omega
      refine ⟨_, DL, _, rfl, rfl, .inl (.inl (.inl eL)), ?_, ?_⟩
      · rw [List.map_map]
        have : (ns.map ((fun x : Str => x.length) ∘ fun c => (⟨#[c]⟩ : Str))).sum = ns.length := by
          clear hl eL hb l16
          induction ns with
          | nil => rfl
          | cons n r ih =>
            rw [List.map_cons, List.sum_cons, ih, List.length_cons]
            show 1 + _ = _
            omega
        rw [this, List.length_map]
        show _ + _ * 0 ≤ _
        omega
      · have q := k ⟨ns.toArray⟩ H2 (by simpa using hb) (by simpa using Nat.le_trans l16 (by decide)) hS2 (b1.trans b2)
        rw [← join_ones] at q
        exact q
end
end G58.V

set_option Elab.async false
set_option linter.all false
set_option pp.maxSteps 2500
set_option maxRecDepth 100000
set_option maxHeartbeats 4000000
/-! Drawn leaves. -/
namespace G58.V
open PySem PySem.Spec PyProof.Rows L2 LamX
theorem passX0 {X : Cx} : Passes (L2.CX X.prog X.w) X E0 := fun _ _ _ _ _ _ _ ⟨_, _, _, _, _, _, _, _, _, _, _, _, h⟩ => h.elim
theorem LfAt.but {K : PySem.W.Frag} {a : Ad} {H H' : Hp} {l : Lf} {v : V} (h : LfAt K a H l v) (s : ∀ b o, H b = some o → (∀ xs, o ≠ .lst xs) → H' b = some o) : LfAt K a H' l v := by
  cases l with
  | thg y f =>
    obtain ⟨p, e, dx, v', h1, h2⟩ := h
    refine ⟨p, e, dx, v', s _ _ h1 (fun xs z => by cases z), ?_⟩
    cases f with
    | num n => exact h2
    | row ns =>
      obtain ⟨t, e2, h3⟩ := h2
      refine ⟨t, e2, ?_⟩
      rcases h3 with (h | ⟨z, h⟩) | h
      · exact .inl (.inl (s _ _ h (fun xs z => by cases z)))
      · exact .inl (.inr ⟨z, s _ _ h (fun xs z => by cases z)⟩)
      · exact .inr h
  | non => exact h
  | bl b => exact h
  | int i => exact h
  | str z => exact h
theorem all_inI {lo hi : Int} {ns : List Int} (h : ∀ n ∈ ns, lo ≤ n ∧ n ≤ hi) : (ns.map V.int).all (isIn lo hi) = true := by
  rw [List.all_map]
  refine List.all_eq_true.mpr fun n hn => ?_
  obtain ⟨h1, h2⟩ := h n hn
  show (decide (lo ≤ n) && decide (n ≤ hi)) = true
  rw [decide_eq_true h1, decide_eq_true h2]
  rfl
theorem plain_I (ns : List Int) : (ns.map V.int).all plainV = ns.all plainI := by
  rw [List.all_map]
  rfl
/-- a thing's field is one that its class takes -/
def goodL : Lf → Prop
  | .thg y f => f.arg.good y = true
  | _ => True
def tinyL : Lf → Prop
  | .str z => z.cps.size ≤ 20
  | .thg _ (.row ns) => ns.length ≤ 100
  | _ => True
def spWid (K : PySem.W.Frag) (a : Ad) : Sp := fun vs H Q _ => ∃ (S : Addr), vs = [.ref S] ∧ SrcAt H S ∧ ∀ (v : V) (ns : List Int) (H' : Hp), LfAt K a H' (.thg .w (.row ns)) v → ns.length ≤ 100 → goodL (.thg .w (.row ns)) → SrcAt H' S → But S H H' → Q v H'
def spLea (K : PySem.W.Frag) (a : Ad) : Sp := fun vs H Q _ => ∃ (S : Addr), vs = [.ref S] ∧ SrcAt H S ∧ ∀ (v : V) (l : Lf) (H' : Hp), LfAt K a H' l v → okL l = true → smallL l → goodL l → tinyL l → SrcAt H' S → But S H H' → Q v H'
section
variable {P : Program} {w : World} {K : PySem.W.Frag} {mg : Str → Option Value} {base : Heap} {a : Ad}
/-- a thing is made -/
theorem mkF {y : Wy} {H : Hp} {v : V} {f : FV} {R : V → Hp → Prop} (hv : ArgAt K H v f.arg) (hg : f.arg.good y = true) (k : ∀ (x : Addr) (H' : Hp), Same H H' → ThAt K a H' x y f.arg → R (.ref x) H') :
    ∀ x dx, H x = none → H dx = none → dx ≠ x → spInit K a y (.ref x :: ([v] ++ [])) (upd (upd H dx (.own x)) x (.ins (y.cls a) dx [])) (fun u H2 => u = .non ∧ R (.ref x) H2) E0 := by
  intro x dx hx hdx ne
  have s1 := same_new (o := .own x) (Same.refl H) hdx
  have hx1 : (upd H dx (.own x)) x = none := by rw [upd_ne (Ne.symm ne)]; exact hx
  have s2 := same_new (o := .ins (y.cls a) dx []) s1 hx1
  refine ⟨x, dx, v, f.arg, rfl, upd_same, hv.extN (.of s2), fun _ H' v' kp hx' hf => ⟨rfl, ?_⟩, fun e => by rw [hg] at e; cases e⟩
  exact k x H' (fun b o e => kp b o (s2 b o e) (ne_of_none e hx)) ⟨dx, v', hx', hf⟩
theorem arg_row {H : Hp} {t : Addr} {ns : List Int} (ht : H t = some (.lst (ns.map V.int))) (hl : ns.length ≤ 1000) : ArgAt K H (.ref t) (FV.row ns).arg := by
  refine ⟨t, rfl, .inl (.inl (.inl ht)), by rw [List.length_map]; omega, fun v hv => ?_⟩
  obtain ⟨u, _, rfl⟩ := List.mem_map.mp hv
  exact .inl ⟨_, rfl⟩
theorem scWid : FnScope ["_law_source_here", "_law_units", "_law_k"] ["_law_source_here"] (defScope sWid) := ⟨rfl, rfl, rfl, by decide +kernel, rfl, by decide +kernel, by decide +kernel⟩
theorem ok_wid (D : Df K a) (T : Txt K mg a) : FnOk P w K mg base CX0 6 a.fWid D.dWid ["_law_source_here"] (spWid K a) := by
  have GDrw : FnOk P w K mg base CX0 1 a.fDrw D.dDrw ["_law_source_here", "_law_many"] spDrw := ok_drw D T
  have GPik : FnOk P w K mg base CX0 2 a.fPik D.dPik ["_law_source_here", "_law_items"] spPik := ok_pik D T
  have GiW : FnOk P w K mg base (L2.CX P w) 4 a.fiW D.diW ["self", "units"] (spInit K a .w) := ok_iW D T
  refine D.FWid.ok scWid (fun vs H Q E h => ?_) (fun cdv A outer s H vs Q E hr h => ?_)
  · obtain ⟨S, rfl, _⟩ := h
    rfl
  · obtain ⟨S, rfl, hS, k⟩ := h
    have hr2 : Room 2 _ := hr.mono (by decide)
    have hr1 : Room 1 _ := hr.mono (by decide)
    refine ⟨_, (pss_cons (ps_set (i := 1) scWid.nd rfl (.inl rfl) (pe_lst pa_nil)) (pss_cons (ps_for PassesOwn.never rfl (pi_range1 (by rfl) T.brange (pa_cons (pe_call GDrw hr1 rfl T.gDrw D.FDrw.kp D.bDrw .nil pass0 (pa_cons (pv 0) (pa_cons pe_int pa_nil))) pa_nil)) (pg_name (i := 2) scWid.nd rfl (.inl rfl)) (pss_one (ps_expr (pe_bm PySem.F.plainAttrs_list PySem.F.slot_list_append PySem.F.type_list_append mt_append (pv 1) (pa_cons (pe_call GPik hr2 rfl T.gPik D.FPik.kp D.bPik .nil pass0 (pa_cons (pv 0) (pa_cons (pe_lst (pa_cons pe_int (pa_cons pe_int (pa_cons pe_int (pa_cons pe_int (pa_cons pe_int (pa_cons pe_int (pa_cons (pe_call GDrw hr1 rfl T.gDrw D.FDrw.kp D.bDrw .nil pass0 (pa_cons (pv 0) (pa_cons pe_int pa_nil))) pa_nil)))))))) pa_nil))) pa_nil))))) (pss_one (ps_ret (pe_make T.mkWide GiW hr rfl T.gcWide D.biW .nil passX0 (pa_cons (pe_op op_cat (pv 1) (pe_lst (pa_cons (pe_call GPik hr2 rfl T.gPik D.FPik.kp D.bPik .nil pass0 (pa_cons (pv 0) (pa_cons (pe_lst (pa_cons pe_int (pa_cons pe_int (pa_cons pe_int (pa_cons pe_int (pa_cons pe_int (pa_cons pe_int (pa_cons pe_int pa_nil)))))))) pa_nil))) pa_nil))) pa_nil)))))), ?_⟩
    refine ⟨by show 0 ≤ sizeLine; decide, fun DL hDL => ?_⟩
    have nL : DL ≠ S := src_ne hS hDL
    have hS0 := src_same hS (same_new (o := .lst []) (Same.refl H) hDL)
    have B0 : But S H (upd H DL (.lst [])) := Same.but (same_new (Same.refl H) hDL)
    refine ⟨_, rfl, S, 6, rfl, hS0, by decide, by decide, fun m H1 m0 m1 hS1 b1 _ => ?_⟩
    refine ⟨m, rfl, by omega, by omega, for_it walk_range (fun i st H2 => ∃ (u2 : Option V) (ns : List Int), st = [some (.ref S), some (.ref DL), u2] ∧ ns.length = i ∧ H2 DL = some (.lst (ns.map V.int)) ∧ Unts ns ∧ SrcAt H2 S ∧ But S H H2) ⟨_, [], rfl, rfl, b1 _ _ upd_same nL, (fun _ z => nomatch z), hS1, fun b o e n => b1 _ _ (B0 _ _ e n) n⟩ (fun _ _ _ _ _ => True.intro) ?_ ?_⟩
    · rintro i y st H2' H2 hi ⟨u2, ns, rfl, hl, eL, hb, hS2, B2⟩ ⟨rfl, rfl⟩
      refine ⟨_, rfl, .inl ⟨rfl, _, .inl (.inl eL)⟩, _, rfl, _, rfl, S, 65536, rfl, hS2, by decide, by decide, fun r H3 r0 r1 hS3 b3 _ => ⟨by show 7 ≤ sizeLine; decide, fun L hL => pickL (E := E0) hS3 hL (by show 0 < 7; decide) (by show 7 < 1000; decide) fun j x H4 hx hS4 b4 => ?_⟩⟩
      obtain ⟨n, rfl, hn⟩ : ∃ n : Int, x = .int n ∧ 0 ≤ n ∧ n ≤ 65535 := by
        have := List.mem_of_getElem? hx
        simp only [List.mem_cons, List.not_mem_nil, or_false] at this
        rcases this with rfl | rfl | rfl | rfl | rfl | rfl | rfl <;> exact ⟨_, rfl, by omega, by omega⟩
      have eL4 := b4 _ _ (b3 _ _ eL nL) nL
      refine ⟨DL, _, _, rfl, rfl, eL4, ?_, _, ns ++ [n], rfl, ?_, ?_, ?_, ?_, ?_⟩
      · rw [List.length_map]
        exact Nat.lt_of_lt_of_le (by omega : _ < 200) (by decide)
      · rw [List.length_append, hl]
        rfl
      · rw [upd_same, List.map_append]
        rfl
      · intro q hq
        rcases List.mem_append.mp hq with hq | hq
        · exact hb q hq
        · rw [List.mem_singleton.mp hq]
          exact hn
      · obtain ⟨x1, x2, x3, e⟩ := hS4
        exact ⟨x1, x2, x3, by rw [upd_ne (Ne.symm nL)]; exact e⟩
      · intro b o e n1
        rw [upd_ne (ne_of_none e hDL)]
        exact b4 _ _ (b3 _ _ (B2 _ _ e n1) n1) n1
    · rintro st H2 ⟨u2, ns, rfl, hl, eL, hb, hS2, B2⟩
      have l6 : ns.length ≤ 6 := by omega
      refine ⟨_, rfl, _, rfl, by show 7 ≤ sizeLine; decide, fun L hL => pickL (E := E0) hS2 hL (by show 0 < 7; decide) (by show 7 < 1000; decide) fun j x H3 hx hS3 b3 => ?_⟩
      obtain ⟨n, rfl, hn0, hn1, hnp⟩ : ∃ n : Int, x = .int n ∧ 0 ≤ n ∧ n ≤ 65535 ∧ plainI n = false := by
        have := List.mem_of_getElem? hx
        simp only [List.mem_cons, List.not_mem_nil, or_false] at this
        rcases this with rfl | rfl | rfl | rfl | rfl | rfl | rfl <;> exact ⟨_, rfl, by decide, by decide, by decide⟩
      refine ⟨by show 1 ≤ sizeLine; decide, fun L2 hL2 => ?_⟩
      obtain ⟨s4, e4⟩ := new_at (.lst [.int n]) hL2
      refine catV (s4 _ _ (b3 _ _ eL nL)) e4 (by rw [List.length_map]; show _ + 1 ≤ _; omega) fun L3 H5 _ s5 e5 => ?_
      have e5 : H5 L3 = some (.lst ((ns ++ [n]).map V.int)) := by
        rw [e5, List.map_append]
        rfl
      have hgd : goodL (.thg .w (.row (ns ++ [n]))) := by
        show (((ns ++ [n]).map V.int).all (isIn 0 65535) && !(((ns ++ [n]).map V.int).all plainV)) = true
        rw [all_inI fun q hq => ?_, plain_I, List.all_append]
        · show (true && !(ns.all plainI && (plainI n && true))) = true
          rw [hnp]
          simp
        · rcases List.mem_append.mp hq with hq | hq
          · exact hb q hq
          · rw [List.mem_singleton.mp hq]
            exact ⟨hn0, hn1⟩
      refine mkF (y := .w) (f := .row (ns ++ [n])) (arg_row e5 (by rw [List.length_append]; show _ + 1 ≤ 1000; omega)) hgd fun x H6 s6 hx6 => ?_
      · have s46 := s4.trans (s5.trans s6)
        exact k _ (ns ++ [n]) _ ⟨x, rfl, hx6⟩ (by rw [List.length_append]; show _ + 1 ≤ 100; omega) hgd (src_same hS3 s46) ((B2.trans b3).trans (Same.but s46))
theorem scLea : FnScope ["_law_source_here", "_law_way"] ["_law_source_here"] (defScope sLea) := ⟨rfl, rfl, rfl, by decide +kernel, rfl, by decide +kernel, by decide +kernel⟩
theorem ok_lea (D : Df K a) (T : Txt K mg a) : FnOk P w K mg base CX0 7 a.fLea D.dLea ["_law_source_here"] (spLea K a) := by
  have GDrw : FnOk P w K mg base CX0 1 a.fDrw D.dDrw ["_law_source_here", "_law_many"] spDrw := ok_drw D T
  have GPik : FnOk P w K mg base CX0 2 a.fPik D.dPik ["_law_source_here", "_law_items"] spPik := ok_pik D T
  have GByt : FnOk P w K mg base CX0 3 a.fByt D.dByt ["_law_source_here", "_law_many"] spByt := ok_byt D T
  have GItg : FnOk P w K mg base CX0 3 a.fItg D.dItg ["_law_source_here"] spItg := ok_itg D T
  have GStr : FnOk P w K mg base CX0 3 a.fStr D.dStr ["_law_source_here"] spStr := ok_str D T
  have GWid : FnOk P w K mg base CX0 6 a.fWid D.dWid ["_law_source_here"] (spWid K a) := ok_wid D T
  have GiD : FnOk P w K mg base (L2.CX P w) 4 a.fiD D.diD ["self", "octets"] (spInit K a .d) := ok_iD D T
  have GiU : FnOk P w K mg base (L2.CX P w) 4 a.fiU D.diU ["self", "number"] (spInit K a .u) := ok_iU D T
  have GiR : FnOk P w K mg base (L2.CX P w) 4 a.fiR D.diR ["self", "octets"] (spInit K a .r) := ok_iR D T
  have GiT : FnOk P w K mg base (L2.CX P w) 4 a.fiT D.diT ["self", "octets"] (spInit K a .t) := ok_iT D T
  refine D.FLea.ok scLea (fun vs H Q E h => ?_) (fun cdv A outer s H vs Q E hr h => ?_)
  · obtain ⟨S, rfl, _⟩ := h
    rfl
  · obtain ⟨S, rfl, hS, k⟩ := h
    have hr5 : Room 5 _ := hr.mono (by decide)
    have hr3 : Room 3 _ := hr.mono (by decide)
    have hr2 : Room 2 _ := hr.mono (by decide)
    have hr1 : Room 1 _ := hr.mono (by decide)
    refine ⟨_, (pss_cons (ps_set (i := 1) scLea.nd rfl (.inl rfl) (pe_call GDrw hr1 rfl T.gDrw D.FDrw.kp D.bDrw .nil pass0 (pa_cons (pv 0) (pa_cons pe_int pa_nil)))) (pss_cons (ps_if (pt_cmpR op_lt (pv 1) pe_int (nomark _)) (pss_one (ps_ret (pe_call GPik hr2 rfl T.gPik D.FPik.kp D.bPik .nil pass0 (pa_cons (pv 0) (pa_cons (pe_lst (pa_cons pe_non (pa_cons pe_bl (pa_cons pe_bl pa_nil)))) pa_nil))))) pss_nil) (pss_cons (ps_if (pt_cmpR op_lt (pv 1) pe_int (nomark _)) (pss_one (ps_ret (pe_call GItg hr3 rfl T.gItg D.FItg.kp D.bItg .nil pass0 (pa_cons (pv 0) pa_nil)))) pss_nil) (pss_cons (ps_if (pt_cmpR op_lt (pv 1) pe_int (nomark _)) (pss_one (ps_ret (pe_call GStr hr3 rfl T.gStr D.FStr.kp D.bStr .nil pass0 (pa_cons (pv 0) pa_nil)))) pss_nil) (pss_cons (ps_if (pt_cmpR op_eq (pv 1) pe_int (nomark _)) (pss_one (ps_ret (pe_call GWid hr rfl T.gWid D.FWid.kp D.bWid .nil pass0 (pa_cons (pv 0) pa_nil)))) pss_nil) (pss_cons (ps_if (pt_cmpR op_eq (pv 1) pe_int (nomark _)) (pss_one (ps_ret (pe_make T.mkData GiD hr5 rfl T.gcData D.biD .nil passX0 (pa_cons (pe_call GByt hr3 rfl T.gByt D.FByt.kp D.bByt .nil pass0 (pa_cons (pv 0) (pa_cons (pe_call GPik hr2 rfl T.gPik D.FPik.kp D.bPik .nil pass0 (pa_cons (pv 0) (pa_cons (pe_lst (pa_cons pe_int (pa_cons pe_int (pa_cons pe_int (pa_cons pe_int (pa_cons pe_int (pa_cons pe_int (pa_cons pe_int pa_nil)))))))) pa_nil))) pa_nil))) pa_nil)))) pss_nil) (pss_cons (ps_if (pt_cmpR op_eq (pv 1) pe_int (nomark _)) (pss_one (ps_ret (pe_make T.mkUid GiU hr5 rfl T.gcUid D.biU .nil passX0 (pa_cons (pe_call GPik hr2 rfl T.gPik D.FPik.kp D.bPik .nil pass0 (pa_cons (pv 0) (pa_cons (pe_lst (pa_cons pe_int (pa_cons pe_int (pa_cons pe_int (pa_cons (pe_op op_sub (pe_op op_pow pe_int pe_int) pe_int) (pa_cons (pe_call GDrw hr1 rfl T.gDrw D.FDrw.kp D.bDrw .nil pass0 (pa_cons (pv 0) (pa_cons (pe_op op_pow pe_int pe_int) pa_nil))) pa_nil)))))) pa_nil))) pa_nil)))) pss_nil) (pss_one (ps_ret (pe_ifExp (pt_cmpR op_eq (pv 1) pe_int (nomark _)) (pe_make T.mkDate GiT hr5 rfl T.gcDate D.biT .nil passX0 (pa_cons (pe_call GByt hr3 rfl T.gByt D.FByt.kp D.bByt .nil pass0 (pa_cons (pv 0) (pa_cons pe_int pa_nil))) pa_nil)) (pe_make T.mkReal GiR hr5 rfl T.gcReal D.biR .nil passX0 (pa_cons (pe_call GByt hr3 rfl T.gByt D.FByt.kp D.bByt .nil pass0 (pa_cons (pv 0) (pa_cons (pe_call GPik hr2 rfl T.gPik D.FPik.kp D.bPik .nil pass0 (pa_cons (pv 0) (pa_cons (pe_lst (pa_cons pe_int (pa_cons pe_int pa_nil))) pa_nil))) pa_nil))) pa_nil)))))))))))), ?_⟩
    refine ⟨_, rfl, S, 13, rfl, hS, by decide, by decide, fun m H1 m0 m1 hS1 b1 _ => ?_⟩
    refine ⟨_, rfl, _, _, rfl, rfl, _, rfl, ?_⟩
    by_cases c1 : m < 2
    · rw [decide_eq_true c1]
      refine iteT ?_
      refine ⟨_, rfl, by show 3 ≤ sizeLine; decide, fun L hL => pickL (E := E0) hS1 hL (by show 0 < 3; decide) (by show 3 < 1000; decide) fun j x H2 hx hS2 b2 => ?_⟩
      have := List.mem_of_getElem? hx
      simp only [List.mem_cons, List.not_mem_nil, or_false] at this
      rcases this with rfl | rfl | rfl
      · exact k _ .non _ rfl rfl trivial trivial trivial hS2 (b1.trans b2)
      · exact k _ (.bl true) _ rfl rfl trivial trivial trivial hS2 (b1.trans b2)
      · exact k _ (.bl false) _ rfl rfl trivial trivial trivial hS2 (b1.trans b2)
    rw [decide_eq_false c1]
    refine iteF ⟨_, rfl, _, _, rfl, rfl, _, rfl, ?_⟩
    by_cases c2 : m < 5
    · rw [decide_eq_true c2]
      refine iteT ⟨_, rfl, S, rfl, hS1, fun i H2 i0 i1 hS2 b2 => k _ (.int i) _ rfl ?_ trivial trivial trivial hS2 (b1.trans b2)⟩
      show (decide _ && decide _) = true
      rw [decide_eq_true i0, decide_eq_true i1]
      rfl
    rw [decide_eq_false c2]
    refine iteF ⟨_, rfl, _, _, rfl, rfl, _, rfl, ?_⟩
    by_cases c3 : m < 8
    · rw [decide_eq_true c3]
      exact iteT ⟨_, rfl, S, rfl, hS1, fun z H2 z0 z1 hS2 b2 => k _ (.str z) _ rfl z0 (Nat.le_trans z1 (by decide)) trivial z1 hS2 (b1.trans b2)⟩
    rw [decide_eq_false c3]
    refine iteF ⟨_, rfl, rfl, _, rfl, ?_⟩
    by_cases c4 : m = 8
    · rw [decide_eq_true (congrArg V.int c4)]
      exact iteT ⟨_, rfl, S, rfl, hS1, fun v ns H2 hv hl hg hS2 b2 => k v (.thg .w (.row ns)) _ hv rfl (show ns.length ≤ 1000 by omega) hg hl hS2 (b1.trans b2)⟩
    rw [decide_eq_false fun z => c4 (V.int.inj z)]
    refine iteF ⟨_, rfl, rfl, _, rfl, ?_⟩
    by_cases c5 : m = 9
    · rw [decide_eq_true (congrArg V.int c5)]
      refine iteT ⟨_, rfl, _, rfl, by show 7 ≤ sizeLine; decide, fun L hL => pickL (E := E0) hS1 hL (by show 0 < 7; decide) (by show 7 < 1000; decide) fun j x H2 hx hS2 b2 => ?_⟩
      obtain ⟨n, rfl, hn⟩ : ∃ n : Nat, x = .int (n : Nat) ∧ n ≤ 100 := by
        have := List.mem_of_getElem? hx
        simp only [List.mem_cons, List.not_mem_nil, or_false] at this
        rcases this with rfl | rfl | rfl | rfl | rfl | rfl | rfl
        · exact ⟨0, rfl, by decide⟩
        · exact ⟨1, rfl, by decide⟩
        · exact ⟨4, rfl, by decide⟩
        · exact ⟨8, rfl, by decide⟩
        · exact ⟨14, rfl, by decide⟩
        · exact ⟨15, rfl, by decide⟩
        · exact ⟨16, rfl, by decide⟩
      refine ⟨S, n, rfl, hS2, hn, fun ns L3 H3 hl hb nL e3 hS3 b3 => ?_⟩
      refine mkF (y := .d) (f := .row ns) (arg_row e3 (by omega)) (all_inI hb) fun x H4 s4 hx4 => ?_
      exact k _ (.thg .d (.row ns)) _ ⟨x, rfl, hx4⟩ rfl (show ns.length ≤ 1000 by omega) (all_inI hb) (show ns.length ≤ 100 by omega) (src_same hS3 s4) (((b1.trans b2).trans b3).trans (Same.but s4))
    rw [decide_eq_false fun z => c5 (V.int.inj z)]
    refine iteF ⟨_, rfl, rfl, _, rfl, ?_⟩
    by_cases c6 : m = 10
    · rw [decide_eq_true (congrArg V.int c6)]
      refine iteT ⟨_, rfl, _, _, rfl, rfl, ⟨by decide, by decide, by decide⟩, _, _, rfl, rfl, _, rfl, _, _, rfl, rfl, ⟨by decide, by decide, by decide⟩, S, _, rfl, hS1, by decide, by decide, fun q H2 q0 q1 hS2 b2 _ => ⟨by show 5 ≤ sizeLine; decide, fun L hL => pickL (E := E0) hS2 hL (by show 0 < 5; decide) (by show 5 < 1000; decide) fun j x H3 hx hS3 b3 => ?_⟩⟩
      obtain ⟨n, rfl, hn0, hn1⟩ : ∃ n : Int, x = .int n ∧ 0 ≤ n ∧ n ≤ 18446744073709551615 := by
        have z3 : (10 : Int) ^ (Int.toNat 6) = 1000000 := by decide
        have z1 : (2 : Int) ^ (Int.toNat 64) = 18446744073709551616 := by decide
        rw [z3] at q1
        have := List.mem_of_getElem? hx
        simp only [List.mem_cons, List.not_mem_nil, or_false] at this
        rcases this with rfl | rfl | rfl | rfl | rfl
        · exact ⟨_, rfl, by omega, by omega⟩
        · exact ⟨_, rfl, by omega, by omega⟩
        · exact ⟨_, rfl, by omega, by omega⟩
        · exact ⟨_, rfl, by rw [z1]; omega, by rw [z1]; omega⟩
        · exact ⟨_, rfl, by omega, by omega⟩
      have hgd : goodL (.thg .u (.num n)) := by
        show (decide (0 ≤ n) && decide (n ≤ 18446744073709551615)) = true
        rw [decide_eq_true hn0, decide_eq_true hn1]
        rfl
      refine mkF (y := .u) (f := .num n) (show V.int n = V.int n from rfl) hgd fun x H4 s4 hx4 => ?_
      · exact k _ (.thg .u (.num n)) _ ⟨x, rfl, hx4⟩ rfl trivial hgd trivial (src_same hS3 s4) (((b1.trans b2).trans b3).trans (Same.but s4))
    rw [decide_eq_false fun z => c6 (V.int.inj z)]
    refine iteF ⟨_, rfl, rfl, _, rfl, ?_⟩
    by_cases c7 : m = 11
    · rw [decide_eq_true (congrArg V.int c7)]
      refine iteT ⟨_, rfl, S, 8, rfl, hS1, by decide, fun ns L3 H3 hl hb nL e3 hS3 b3 => ?_⟩
      have hgd : goodL (.thg .t (.row ns)) := by
        show ((ns.map V.int).all (isIn 0 255) && decide ((ns.map V.int).length = 8)) = true
        rw [all_inI hb, List.length_map, hl]
        rfl
      refine mkF (y := .t) (f := .row ns) (arg_row e3 (by omega)) hgd fun x H4 s4 hx4 => ?_
      · exact k _ (.thg .t (.row ns)) _ ⟨x, rfl, hx4⟩ rfl (show ns.length ≤ 1000 by omega) hgd (show ns.length ≤ 100 by omega) (src_same hS3 s4) ((b1.trans b3).trans (Same.but s4))
    rw [decide_eq_false fun z => c7 (V.int.inj z)]
    refine iteF ⟨_, rfl, _, rfl, by show 2 ≤ sizeLine; decide, fun L hL => pickL (E := E0) hS1 hL (by show 0 < 2; decide) (by show 2 < 1000; decide) fun j x H2 hx hS2 b2 => ?_⟩
    obtain ⟨n, rfl, hn⟩ : ∃ n : Nat, x = .int (n : Nat) ∧ (n = 4 ∨ n = 8) := by
      have := List.mem_of_getElem? hx
      simp only [List.mem_cons, List.not_mem_nil, or_false] at this
      rcases this with rfl | rfl
      · exact ⟨4, rfl, .inl rfl⟩
      · exact ⟨8, rfl, .inr rfl⟩
    refine ⟨S, n, rfl, hS2, by omega, fun ns L3 H3 hl hb nL e3 hS3 b3 => ?_⟩
    have hgd : goodL (.thg .r (.row ns)) := by
      show ((ns.map V.int).all (isIn 0 255) && (decide ((ns.map V.int).length = 4) || decide ((ns.map V.int).length = 8))) = true
      rw [all_inI hb, List.length_map, hl]
      rcases hn with rfl | rfl <;> rfl
    refine mkF (y := .r) (f := .row ns) (arg_row e3 (by omega)) hgd fun x H4 s4 hx4 => ?_
    · exact k _ (.thg .r (.row ns)) _ ⟨x, rfl, hx4⟩ rfl (show ns.length ≤ 1000 by omega) hgd (show ns.length ≤ 100 by omega) (src_same hS3 s4) (((b1.trans b2).trans b3).trans (Same.but s4))
end
end G58.V

set_option Elab.async false
set_option linter.all false
set_option pp.maxSteps 2500
set_option maxRecDepth 100000
set_option maxHeartbeats 4000000
/-! Values in one another. -/
namespace G58.V
open PySem PySem.Spec PyProof.Rows L2 LamX
theorem But.del {S : Addr} {H H' : Hp} (b : But S H H') : Same (del H S) (del H' S) := fun x o e => by
  by_cases c : x = S
  · rw [c, del_same] at e
    cases e
  · rw [del_ne c] at e ⊢
    exact b _ _ e c
theorem del_sub {S : Addr} {H : Hp} : Same (del H S) H := fun x o e => by
  by_cases c : x = S
  · rw [c, del_same] at e
    cases e
  · rw [del_ne c] at e
    exact e
theorem del_at {S p : Addr} {H : Hp} {o : HO} (h : H p = some o) (n : p ≠ S) : del H S p = some o := by rw [del_ne n]; exact h
theorem sqT_but {K : PySem.W.Frag} {S w : Addr} {H H' : Hp} {xs : List V} (h : SqT K H w xs) (hS : SrcAt H S) (b : But S H H') : SqT K H' w xs := by
  obtain ⟨x, y, z, q⟩ := hS
  rcases h with (h | ⟨u, h⟩) | h
  · exact .inl (.inl (b _ _ h fun e => by rw [e, q] at h; cases h))
  · exact .inl (.inr ⟨u, b _ _ h fun e => by rw [e, q] at h; cases h⟩)
  · exact .inr h
theorem LfAt.del {K : PySem.W.Frag} {a : Ad} {S : Addr} {H : Hp} {l : Lf} {v : V} (h : LfAt K a H l v) (hS : SrcAt H S) : LfAt K a (L2.del H S) l v := h.but fun b o e n => del_at e fun z => by
  obtain ⟨x, y, u, q⟩ := hS
  rw [z, q] at e
  exact n _ (Option.some.inj e).symm
theorem vals_one {K : PySem.W.Frag} {a : Ad} {H : Hp} {v : Val} {x : V} (h : ValAt K a H v x) : ValsAt K a H [v] [x] := by
  unfold ValsAt
  exact ⟨x, [], rfl, h, by unfold ValsAt; rfl⟩
theorem vals_cons {K : PySem.W.Frag} {a : Ad} {H : Hp} {v : Val} {x : V} {vs : List Val} {xs : List V} (h : ValAt K a H v x) (t : ValsAt K a H vs xs) : ValsAt K a H (v :: vs) (x :: xs) := by
  unfold ValsAt
  exact ⟨x, xs, rfl, h, t⟩
theorem vals_nil {K : PySem.W.Frag} {a : Ad} {H : Hp} : ValsAt K a H [] [] := by
  unfold ValsAt
  rfl
theorem val_lst {K : PySem.W.Frag} {a : Ad} {H : Hp} {vs : List Val} {xs : List V} {p : Addr} (h : H p = some (.lst xs)) (t : ValsAt K a H vs xs) : ValAt K a H (.lst vs) (.ref p) := by
  unfold ValAt
  exact ⟨p, xs, rfl, h, t⟩
theorem val_dic {K : PySem.W.Frag} {a : Ad} {H : Hp} {ks : List Str} {vs : List Val} {xs : List V} {p : Addr} (h : H p = some (.dK ((ks.map Sum.inr).zip xs))) (l : ks.length = xs.length) (nd : ks.Nodup) (t : ValsAt K a H vs xs) : ValAt K a H (.dic ks vs) (.ref p) := by
  unfold ValAt
  exact ⟨p, xs, xs, rfl, h, l, nd, rfl, t⟩
theorem val_leaf {K : PySem.W.Frag} {a : Ad} {H : Hp} {l : Lf} {x : V} (h : LfAt K a H l x) : ValAt K a H (.leaf l) x := by
  unfold ValAt
  exact h
end G58.V

set_option Elab.async false
set_option linter.all false
set_option pp.maxSteps 2500
set_option maxRecDepth 100000
set_option maxHeartbeats 4000000
/-! Rows of bytes, units, real numbers; what begins with a letter. -/
namespace G58.V
open PySem PySem.Spec PyProof.Rows L2 NumText TL LamX
def spLtd (K : PySem.W.Frag) (a : Ad) : Sp := fun vs H Q _ => ∃ (x : Addr) (l : List Nat) (p c e : Nat) (v : Val), vs = [.ref x] ∧ ScAt a H x l p ∧ l.length ≤ 2000 ∧ l[p]? = some c ∧ c ∈ [119, 100, 117, 114, 116] ∧ ltdF l (p + 1) c = some (e, v) ∧ ∀ H' y, ButS x H H' → ScAt a H' x l e → ValAt K a (nw H H') v y → Q y H'
/-- behind the letter -/
def spLt1 (K : PySem.W.Frag) (a : Ad) (c : Nat) : Sp := fun vs H Q _ => ∃ (x : Addr) (l : List Nat) (p e : Nat) (v : Val), vs = [.ref x] ∧ ScAt a H x l p ∧ l.length ≤ 2000 ∧ p ≤ l.length ∧ ltdF l p c = some (e, v) ∧ ∀ H' y, ButS x H H' → ScAt a H' x l e → ValAt K a (nw H H') v y → Q y H'
theorem vInts_snoc (us : List Nat) (v : Nat) : vInts us ++ [V.int ((v : Nat) : Int)] = vInts (us ++ [v]) := by
  unfold vInts
  rw [List.map_append]
  rfl
theorem gd_row {us : List Nat} {m : Nat} {hi : Int} (hm : (m : Int) ≤ hi + 1) (hu : ∀ u ∈ us, u < m) : ∀ n ∈ intsN us, (0 : Int) ≤ n ∧ n ≤ hi := fun n hn => by
  obtain ⟨u, h, rfl⟩ := List.mem_map.mp hn
  have := hu u h
  omega
theorem gd_d {us : List Nat} (hu : ∀ u ∈ us, u < 256) : goodL (.thg .d (.row (intsN us))) := all_inI (gd_row (hi := 255) (by decide) hu)
theorem gd_t {us : List Nat} (hu : ∀ u ∈ us, u < 256) (h8 : us.length = 8) : goodL (.thg .t (.row (intsN us))) := by
  show (((intsN us).map V.int).all (isIn 0 255) && decide (((intsN us).map V.int).length = 8)) = true
  rw [all_inI (gd_row (hi := 255) (by decide) hu), List.length_map, List.length_map, h8]
  rfl
theorem gd_r {us : List Nat} (hu : ∀ u ∈ us, u < 256) (h8 : us.length = 4 ∨ us.length = 8) : goodL (.thg .r (.row (intsN us))) := by
  show (((intsN us).map V.int).all (isIn 0 255) && (decide (((intsN us).map V.int).length = 4) || decide (((intsN us).map V.int).length = 8))) = true
  rw [all_inI (gd_row (hi := 255) (by decide) hu), List.length_map, List.length_map]
  rcases h8 with h8 | h8 <;> rw [h8] <;> rfl
theorem gd_w {us : List Nat} (hu : ∀ u ∈ us, u < 65536) (hp : us.all plainC = false) : goodL (.thg .w (.row (intsN us))) := by
  show (((intsN us).map V.int).all (isIn 0 65535) && !(((intsN us).map V.int).all plainV)) = true
  rw [all_inI (gd_row (hi := 65535) (by decide) hu), plain_I, plain_all, hp]
  rfl
theorem gd_u {n : Nat} (h : n ≤ 18446744073709551615) : goodL (.thg .u (.num (n : Int))) := by
  show (decide ((0 : Int) ≤ n) && decide ((n : Int) ≤ 18446744073709551615)) = true
  rw [decide_eq_true (by omega), decide_eq_true (by omega)]
  rfl
theorem none_in {m : Nat} : ∀ u ∈ ([] : List Nat), u < m := fun u hu => nomatch hu
theorem pow16_2 : 16 ^ 2 = 256 := rfl
theorem pow16_4 : 16 ^ 4 = 65536 := rfl
section
variable {P : Program} {w : World} {K : PySem.W.Frag} {mg : Str → Option Value} {base : Heap} {a : Ad}
theorem val_thg {H H' : Hp} {y : Addr} {t : Wy} {f : FV} (h : ThAt K a H' y t f.arg) : ValAt K a (nw H H') (.leaf (.thg t f)) (.ref y) := val_leaf (LfAt.nw (l := .thg t f) ⟨y, rfl, h⟩)
theorem val_odd {H H' : Hp} {y dy : Addr} (h : H' y = some (.ins a.cUnfit dy [])) : ValAt K a (nw H H') .odd (.ref y) := by
  unfold ValAt
  exact ⟨y, dy, rfl, nw_mk h (.inr rfl)⟩
theorem scOcr : FnScope ["self", "least", "found", "turn"] ["self", "least"] (defScope sOcr) := ⟨rfl, rfl, rfl, by decide +kernel, rfl, by decide +kernel, by decide +kernel⟩
theorem ok_ocr (D : Df K a) (T : Txt K mg a) : FnOk P w K mg base CX0 4 a.fOcr D.dOcr ["self", "least"] (spOcr a) := by
  have GIsa : FnOk P w K mg base CX0 2 a.fIsa D.dIsa ["self", "signs"] (spIsa a) := ok_isa D T
  have GHxn : FnOk P w K mg base CX0 3 a.fHxn D.dHxn ["self", "count"] (spHxn a) := ok_hxn D T
  obtain ⟨t1, kHEX⟩ := T.kHEX
  refine D.FOcr.ok scOcr (fun vs H Q E h => ?_) (fun cdv A outer s H vs Q E hr h => ?_)
  · obtain ⟨x, l, p, n, e, us, rfl, _⟩ := h
    rfl
  · obtain ⟨x, l, p, n, e, us, rfl, hS, hl, hpl, hn, hF, k⟩ := h
    have hr2 : Room 2 _ := hr.mono (by decide)
    refine ⟨_, (pss_cons (ps_setLc (i := 2) (te := tMeth a.cScanner "hex_number" (spHxn a) [] E0 (tVar 0) (tCons (tC (.int 2)) tNil)) (own := [("turn", 3)]) (g := (gName 3)) (tt := tYes) rfl scOcr.nd rfl rfl (sw_true rfl rfl rfl (by decide +kernel)) (pi_range1 (by rfl) T.brange (pa_cons (pv 1) pa_nil)) (blkOk_by (N := ["self", "least", "found", "turn"]) (sc := defScope sOcr) (by decide +kernel)) (fun _ _ _ _ _ => (pg_name (i := 3) scOcr.nd rfl (.inl rfl))) (fun _ _ _ _ _ => pts_nil) (fun _ _ _ _ _ => (pe_meth (pv 0) T.clScanner T.mtHxn GHxn hr D.bHxn .nil pass0 (pa_cons pe_int pa_nil)))) (pss_cons (ps_while PassesOwn.never (PW.pt (pw_and (pt_cmpR op_eq (pv 1) pe_int (nomark _)) (pw_and1 (pt_val (pe_meth (pv 0) T.clScanner T.mtIsa GIsa hr2 D.bIsa .nil pass0 (pa_cons (pe_glob (v := .str "0123456789abcdef") rfl kHEX ⟨_, rfl⟩) pa_nil)))))) (pss_one (ps_expr (pe_bm PySem.F.plainAttrs_list PySem.F.slot_list_append PySem.F.type_list_append mt_append (pv 2) (pa_cons (pe_meth (pv 0) T.clScanner T.mtHxn GHxn hr D.bHxn .nil pass0 (pa_cons pe_int pa_nil)) pa_nil))))) (pss_one (ps_ret (pv 2))))), ?_⟩
    obtain ⟨p1, us1, hF1, hF2, pl⟩ : ∃ p1 us1, hxnF l 2 n p [] = some (p1, us1) ∧ (if n = 0 then hxsF l 2 (l.length + 1) p1 us1 = some (e, us) else p1 = e ∧ us1 = us) ∧ p1 ≤ l.length := by
      by_cases c : n = 0
      · subst c
        rw [if_pos rfl] at hF
        exact ⟨p, [], rfl, by rw [if_pos rfl]; exact hF, hpl⟩
      · rw [if_neg c] at hF
        exact ⟨e, us, hF, by rw [if_neg c]; exact ⟨rfl, rfl⟩, (hxnF_le hF).2.1 hpl⟩
    refine ⟨_, rfl, ((n : Nat) : Int), rfl, by omega, by omega, fun DL hDL => lc_it walk_range (fun i H' => ∃ (p' : Nat) (us' : List Nat), H' DL = some (.lst (vInts us')) ∧ us'.length = i ∧ i ≤ n ∧ hxnF l 2 (n - i) p' us' = some (p1, us1) ∧ ButS x H H' ∧ ScAt a H' x l p')
      ⟨p, [], upd_same, rfl, Nat.zero_le _, hF1, ButS.new (ButS.refl _ _) hDL, hS.upd (hS.ne hDL)⟩ (fun _ _ _ _ => True.intro) ?_ ?_⟩
    · rintro i y H1' H1 hi ⟨p', us', eL, lu, hin, hF', b1, hS1⟩ ⟨rfl, rfl⟩
      obtain ⟨dx, hx⟩ := hS1
      have hi : i < n := by omega
      obtain ⟨m, hm⟩ : ∃ m, n - i = m + 1 := ⟨n - i - 1, by omega⟩
      rw [hm, hxnF] at hF'
      cases e0 : hexF l 2 p' 0 with
      | none => rw [e0] at hF'; cases hF'
      | some r =>
        obtain ⟨e1, v1⟩ := r
        rw [e0] at hF'
        have hF' : hxnF l 2 m e1 (us' ++ [v1]) = some (p1, us1) := hF'
        refine ⟨rfl, ?_⟩
        dsimp only [tYes]
        refine iteT ⟨_, rfl, x, dx, _, rfl, hx, scF_no (by decide +kernel) (by decide +kernel), x, l, p', 2, e1, v1, rfl, ⟨dx, hx⟩, hl, by decide, e0, fun H2 b2 hS2 => ?_⟩
        have nL : DL ≠ x := hS.ne hDL
        refine ⟨_, b2 _ _ eL nL, ?_, e1, us' ++ [v1], ?_, ?_, by omega, by rw [show n - (i + 1) = m by omega]; exact hF', ?_, hS2.upd nL⟩
        · rw [vInts_len]
          exact Nat.lt_of_lt_of_le (by omega : _ < 200) (by decide)
        · rw [upd_same, vInts_snoc]
        · rw [List.length_append, lu]
          rfl
        · exact (b1.trans b2).new hDL
    · rintro H1 ⟨p', us', eL, lu, hin, hF', b1, hS1⟩
      have nL : DL ≠ x := hS.ne hDL
      rw [show n - ((n : Nat) : Int).toNat = 0 by omega] at hF'
      cases hF'
      by_cases hn0 : n = 0
      · subst hn0
        rw [if_pos rfl] at hF2
        let I : Nat → L2.St → Hp → Prop := fun m st H' => ∃ (u : Option V) (p' : Nat) (us' : List Nat), st = [some (.ref x), some (.int 0), some (.ref DL), u] ∧ H' DL = some (.lst (vInts us')) ∧ hxsF l 2 m p' us' = some (e, us) ∧ us'.length ≤ p' ∧ p' ≤ l.length ∧ ButS x H H' ∧ ScAt a H' x l p'
        refine ⟨I, ⟨_, _, p1, us1, rfl, eL, hF2, ?_, pl, b1, hS1⟩, ?_⟩
        · rw [lu]
          exact Nat.zero_le _
        rintro m st H' ⟨u, p', us', rfl, eL', hF3, lu', pl', b2, ⟨d2, hx2⟩⟩
        refine ⟨_, rfl, rfl, true, rfl, iteT ?_⟩
        refine ⟨_, rfl, x, d2, _, rfl, hx2, scF_no (by decide +kernel) (by decide +kernel), x, l, hexL, p', by rw [← hex_str]; rfl, ⟨d2, hx2⟩, hl, _, rfl, ?_⟩
        cases m with
        | zero => cases hF3
        | succ m =>
          rw [hxsF] at hF3
          cases ea : isAt l hexL p' with
          | false =>
            rw [ea] at hF3
            cases hF3
            exact iteF ⟨_, rfl, k DL H' hDL eL' b2 ⟨d2, hx2⟩⟩
          | true =>
            rw [ea, if_pos rfl] at hF3
            cases e0 : hexF l 2 p' 0 with
            | none => rw [e0] at hF3; cases hF3
            | some r =>
              obtain ⟨e1, v1⟩ := r
              rw [e0] at hF3
              have hF3 : hxsF l 2 m e1 (us' ++ [v1]) = some (e, us) := hF3
              obtain ⟨g1, g2⟩ := hexF_le e0
              refine iteT ⟨fun st H' => ∃ m', m' < m + 1 ∧ I m' st H', fun _ _ q => q, ?_⟩
              refine ⟨_, rfl, .inl ⟨rfl, _, .inl (.inl eL')⟩, _, rfl, x, d2, _, rfl, hx2, scF_no (by decide +kernel) (by decide +kernel), x, l, p', 2, e1, v1, rfl, ⟨d2, hx2⟩, hl, by decide, e0, fun H3 b3 hS3 => ?_⟩
              refine ⟨DL, _, _, rfl, rfl, b3 _ _ eL' nL, ?_, m, Nat.lt_succ_self _, _, e1, us' ++ [v1], rfl, ?_, hF3, ?_, g2 pl', (b2.trans b3).new hDL, hS3.upd nL⟩
              · rw [vInts_len]
                exact Nat.lt_of_le_of_lt (by omega : _ ≤ 100000) (by decide)
              · rw [upd_same, vInts_snoc]
              · rw [List.length_append, List.length_singleton]
                omega
      · rw [if_neg hn0] at hF2
        obtain ⟨rfl, rfl⟩ := hF2
        refine ⟨fun m st H' => ∃ u, st = [some (.ref x), some (.int ((n : Nat) : Int)), some (.ref DL), u] ∧ H' = H1, ⟨0, _, rfl, rfl⟩, ?_⟩
        rintro m st H' ⟨u, rfl, rfl⟩
        refine ⟨_, rfl, rfl, false, congrArg V.bl (decide_eq_false fun z => hn0 (by have := V.int.inj z; omega)), iteF (iteF ⟨_, rfl, k DL _ hDL eL b1 hS1⟩)⟩
theorem scUnh : FnScope ["self", "units"] ["self"] (defScope sUnh) := ⟨rfl, rfl, rfl, by decide +kernel, rfl, by decide +kernel, by decide +kernel⟩
theorem ok_unh (D : Df K a) (T : Txt K mg a) : FnOk P w K mg base CX0 6 a.fUnh D.dUnh ["self"] (spLt1 K a 119) := by
  have GIsa : FnOk P w K mg base CX0 2 a.fIsa D.dIsa ["self", "signs"] (spIsa a) := ok_isa D T
  have GHxn : FnOk P w K mg base CX0 3 a.fHxn D.dHxn ["self", "count"] (spHxn a) := ok_hxn D T
  have GArp : FnOk P w K mg base CX0 1 a.fArp D.dArp ["units"] (spArp K) := ok_arp D T
  have GiW : FnOk P w K mg base (L2.CX P w) 4 a.fiW D.diW ["self", "units"] (spInit K a .w) := ok_iW D T
  obtain ⟨t1, kHEX⟩ := T.kHEX
  refine D.FUnh.ok scUnh (fun vs H Q E h => ?_) (fun cdv A outer s H vs Q E hr h => ?_)
  · obtain ⟨x, l, p, e, v, rfl, _⟩ := h
    rfl
  · obtain ⟨x, l, p, e, v, rfl, ⟨dx, hx⟩, hl, hpl, hF, k⟩ := h
    have hr3 : Room 3 _ := hr.mono (by decide)
    have hr2 : Room 2 _ := hr.mono (by decide)
    have hr1 : Room 1 _ := hr.mono (by decide)
    have hl1 : l.length ≤ 100000 := by omega
    refine ⟨_, (pss_cons (ps_set (i := 1) scUnh.nd rfl (.inl rfl) (pe_lst (pa_cons (pe_meth (pv 0) T.clScanner T.mtHxn GHxn hr3 D.bHxn .nil pass0 (pa_cons pe_int pa_nil)) pa_nil))) (pss_cons (ps_while PassesOwn.never (pt_val (pe_meth (pv 0) T.clScanner T.mtIsa GIsa hr2 D.bIsa .nil pass0 (pa_cons (pe_glob (v := .str "0123456789abcdef") rfl kHEX ⟨_, rfl⟩) pa_nil))) (pss_one (ps_expr (pe_bm PySem.F.plainAttrs_list PySem.F.slot_list_append PySem.F.type_list_append mt_append (pv 1) (pa_cons (pe_meth (pv 0) T.clScanner T.mtHxn GHxn hr3 D.bHxn .nil pass0 (pa_cons pe_int pa_nil)) pa_nil))))) (pss_one (ps_ret (pe_ifExp (pt_val (pe_call GArp hr1 rfl T.gArp D.FArp.kp D.bArp .nil pass0 (pa_cons (pv 1) pa_nil))) (pe_mk0 ⟨T.mkUnfit, T.inUnfit, T.kpUnfit⟩ rfl T.gcUnfit) (pe_make T.mkWide GiW hr rfl T.gcWide D.biW .nil passX0 (pa_cons (pv 1) pa_nil))))))), ?_⟩
    unfold ltdF at hF
    rw [if_pos rfl] at hF
    cases e0 : hexF l 4 p 0 with
    | none => rw [e0] at hF; cases hF
    | some r =>
      obtain ⟨p1, v1⟩ := r
      rw [e0] at hF
      obtain ⟨⟨e, us⟩, hF2, ev⟩ := map_some hF
      cases ev
      have k : ∀ H' y, ButS x H H' → ScAt a H' x l e → ValAt K a (nw H H') (if us.all plainC = true then Val.odd else thgV .w us) y → Q y H' := k
      have h16 := hexF_lt e0
      obtain ⟨g1, g2⟩ := hexF_le e0
      obtain ⟨g3, g4, g5⟩ := hxsF_le hF2
      have hus : ∀ u ∈ us, u < 65536 := hxsF_lt (g := 4) (fun u hu => by rw [List.mem_singleton.mp hu]; omega) hF2
      have lus : us.length ≤ 1000 := by
        have := g4 (g2 hpl)
        simp only [List.length_singleton] at g5
        omega
      refine ⟨_, rfl, x, dx, _, rfl, hx, scF_no (by decide +kernel) (by decide +kernel), x, l, p, 4, p1, v1, rfl, ⟨dx, hx⟩, hl1, by decide, e0, fun H1 b1 hS1 => ⟨by show 1 ≤ sizeLine; decide, fun FL hFL => ?_⟩⟩
      have nL : FL ≠ x := hS1.ne hFL
      have b2 : ButS x H (upd H1 FL (.lst [.int ((v1 : Nat) : Int)])) := fun b o e n => by
        have := b1 _ _ e n
        rw [upd_ne (ne_of_none this hFL)]
        exact this
      have FLn : H FL = none := by
        cases q : H FL with
        | none => rfl
        | some o => rw [b1 _ _ q nL] at hFL; cases hFL
      have hS2 := hS1.upd (o := .lst [.int ((v1 : Nat) : Int)]) nL
      have eL : (upd H1 FL (.lst [.int ((v1 : Nat) : Int)])) FL = some (.lst (vInts [v1])) := upd_same
      generalize upd H1 FL (.lst [.int ((v1 : Nat) : Int)]) = H2 at b2 hS2 eL ⊢
      let I : Nat → L2.St → Hp → Prop := fun m st H' => ∃ (p' : Nat) (us' : List Nat), st = [some (.ref x), some (.ref FL)] ∧ H' FL = some (.lst (vInts us')) ∧ hxsF l 4 m p' us' = some (e, us) ∧ us'.length ≤ 1000 ∧ ButS x H H' ∧ ScAt a H' x l p'
      refine ⟨I, ⟨_, p1, [v1], rfl, eL, hF2, by show 1 ≤ 1000; decide, b2, hS2⟩, ?_⟩
      rintro m st H' ⟨p', us', rfl, eL', hF3, lu', b3, ⟨d3, hx3⟩⟩
      refine ⟨_, rfl, x, d3, _, rfl, hx3, scF_no (by decide +kernel) (by decide +kernel), x, l, hexL, p', by rw [← hex_str]; rfl, ⟨d3, hx3⟩, hl1, _, rfl, ?_⟩
      cases m with
      | zero => cases hF3
      | succ m =>
        have hF4 := hF3
        rw [hxsF] at hF3
        cases ea : isAt l hexL p' with
        | false =>
          rw [ea] at hF3
          cases hF3
          refine iteF ⟨_, rfl, FL, intsN us, rfl, .inl (.inl (.inl (by rw [intsN_V]; exact eL'))), by rw [List.length_map]; omega, fun H4 s4 => ?_⟩
          rw [plain_all]
          have b4 := b3.same s4
          have hS4 : ScAt a H4 x l e := ScAt.keep ⟨d3, hx3⟩ s4
          cases ep : us.all plainC with
          | true =>
            refine ⟨_, rfl, iteT fun y dy hy hdy ne => ?_⟩
            have s5 : Same H4 (upd (upd H4 dy (.own y)) y (.ins a.cUnfit dy [])) := (same_new (same_new (Same.refl H4) hdy) (by rw [upd_ne (Ne.symm ne)]; exact hy))
            rw [if_pos ep] at k
            exact k _ (.ref y) (b4.same s5) (hS4.keep s5) (val_odd upd_same)
          | false =>
            refine ⟨_, rfl, iteF ⟨_, rfl, mkF (y := .w) (f := .row (intsN us)) (arg_row (by rw [intsN_V]; exact s4 _ _ eL') (by rw [List.length_map]; exact lus)) (gd_w hus ep) fun y H5 s5 hT => ?_⟩⟩
            rw [if_neg (by rw [ep]; decide)] at k
            exact k _ (.ref y) (b4.same s5) (hS4.keep s5) (val_thg hT)
        | true =>
          rw [ea, if_pos rfl] at hF3
          cases e1 : hexF l 4 p' 0 with
          | none => rw [e1] at hF3; cases hF3
          | some r =>
            obtain ⟨p2, v2⟩ := r
            rw [e1] at hF3
            have hF3 : hxsF l 4 m p2 (us' ++ [v2]) = some (e, us) := hF3
            have lu2 : us'.length + 1 ≤ us.length := by
              obtain ⟨q1, q2, q3⟩ := hxsF_le hF3
              rw [List.length_append, List.length_singleton] at q3
              omega
            refine iteT ⟨fun st H' => ∃ m', m' < m + 1 ∧ I m' st H', fun _ _ q => q, ?_⟩
            refine ⟨_, rfl, .inl ⟨rfl, _, .inl (.inl eL')⟩, _, rfl, x, d3, _, rfl, hx3, scF_no (by decide +kernel) (by decide +kernel), x, l, p', 4, p2, v2, rfl, ⟨d3, hx3⟩, hl1, by decide, e1, fun H4 b4 hS4 => ?_⟩
            refine ⟨FL, _, _, rfl, rfl, b4 _ _ eL' nL, ?_, m, Nat.lt_succ_self _, p2, us' ++ [v2], rfl, ?_, hF3, ?_, (b3.trans b4).new FLn, hS4.upd nL⟩
            · rw [vInts_len]
              exact Nat.lt_of_le_of_lt lu' (by decide)
            · rw [upd_same, vInts_snoc]
            · rw [List.length_append, List.length_singleton]
              omega
theorem scRlh : FnScope ["self", "octets"] ["self"] (defScope sRlh) := ⟨rfl, rfl, rfl, by decide +kernel, rfl, by decide +kernel, by decide +kernel⟩
theorem ok_rlh (D : Df K a) (T : Txt K mg a) : FnOk P w K mg base CX0 6 a.fRlh D.dRlh ["self"] (spLt1 K a 114) := by
  have GIsa : FnOk P w K mg base CX0 2 a.fIsa D.dIsa ["self", "signs"] (spIsa a) := ok_isa D T
  have GOcr : FnOk P w K mg base CX0 4 a.fOcr D.dOcr ["self", "least"] (spOcr a) := ok_ocr D T
  have GiR : FnOk P w K mg base (L2.CX P w) 4 a.fiR D.diR ["self", "octets"] (spInit K a .r) := ok_iR D T
  obtain ⟨t1, kHEX⟩ := T.kHEX
  refine D.FRlh.ok scRlh (fun vs H Q E h => ?_) (fun cdv A outer s H vs Q E hr h => ?_)
  · obtain ⟨x, l, p, e, v, rfl, _⟩ := h
    rfl
  · obtain ⟨x, l, p, e, v, rfl, ⟨dx, hx⟩, hl, hpl, hF, k⟩ := h
    have hr4 : Room 4 _ := hr.mono (by decide)
    have hr2 : Room 2 _ := hr.mono (by decide)
    have hl1 : l.length ≤ 100000 := by omega
    refine ⟨_, (pss_cons (ps_set (i := 1) scRlh.nd rfl (.inl rfl) (pe_meth (pv 0) T.clScanner T.mtOcr GOcr hr4 D.bOcr .nil pass0 (pa_cons pe_int pa_nil))) (pss_one (ps_ret (pe_make T.mkReal GiR hr rfl T.gcReal D.biR .nil passX0 (pa_cons (pe_ifExp (pt_val (pe_meth (pv 0) T.clScanner T.mtIsa GIsa hr2 D.bIsa .nil pass0 (pa_cons (pe_glob (v := .str "0123456789abcdef") rfl kHEX ⟨_, rfl⟩) pa_nil))) (pe_op op_cat (pv 1) (pe_meth (pv 0) T.clScanner T.mtOcr GOcr hr4 D.bOcr .nil pass0 (pa_cons pe_int pa_nil))) (pv 1)) pa_nil))))), ?_⟩
    unfold ltdF at hF
    rw [if_neg (by decide), if_pos rfl] at hF
    cases e0 : hxnF l 2 4 p [] with
    | none => rw [e0] at hF; cases hF
    | some r =>
      obtain ⟨p1, os⟩ := r
      rw [e0] at hF
      obtain ⟨g1, g2, g3⟩ := hxnF_le e0
      have hos : ∀ u ∈ os, u < 256 := hxnF_lt (g := 2) none_in e0
      have hF : (if isAt l hexL p1 = true then (hxnF l 2 4 p1 []).map fun r => (r.1, thgV .r (os ++ r.2)) else some (p1, thgV .r os)) = some (e, v) := hF
      refine ⟨_, rfl, x, dx, _, rfl, hx, scF_no (by decide +kernel) (by decide +kernel), x, l, p, 4, p1, os, rfl, ⟨dx, hx⟩, hl1, hpl, by decide, e0, fun FL H1 hFL eL b1 hS1 => ?_⟩
      obtain ⟨d1, hx1⟩ := hS1
      have nL : FL ≠ x := fun z => by rw [z, hx] at hFL; cases hFL
      refine ⟨_, rfl, x, d1, _, rfl, hx1, scF_no (by decide +kernel) (by decide +kernel), x, l, hexL, p1, by rw [← hex_str]; rfl, ⟨d1, hx1⟩, hl1, _, rfl, ?_⟩
      cases ea : isAt l hexL p1 with
      | false =>
        rw [ea] at hF
        cases hF
        refine iteF ⟨_, rfl, mkF (y := .r) (f := .row (intsN os)) (arg_row (by rw [intsN_V]; exact eL) (by rw [List.length_map, g3]; decide)) (gd_r hos (.inl g3)) fun y H5 s5 hT => ?_⟩
        exact k _ (.ref y) (b1.same s5) (ScAt.keep ⟨d1, hx1⟩ s5) (val_thg hT)
      | true =>
        rw [ea, if_pos rfl] at hF
        obtain ⟨⟨e, os2⟩, hF2, ev⟩ := map_some hF
        cases ev
        obtain ⟨g4, g5, g6⟩ := hxnF_le hF2
        have hos2 : ∀ u ∈ os ++ os2, u < 256 := fun u hu => (List.mem_append.mp hu).elim (hos u) (hxnF_lt (g := 2) none_in hF2 u)
        refine iteT ⟨_, rfl, _, rfl, x, d1, _, rfl, hx1, scF_no (by decide +kernel) (by decide +kernel), x, l, p1, 4, e, os2, rfl, ⟨d1, hx1⟩, hl1, g2 hpl, by decide, hF2, fun FM H2 hFM eM b2 hS2 => ?_⟩
        refine catV (b2 _ _ eL nL) eM (by rw [vInts_len, vInts_len, g3, g6]; decide) fun FN H3 hFN s3 eN => ?_
        have eN : H3 FN = some (.lst (vInts (os ++ os2))) := by
          rw [eN]
          unfold vInts
          rw [List.map_append]
        refine mkF (y := .r) (f := .row (intsN (os ++ os2))) (arg_row (by rw [intsN_V]; exact eN) (by rw [List.length_map, List.length_append, g3, g6]; decide)) (gd_r hos2 (.inr (by rw [List.length_append, g3, g6]; rfl))) fun y H5 s5 hT => ?_
        exact k _ (.ref y) ((b1.trans b2).same (s3.trans s5)) (hS2.keep (s3.trans s5)) (val_thg hT)
theorem scLtd : FnScope ["self", "letter", "number"] ["self"] (defScope sLtd) := ⟨rfl, rfl, rfl, by decide +kernel, rfl, by decide +kernel, by decide +kernel⟩
theorem ok_ltd (D : Df K a) (T : Txt K mg a) : FnOk P w K mg base CX0 7 a.fLtd D.dLtd ["self"] (spLtd K a) := by
  have GSgn : FnOk P w K mg base CX0 1 a.fSgn D.dSgn ["self"] (spSgn a) := ok_sgn D T
  have GOcr : FnOk P w K mg base CX0 4 a.fOcr D.dOcr ["self", "least"] (spOcr a) := ok_ocr D T
  have GFig : FnOk P w K mg base CX0 3 a.fFig D.dFig ["self"] (spFig a) := ok_fig D T
  have GUnh : FnOk P w K mg base CX0 6 a.fUnh D.dUnh ["self"] (spLt1 K a 119) := ok_unh D T
  have GRlh : FnOk P w K mg base CX0 6 a.fRlh D.dRlh ["self"] (spLt1 K a 114) := ok_rlh D T
  have GIsb : FnOk P w K mg base CX0 2 a.fIsb D.dIsb ["thing", "least", "most"] (spBtw K) := ok_isb D T
  have GiD : FnOk P w K mg base (L2.CX P w) 4 a.fiD D.diD ["self", "octets"] (spInit K a .d) := ok_iD D T
  have GiU : FnOk P w K mg base (L2.CX P w) 4 a.fiU D.diU ["self", "number"] (spInit K a .u) := ok_iU D T
  have GiT : FnOk P w K mg base (L2.CX P w) 4 a.fiT D.diT ["self", "octets"] (spInit K a .t) := ok_iT D T
  obtain ⟨t1, kGREATEST⟩ := T.kGREATEST
  refine D.FLtd.ok scLtd (fun vs H Q E h => ?_) (fun cdv A outer s H vs Q E hr h => ?_)
  · obtain ⟨x, l, p, c, e, v, rfl, _⟩ := h
    rfl
  · obtain ⟨x, l, p, c, e, v, rfl, ⟨dx, hx⟩, hl, hc, hm, hF, k⟩ := h
    have hr6 : Room 6 _ := hr
    have hr5 : Room 5 _ := hr.mono (by decide)
    have hr4 : Room 4 _ := hr.mono (by decide)
    have hr3 : Room 3 _ := hr.mono (by decide)
    have hr2 : Room 2 _ := hr.mono (by decide)
    have hr1 : Room 1 _ := hr.mono (by decide)
    have hl1 : l.length ≤ 100000 := by omega
    have hpl := at_lt hc
    refine ⟨_, (pss_cons (ps_set (i := 1) scLtd.nd rfl (.inl rfl) (pe_meth0 (pv 0) T.clScanner T.mtSgn GSgn hr1 D.bSgn .nil pass0)) (pss_cons (ps_fldaug (pv 0) pe_int in_add) (pss_cons (ps_if (pt_cmpR op_eq (pv 1) pe_str (nomark _)) (pss_one (ps_ret (pe_meth0 (pv 0) T.clScanner T.mtUnh GUnh hr6 D.bUnh .nil pass0))) pss_nil) (pss_cons (ps_if (pt_cmpR op_eq (pv 1) pe_str (nomark _)) (pss_one (ps_ret (pe_meth0 (pv 0) T.clScanner T.mtRlh GRlh hr6 D.bRlh .nil pass0))) pss_nil) (pss_cons (ps_if (pt_cmpR op_eq (pv 1) pe_str (nomark _)) (pss_one (ps_ret (pe_make T.mkData GiD hr5 rfl T.gcData D.biD .nil passX0 (pa_cons (pe_meth (pv 0) T.clScanner T.mtOcr GOcr hr4 D.bOcr .nil pass0 (pa_cons pe_int pa_nil)) pa_nil)))) pss_nil) (pss_cons (ps_if (pt_cmpR op_eq (pv 1) pe_str (nomark _)) (pss_one (ps_ret (pe_make T.mkDate GiT hr5 rfl T.gcDate D.biT .nil passX0 (pa_cons (pe_meth (pv 0) T.clScanner T.mtOcr GOcr hr4 D.bOcr .nil pass0 (pa_cons pe_int pa_nil)) pa_nil)))) pss_nil) (pss_cons (ps_set (i := 2) scLtd.nd rfl (.inl rfl) (pe_meth0 (pv 0) T.clScanner T.mtFig GFig hr3 D.bFig .nil pass0)) (pss_one (ps_ret (pe_ifExp (pt_val (pe_call GIsb hr2 rfl T.gIsb D.FIsb.kp D.bIsb .nil pass0 (pa_cons (pv 2) (pa_cons pe_int (pa_cons (pe_glob (v := .int 18446744073709551615) rfl kGREATEST ⟨_, rfl⟩) pa_nil))))) (pe_make T.mkUid GiU hr5 rfl T.gcUid D.biU .nil passX0 (pa_cons (pv 2) pa_nil)) (pe_mk0 ⟨T.mkUnfit, T.inUnfit, T.kpUnfit⟩ rfl T.gcUnfit))))))))))), ?_⟩
    refine ⟨_, rfl, x, dx, _, rfl, hx, scF_no (by decide +kernel) (by decide +kernel), x, l, p, rfl, ⟨dx, hx⟩, hl1, ?_⟩
    rw [sg_some hc]
    refine ⟨_, rfl, x, a.cScanner, dx, _, _, rfl, hx, T.clScanner, T.nScanner_place, scF_place, _, _, rfl, rfl, dx, _, hx, by show 2 < 1000; decide, ?_⟩
    have hx1 := sc_step (a := a) (H := H) (x := x) (d := dx) (l := l) (p := p)
    have b1 : ButS x H (upd H x (.ins a.cScanner dx (putF "place" (.int (((p : Nat) : Int) + 1)) (scF l p)))) := ButS.put
    have gr1 : Gr H (upd H x (.ins a.cScanner dx (putF "place" (.int (((p : Nat) : Int) + 1)) (scF l p)))) := Gr.of b1 ⟨dx, hx1⟩
    generalize upd H x (.ins a.cScanner dx (putF "place" (.int (((p : Nat) : Int) + 1)) (scF l p))) = H1 at hx1 b1 gr1 ⊢
    have k1 : ∀ H' y, ButS x H1 H' → ScAt a H' x l e → ValAt K a (nw H1 H') v y → Q y H' := fun H' y b hS hV => k H' y (b1.trans b) hS (ValAt.same (nw_gr gr1) _ _ hV)
    have dec : ∀ (z : Str) (d : Nat), z = strN [d] → decide (V.str (strN [c]) = V.str z) = decide (c = d) := fun z d e => by
      rw [e]
      exact decide_eq_decide.mpr ⟨fun q => by
        have := strN_inj (V.str.inj q)
        injection this, fun q => by rw [q]⟩
    refine ⟨_, rfl, rfl, _, rfl, ?_⟩
    rw [dec "w" 119 (by decide +kernel)]
    by_cases cw : c = 119
    · subst cw
      rw [decide_eq_true rfl]
      exact iteT ⟨_, rfl, x, dx, _, rfl, hx1, scF_no (by decide +kernel) (by decide +kernel), x, l, p + 1, e, v, rfl, ⟨dx, hx1⟩, hl, by omega, hF, k1⟩
    rw [decide_eq_false cw]
    refine iteF ⟨_, rfl, rfl, _, rfl, ?_⟩
    rw [dec "r" 114 (by decide +kernel)]
    by_cases cr : c = 114
    · subst cr
      rw [decide_eq_true rfl]
      exact iteT ⟨_, rfl, x, dx, _, rfl, hx1, scF_no (by decide +kernel) (by decide +kernel), x, l, p + 1, e, v, rfl, ⟨dx, hx1⟩, hl, by omega, hF, k1⟩
    rw [decide_eq_false cr]
    refine iteF ⟨_, rfl, rfl, _, rfl, ?_⟩
    rw [dec "d" 100 (by decide +kernel)]
    unfold ltdF at hF
    rw [if_neg cw, if_neg cr] at hF
    by_cases cd : c = 100
    · rw [if_pos cd] at hF
      obtain ⟨⟨e, us⟩, hF2, ev⟩ := map_some hF
      cases ev
      obtain ⟨g3, g4, g5⟩ := hxsF_le hF2
      have hus : ∀ u ∈ us, u < 256 := hxsF_lt (g := 2) none_in hF2
      have lus : us.length ≤ 1000 := by
        have := g4 (by omega)
        simp only [List.length_nil] at g5
        omega
      rw [decide_eq_true cd]
      refine iteT ⟨_, rfl, x, dx, _, rfl, hx1, scF_no (by decide +kernel) (by decide +kernel), x, l, p + 1, 0, e, us, rfl, ⟨dx, hx1⟩, hl1, by omega, by decide, by rw [if_pos rfl]; exact hF2, fun FL H2 hFL eL b2 hS2 => ?_⟩
      refine mkF (y := .d) (f := .row (intsN us)) (arg_row (by rw [intsN_V]; exact eL) (by rw [List.length_map]; exact lus)) (gd_d hus) fun y H5 s5 hT => ?_
      exact k1 _ (.ref y) (b2.same s5) (hS2.keep s5) (val_thg hT)
    rw [if_neg cd] at hF
    rw [decide_eq_false cd]
    refine iteF ⟨_, rfl, rfl, _, rfl, ?_⟩
    rw [dec "t" 116 (by decide +kernel)]
    by_cases ct : c = 116
    · rw [if_pos ct] at hF
      obtain ⟨⟨e, us⟩, hF2, ev⟩ := map_some hF
      cases ev
      obtain ⟨g3, g4, g5⟩ := hxnF_le hF2
      have hus : ∀ u ∈ us, u < 256 := hxnF_lt (g := 2) none_in hF2
      have lus : us.length = 8 := g5
      rw [decide_eq_true ct]
      refine iteT ⟨_, rfl, x, dx, _, rfl, hx1, scF_no (by decide +kernel) (by decide +kernel), x, l, p + 1, 8, e, us, rfl, ⟨dx, hx1⟩, hl1, by omega, by decide, by rw [if_neg (by decide)]; exact hF2, fun FL H2 hFL eL b2 hS2 => ?_⟩
      refine mkF (y := .t) (f := .row (intsN us)) (arg_row (by rw [intsN_V]; exact eL) (by rw [List.length_map, lus]; decide)) (gd_t hus lus) fun y H5 s5 hT => ?_
      exact k1 _ (.ref y) (b2.same s5) (hS2.keep s5) (val_thg hT)
    rw [if_neg ct] at hF
    rw [decide_eq_false ct]
    obtain ⟨⟨e, n⟩, hF2, ev⟩ := map_some hF
    cases ev
    refine iteF ⟨_, rfl, x, dx, _, rfl, hx1, scF_no (by decide +kernel) (by decide +kernel), x, l, p + 1, e, n, rfl, ⟨dx, hx1⟩, hl1, hF2, fun H2 b2 hS2 => ?_⟩
    refine ⟨_, rfl, .int ((n : Nat) : Int), 0, 18446744073709551615, rfl, .inl ⟨_, rfl⟩, _, rfl, ?_⟩
    have ez : isIn 0 18446744073709551615 (.int ((n : Nat) : Int)) = decide (n ≤ 18446744073709551615) := by
      show (decide ((0 : Int) ≤ n) && decide ((n : Int) ≤ 18446744073709551615)) = _
      rw [decide_eq_true (by omega), Bool.true_and]
      exact decide_eq_decide.mpr ⟨fun q => by omega, fun q => by omega⟩
    rw [ez]
    have k1 : ∀ H' y, ButS x H1 H' → ScAt a H' x l e → ValAt K a (nw H1 H') (if n ≤ 18446744073709551615 then Val.leaf (.thg .u (.num (n : Int))) else Val.odd) y → Q y H' := k1
    by_cases cn : n ≤ 18446744073709551615
    · rw [if_pos cn] at k1
      rw [decide_eq_true cn]
      refine iteT ⟨_, rfl, mkF (y := .u) (f := .num (n : Int)) (show V.int n = V.int n from rfl) (gd_u cn) fun y H5 s5 hT => ?_⟩
      exact k1 _ (.ref y) (b2.same s5) (hS2.keep s5) (val_thg hT)
    · rw [if_neg cn] at k1
      rw [decide_eq_false cn]
      refine iteF fun y dy hy hdy ne => ?_
      have s5 : Same H2 (upd (upd H2 dy (.own y)) y (.ins a.cUnfit dy [])) := (same_new (same_new (Same.refl H2) hdy) (by rw [upd_ne (Ne.symm ne)]; exact hy))
      exact k1 _ (.ref y) (b2.same s5) (hS2.keep s5) (val_odd upd_same)
end
end G58.V

set_option Elab.async false
set_option linter.all false
set_option pp.maxSteps 2500
set_option maxRecDepth 100000
set_option maxHeartbeats 4000000
/-! Strings; words; lists and dictionaries; values. -/
namespace G58.V
open PySem PySem.Spec PyProof.Rows L2 NumText TL LamX
def spMng (a : Ad) : Sp := fun vs H Q _ => ∃ (x : Addr) (l g : List Nat) (p e : Nat) (v : V), vs = [.ref x, .str (strN g), v] ∧ ScAt a H x l p ∧ l.length ≤ 100000 ∧ expF l g p = some e ∧ (∀ H', ButS x H H' → ScAt a H' x l e → Q v H')
def spGon (a : Ad) : Sp := fun vs H Q _ => ∃ (x : Addr) (l : List Nat) (p c : Nat) (b : Bool), vs = [.ref x, .str (strN [c])] ∧ ScAt a H x l p ∧ l.length ≤ 100000 ∧ c ≠ 44 ∧ l[p]? = some (if b = true then 44 else c) ∧ (∀ H', ButS x H H' → ScAt a H' x l (p + 1) → Q (.bl b) H')
def spVlu (K : PySem.W.Frag) (a : Ad) (n : Nat) : Sp := fun vs H Q _ => ∃ (x : Addr) (l : List Nat) (p e : Nat) (v : Val), vs = [.ref x] ∧ ScAt a H x l p ∧ l.length ≤ 2000 ∧ vaF l n p = some (e, v) ∧ ∀ H' y, ButS x H H' → ScAt a H' x l e → ValAt K a (nw H H') v y → Q y H'
def spLsh (K : PySem.W.Frag) (a : Ad) (n : Nat) : Sp := fun vs H Q _ => ∃ (x : Addr) (l : List Nat) (p e : Nat) (v : Val), vs = [.ref x] ∧ ScAt a H x l p ∧ l.length ≤ 2000 ∧ lstF l (vaF l n) p = some (e, v) ∧ ∀ H' y, ButS x H H' → ScAt a H' x l e → ValAt K a (nw H H') v y → Q y H'
def spDch (K : PySem.W.Frag) (a : Ad) (n : Nat) : Sp := fun vs H Q _ => ∃ (x : Addr) (l : List Nat) (p e : Nat) (v : Val), vs = [.ref x] ∧ ScAt a H x l p ∧ l.length ≤ 2000 ∧ dicF l (vaF l n) p = some (e, v) ∧ ∀ H' y, ButS x H H' → ScAt a H' x l e → ValAt K a (nw H H') v y → Q y H'
abbrev kvT (ks : List Str) (xs : List V) : List (Key × V) := (ks.map (Sum.inr : Str → Key)).zip xs
def spAdm (K : PySem.W.Frag) (a : Ad) (n : Nat) : Sp := fun vs H Q _ => ∃ (x Dd : Addr) (l : List Nat) (p e : Nat) (ks : List Str) (xs : List V) (k : Str) (v : Val), vs = [.ref x, .ref Dd] ∧ ScAt a H x l p ∧ H Dd = some (.dK (kvT ks xs)) ∧ ks.length = xs.length ∧ ks.length ≤ 2000 ∧ l.length ≤ 2000 ∧ memF l (vaF l n) p ks = some (e, k, v) ∧
  ∀ H' y, (∀ b o, H b = some o → b ≠ x → b ≠ Dd → H' b = some o) → Gr H H' → ScAt a H' x l e → ValAt K a (nw H H') v y → H' Dd = some (.dK (kvT (ks ++ [k]) (xs ++ [y]))) → Q .non H'
/-- what is new but one place -/
theorem nwd_sub {H H1 : Hp} {y : Addr} : Same (nw H (del H1 y)) (nw H H1) := fun b o e => by
  obtain ⟨h1, h2⟩ := nw_some e
  exact nw_mk (del_sub _ _ h1) h2
theorem nwd_but {a : Ad} {H H1 H2 : Hp} {x y : Addr} {l : List Nat} {p : Nat} (hx : H x ≠ none) (h1 : ScAt a H1 x l p) (s : ButS x H1 H2) : Same (nw H (del H1 y)) (nw H (del H2 y)) := fun b o e => by
  obtain ⟨g1, g2⟩ := nw_some e
  by_cases c : b = y
  · rw [c, del_same] at g1
    cases g1
  · rw [del_ne c] at g1
    refine nw_mk (del_at (s _ _ g1 ?_) c) g2
    rintro rfl
    obtain ⟨dx, h1⟩ := h1
    rw [h1] at g1
    cases g1
    rcases g2 with g2 | g2
    · exact hx g2
    · cases g2
theorem nwd_gr {H H1 H2 : Hp} {y : Addr} {oy : HO} (g : Gr H H1) (h1 : H1 y ≠ none) (h2 : H2 y = some oy) (hh : heldO oy = true) : Same (nw H1 H2) (nw H (del H2 y)) := fun b o e => by
  obtain ⟨g1, g2⟩ := nw_some e
  refine nw_mk (del_at g1 ?_) (g2.imp (g b) id)
  rintro rfl
  rw [h2] at g1
  cases g1
  rcases g2 with g2 | g2
  · exact h1 g2
  · rw [hh] at g2
    cases g2
theorem nwd_new {H H2 : Hp} {y : Addr} {o : HO} (h : H2 y = none) : Same (nw H H2) (nw H (del (upd H2 y o) y)) := fun b u e => by
  obtain ⟨g1, g2⟩ := nw_some e
  have ne := ne_of_none g1 h
  exact nw_mk (del_at (by rw [upd_ne ne]; exact g1) ne) g2
theorem nwd_upd {H H1 : Hp} {y : Addr} {o : HO} : nw H (del (upd H1 y o) y) = nw H (del H1 y) := by
  have : del (upd H1 y o) y = del H1 y := by
    funext b
    by_cases c : b = y
    · rw [c, del_same, del_same]
    · rw [del_ne c, del_ne c, upd_ne c]
  rw [this]
theorem exp1 {l : List Nat} {p c : Nat} (h : l[p]? = some c) : expF l [c] p = some (p + 1) := by
  rw [expF, if_pos h]
  rfl
theorem zip_none {k : Str} : ∀ {ks : List Str} {xs : List V}, k ∉ ks → valV (kvT ks xs) (Sum.inr k) = none
  | [], _, _ => rfl
  | _ :: _, [], _ => rfl
  | y :: ks, x :: xs, h => by
    have ih := zip_none (ks := ks) (xs := xs) fun q => h (List.mem_cons_of_mem _ q)
    have ne : ¬ ((Sum.inr y : Key) = Sum.inr k) := fun e => h (by rw [Sum.inr.inj e]; exact List.mem_cons_self ..)
    show valV ((Sum.inr y, x) :: kvT ks xs) (Sum.inr k) = none
    simpa [valV, ne] using ih
theorem putK_zip {k : Str} {ks : List Str} {xs : List V} {y : V} (h : k ∉ ks) (hl : ks.length = xs.length) : putK (kvT ks xs) (Sum.inr k) y = kvT (ks ++ [k]) (xs ++ [y]) := by
  unfold putK
  rw [if_neg]
  · show (ks.map Sum.inr).zip xs ++ [(Sum.inr k, y)] = ((ks ++ [k]).map Sum.inr).zip (xs ++ [y])
    rw [List.map_append, List.zip_append (by rw [List.length_map]; exact hl)]
    rfl
  · intro q
    obtain ⟨kv, h1, h2⟩ := List.any_eq_true.mp q
    have h3 := (List.of_mem_zip (show (kv.1, kv.2) ∈ _ from h1)).1
    obtain ⟨z, hz, e⟩ := List.mem_map.mp h3
    rw [← e] at h2
    have := Sum.inr.inj (of_decide_eq_true h2)
    exact h (this ▸ hz)
theorem kvT_len {ks : List Str} {xs : List V} (hl : ks.length = xs.length) : (kvT ks xs).length = ks.length := by
  show ((ks.map Sum.inr).zip xs).length = _
  rw [List.length_zip, List.length_map]
  omega
theorem vals_snoc {K : PySem.W.Frag} {a : Ad} {H : Hp} : ∀ {vs : List Val} {xs : List V} {v : Val} {y : V}, ValsAt K a H vs xs → ValAt K a H v y → ValsAt K a H (vs ++ [v]) (xs ++ [y])
  | [], xs, v, y, h, h2 => by
    unfold ValsAt at h
    subst h
    exact vals_one h2
  | b :: r, xs, v, y, h, h2 => by
    unfold ValsAt at h
    obtain ⟨z, zs, rfl, h3, h4⟩ := h
    exact vals_cons h3 (vals_snoc h4 h2)
section
variable {P : Program} {w : World} {K : PySem.W.Frag} {mg : Str → Option Value} {base : Heap} {a : Ad}
theorem scMng : FnScope ["self", "signs", "value"] ["self", "signs", "value"] (defScope sMng) := ⟨rfl, rfl, rfl, by decide +kernel, rfl, by decide +kernel, by decide +kernel⟩
theorem ok_mng (D : Df K a) (T : Txt K mg a) : FnOk P w K mg base CX0 3 a.fMng D.dMng ["self", "signs", "value"] (spMng a) := by
  have GExp : FnOk P w K mg base CX0 2 a.fExp D.dExp ["self", "signs"] (spExp a) := ok_exp D T
  refine D.FMng.ok scMng (fun vs H Q E h => ?_) (fun cdv A outer s H vs Q E hr h => ?_)
  · obtain ⟨x, l, g, p, e, v, rfl, _⟩ := h
    rfl
  · obtain ⟨x, l, g, p, e, v, rfl, ⟨dx, hx⟩, hl, hF, k⟩ := h
    refine ⟨_, (pss_cons (ps_expr (pe_meth (pv 0) T.clScanner T.mtExp GExp hr D.bExp .nil pass0 (pa_cons (pv 1) pa_nil))) (pss_one (ps_ret (pv 2)))), ?_⟩
    refine ⟨_, rfl, x, dx, _, rfl, hx, scF_no (by decide +kernel) (by decide +kernel), _, rfl, x, l, g, p, e, rfl, ⟨dx, hx⟩, hl, hF, fun H1 b1 hS1 => ⟨_, rfl, k H1 b1 hS1⟩⟩
theorem scGon : FnScope ["self", "closing", "is_comma"] ["self", "closing"] (defScope sGon) := ⟨rfl, rfl, rfl, by decide +kernel, rfl, by decide +kernel, by decide +kernel⟩
theorem ok_gon (D : Df K a) (T : Txt K mg a) : FnOk P w K mg base CX0 3 a.fGon D.dGon ["self", "closing"] (spGon a) := by
  have GSgn : FnOk P w K mg base CX0 1 a.fSgn D.dSgn ["self"] (spSgn a) := ok_sgn D T
  have GExp : FnOk P w K mg base CX0 2 a.fExp D.dExp ["self", "signs"] (spExp a) := ok_exp D T
  refine D.FGon.ok scGon (fun vs H Q E h => ?_) (fun cdv A outer s H vs Q E hr h => ?_)
  · obtain ⟨x, l, p, c, b, rfl, _⟩ := h
    rfl
  · obtain ⟨x, l, p, c, b, rfl, ⟨dx, hx⟩, hl, hc, hF, k⟩ := h
    have hr1 : Room 1 _ := hr.mono (by decide)
    refine ⟨_, (pss_cons (ps_set (i := 2) scGon.nd rfl (.inl rfl) (pe_cmpR op_eq (pe_meth0 (pv 0) T.clScanner T.mtSgn GSgn hr1 D.bSgn .nil pass0) pe_str (nomark _))) (pss_cons (ps_expr (pe_meth (pv 0) T.clScanner T.mtExp GExp hr D.bExp .nil pass0 (pa_cons (pe_ifExp (pt_val (pv 2)) pe_str (pv 1)) pa_nil))) (pss_one (ps_ret (pv 2))))), ?_⟩
    refine ⟨_, rfl, x, dx, _, rfl, hx, scF_no (by decide +kernel) (by decide +kernel), x, l, p, rfl, ⟨dx, hx⟩, hl, rfl, ?_⟩
    have eb : decide (V.str (strN ((l.drop p).take 1)) = V.str ("," : Str)) = b := by
      rw [show ("," : Str) = strN [44] from by decide +kernel]
      have : decide (V.str (strN ((l.drop p).take 1)) = V.str (strN [44])) = decide (l[p]? = some 44) := decide_eq_decide.mpr sg_eq
      rw [this]
      cases b with
      | true => exact decide_eq_true hF
      | false => exact decide_eq_false fun q => hc (Option.some.inj (hF.symm.trans q))
    rw [eb]
    refine ⟨_, rfl, x, dx, _, rfl, hx, scF_no (by decide +kernel) (by decide +kernel), _, rfl, b, rfl, ?_⟩
    cases b with
    | true => exact iteT ⟨x, l, [44], p, p + 1, by rw [show ("," : Str) = strN [44] from by decide +kernel]; rfl, ⟨dx, hx⟩, hl, exp1 hF, fun H1 b1 hS1 => ⟨_, rfl, k H1 b1 hS1⟩⟩
    | false => exact iteF ⟨_, rfl, x, l, [c], p, p + 1, rfl, ⟨dx, hx⟩, hl, exp1 hF, fun H1 b1 hS1 => ⟨_, rfl, k H1 b1 hS1⟩⟩
theorem scStg : FnScope ["self", "found"] ["self"] (defScope sStg) := ⟨rfl, rfl, rfl, by decide +kernel, rfl, by decide +kernel, by decide +kernel⟩
theorem ok_stg (D : Df K a) (T : Txt K mg a) : FnOk P w K mg base CX0 3 a.fStg D.dStg ["self"] (spStg a) := by
  have GSgn : FnOk P w K mg base CX0 1 a.fSgn D.dSgn ["self"] (spSgn a) := ok_sgn D T
  have GIsa : FnOk P w K mg base CX0 2 a.fIsa D.dIsa ["self", "signs"] (spIsa a) := ok_isa D T
  have GExp : FnOk P w K mg base CX0 2 a.fExp D.dExp ["self", "signs"] (spExp a) := ok_exp D T
  refine D.FStg.ok scStg (fun vs H Q E h => ?_) (fun cdv A outer s H vs Q E hr h => ?_)
  · obtain ⟨x, l, p, eE, kE, rfl, _⟩ := h
    rfl
  · obtain ⟨x, l, p, eE, kE, rfl, ⟨dx, hx⟩, hl, hF, k2⟩ := h
    obtain ⟨h34, hK, _, _, _⟩ := stgF_le hF
    have hr1 : Room 1 _ := hr.mono (by decide)
    have hr2 : Room 2 _ := hr.mono (by decide)
    refine ⟨_, (pss_cons (ps_expr (pe_meth (pv 0) T.clScanner T.mtExp GExp hr2 D.bExp .nil pass0 (pa_cons pe_str pa_nil))) (pss_cons (ps_set (i := 1) scStg.nd rfl (.inl rfl) (pe_lst pa_nil)) (pss_cons (ps_while PassesOwn.never (pt_cmpR op_ne (pe_meth0 (pv 0) T.clScanner T.mtSgn GSgn hr1 D.bSgn .nil pass0) pe_str (nomark _)) (pss_cons (ps_if (pt_cmpR op_eq (pe_meth0 (pv 0) T.clScanner T.mtSgn GSgn hr1 D.bSgn .nil pass0) pe_str (nomark _)) (pss_cons (ps_fldaug (pv 0) pe_int in_add) (pss_one (ps_if (pt_not (pt_val (pe_meth (pv 0) T.clScanner T.mtIsa GIsa hr2 D.bIsa .nil pass0 (pa_cons pe_str pa_nil)))) (pss_one ps_never) pss_nil))) pss_nil) (pss_cons (ps_if (pt_cmpR op_eq (pe_meth0 (pv 0) T.clScanner T.mtSgn GSgn hr1 D.bSgn .nil pass0) pe_str (nomark _)) (pss_one ps_never) pss_nil) (pss_cons (ps_expr (pe_bm PySem.F.plainAttrs_list PySem.F.slot_list_append PySem.F.type_list_append mt_append (pv 1) (pa_cons (pe_meth0 (pv 0) T.clScanner T.mtSgn GSgn hr1 D.bSgn .nil pass0) pa_nil))) (pss_one (ps_fldaug (pv 0) pe_int in_add)))))) (pss_cons (ps_fldaug (pv 0) pe_int in_add) (pss_one (ps_ret (pe_join pe_str (pv 1)))))))), ?_⟩
    have pl := at_lt h34
    refine ⟨_, rfl, x, dx, _, rfl, hx, scF_no (by decide +kernel) (by decide +kernel), x, l, [34], p, p + 1, by rw [show ("\"" : Str) = strN [34] from by decide +kernel]; rfl, ⟨dx, hx⟩, hl, exp1 h34, fun H1 b1 hS1 => ?_⟩
    obtain ⟨d1, hx1⟩ := hS1
    refine ⟨by show 0 ≤ sizeLine; decide, fun FL hFL => ?_⟩
    have s2 := same_new (o := .lst []) (Same.refl H1) hFL
    have eFL : (upd H1 FL (.lst [])) FL = some (.lst (onesV [])) := upd_same
    have hx2 := s2 _ _ hx1
    have nFL : FL ≠ x := fun z => by rw [z, hx1] at hFL; cases hFL
    have b2 := b1.same s2
    have HFL : ∀ {H' : Hp}, ButS x H H' → ∀ o, ButS x H (upd H' FL o) := fun b o b' o' e n => by
      by_cases z : b' = FL
      · subst z
        have := b1 _ _ e n
        rw [hFL] at this
        cases this
      · rw [upd_ne z]
        exact b _ _ e n
    generalize upd H1 FL (.lst []) = H2 at s2 eFL hx2 b2 ⊢
    let I : Nat → L2.St → Hp → Prop := fun m st H' => ∃ e f acc, m = l.length + 1 - e ∧ st = [some (.ref x), some (.ref FL)] ∧ ButS x H H' ∧ ScAt a H' x l e ∧ H' FL = some (.lst (onesV acc)) ∧ keyF l (l.length + 1) (p + 1) [] = keyF l f e acc ∧ l.length < f + e ∧ acc.length ≤ e ∧ e ≤ l.length
    refine ⟨I, ⟨_, p + 1, l.length + 1, [], rfl, rfl, b2, ⟨d1, hx2⟩, eFL, rfl, by omega, Nat.zero_le _, pl⟩, ?_⟩
    rintro m st H' ⟨e, f, acc, rfl, rfl, b3, ⟨d3, hx3⟩, eF3, eq, hf, la, el⟩
    obtain ⟨f, rfl⟩ : ∃ g, f = g + 1 := ⟨f - 1, by omega⟩
    refine ⟨_, rfl, x, d3, _, rfl, hx3, scF_no (by decide +kernel) (by decide +kernel), x, l, e, rfl, ⟨d3, hx3⟩, hl, rfl, !decide (l[e]? = some 34), congrArg V.bl (by rw [show ("\"" : Str) = strN [34] from by decide +kernel]; exact congrArg (fun z => !z) (decide_eq_decide.mpr sg_eq)), ?_⟩
    by_cases c34 : l[e]? = some 34
    · rw [decide_eq_true c34]
      refine iteF ?_
      rw [keyF_step l f e acc, c34] at eq
      have eq : keyF l (l.length + 1) (p + 1) [] = .inr (e + 1, acc) := eq
      refine ⟨_, rfl, x, a.cScanner, d3, _, _, rfl, hx3, T.clScanner, T.nScanner_place, scF_place, _, _, rfl, rfl, d3, _, hx3, by show 2 < 1000; decide, ?_⟩
      have hx4 : (upd H' x (.ins a.cScanner d3 (putF "place" (.int (((e : Nat) : Int) + 1)) (scF l e)))) x = some (.ins a.cScanner d3 (scF l (e + 1))) := by
        rw [upd_same]
        exact congrArg (fun z => some (HO.ins a.cScanner d3 z)) (scF_put (l := l) (p := e) (q := e + 1))
      refine ⟨⟨_, rfl⟩, _, rfl, Str.empty, FL, acc.map fun n => strN [n], rfl, rfl, .inl (.inl (.inl (by rw [upd_ne nFL]; exact eF3))), ?_, ?_⟩
      · rw [ones_len]
        show acc.length + _ * 0 ≤ _
        omega
      · rw [join_onesN]
        rw [hK] at eq
        cases eq
        exact k2 _ (b3.trans ButS.put) ⟨d3, hx4⟩
    · rw [decide_eq_false c34]
      refine iteT ⟨fun st H' => ∃ m', m' < l.length + 1 - e ∧ I m' st H', fun _ _ q => q, ?_⟩
      refine' with_rest _ (fun R => ∀ (e' : Nat) (H4 : Hp), ButS x H H4 → ScAt a H4 x l e' → H4 FL = some (.lst (onesV acc)) → (l[e']? = none → keyF l (l.length + 1) (p + 1) [] = .inl e') → (∀ d, l[e']? = some d → ∃ f', keyF l (l.length + 1) (p + 1) [] = keyF l f' (e' + 1) (acc ++ [d]) ∧ l.length < f' + (e' + 1)) → e ≤ e' → R [some (.ref x), some (.ref FL)] H4) (fun rest => ?_) ?_
      rotate_left
      · refine ⟨_, rfl, x, d3, _, rfl, hx3, scF_no (by decide +kernel) (by decide +kernel), x, l, e, rfl, ⟨d3, hx3⟩, hl, rfl, decide (l[e]? = some 92), congrArg V.bl (by rw [show ("\\" : Str) = strN [92] from by decide +kernel]; exact decide_eq_decide.mpr sg_eq), ?_⟩
        by_cases c92 : l[e]? = some 92
        · rw [decide_eq_true c92]
          rw [keyF_step l f e acc, c92] at eq
          have eq : keyF l (l.length + 1) (p + 1) [] = (match l[e + 1]? with
            | some d => if d = 34 ∨ d = 92 then keyF l f (e + 2) (acc ++ [d]) else .inl (e + 1)
            | none => .inl (e + 1)) := eq
          refine iteT ⟨_, rfl, x, a.cScanner, d3, _, _, rfl, hx3, T.clScanner, T.nScanner_place, scF_place, _, _, rfl, rfl, d3, _, hx3, by show 2 < 1000; decide, ?_⟩
          have hx4 : (upd H' x (.ins a.cScanner d3 (putF "place" (.int (((e : Nat) : Int) + 1)) (scF l e)))) x = some (.ins a.cScanner d3 (scF l (e + 1))) := by
            rw [upd_same]
            exact congrArg (fun z => some (HO.ins a.cScanner d3 z)) (scF_put (l := l) (p := e) (q := e + 1))
          have eF4 : (upd H' x (.ins a.cScanner d3 (putF "place" (.int (((e : Nat) : Int) + 1)) (scF l e)))) FL = some (.lst (onesV acc)) := by rw [upd_ne nFL]; exact eF3
          have b4 : ButS x H (upd H' x (.ins a.cScanner d3 (putF "place" (.int (((e : Nat) : Int) + 1)) (scF l e)))) := b3.trans ButS.put
          generalize upd H' x (.ins a.cScanner d3 (putF "place" (.int (((e : Nat) : Int) + 1)) (scF l e))) = H4 at hx4 eF4 b4 ⊢
          refine ⟨_, rfl, x, d3, _, rfl, hx4, scF_no (by decide +kernel) (by decide +kernel), x, l, [34, 92], e + 1, by rw [show ("\"\\" : Str) = strN [34, 92] from by decide +kernel]; rfl, ⟨d3, hx4⟩, hl, _, rfl, ?_⟩
          cases e1 : l[e + 1]? with
          | none =>
            rw [e1] at eq
            rw [show isAt l [34, 92] (e + 1) = false by unfold isAt; rw [e1], Bool.not_false]
            exact absurd (hK.symm.trans eq) (fun z => nomatch z)
          | some d =>
            rw [e1] at eq
            have eq : keyF l (l.length + 1) (p + 1) [] = if d = 34 ∨ d = 92 then keyF l f (e + 2) (acc ++ [d]) else .inl (e + 1) := eq
            by_cases cd : d = 34 ∨ d = 92
            · rw [if_pos cd] at eq
              rw [show isAt l [34, 92] (e + 1) = true by unfold isAt; rw [e1]; exact decide_eq_true (by simpa using cd), Bool.not_true]
              have g1 : l[e + 1]? = none → keyF l (l.length + 1) (p + 1) [] = .inl (e + 1) := fun q => by rw [e1] at q; cases q
              have g2 : ∀ d', l[e + 1]? = some d' → ∃ f', keyF l (l.length + 1) (p + 1) [] = keyF l f' (e + 1 + 1) (acc ++ [d']) ∧ l.length < f' + (e + 1 + 1) := fun d' q => by
                rw [e1] at q
                cases q
                exact ⟨f, eq, by omega⟩
              refine iteF ?_
              exact rest (e + 1) H4 b4 ⟨d3, hx4⟩ eF4 g1 g2 (Nat.le_succ _)
            · rw [if_neg cd] at eq
              rw [show isAt l [34, 92] (e + 1) = false by unfold isAt; rw [e1]; exact decide_eq_false (by simpa using cd), Bool.not_false]
              exact absurd (hK.symm.trans eq) (fun z => nomatch z)
        · rw [decide_eq_false c92]
          have g1 : l[e]? = none → keyF l (l.length + 1) (p + 1) [] = .inl e := fun q => by
            rw [keyF_step l f e acc, q] at eq
            exact eq
          have g2 : ∀ d, l[e]? = some d → ∃ f', keyF l (l.length + 1) (p + 1) [] = keyF l f' (e + 1) (acc ++ [d]) ∧ l.length < f' + (e + 1) := fun d q => by
            rw [keyF_step l f e acc, q] at eq
            refine ⟨f, ?_, by omega⟩
            rw [eq]
            show (if d = 34 then _ else if d = 92 then _ else _) = _
            rw [if_neg (fun z => c34 (by rw [q, z])), if_neg (fun z => c92 (by rw [q, z]))]
          refine iteF ?_
          exact rest e H' b3 ⟨d3, hx3⟩ eF3 g1 g2 (Nat.le_refl _)
      intro e' H4 b4 hS4 eF4 kn kd le
      obtain ⟨d4, hx4⟩ := hS4
      refine ⟨_, rfl, x, d4, _, rfl, hx4, scF_no (by decide +kernel) (by decide +kernel), x, l, e', rfl, ⟨d4, hx4⟩, hl, rfl, decide (l[e']? = none), congrArg V.bl (decide_eq_decide.mpr sg_nil'), ?_⟩
      cases e1 : l[e']? with
      | none =>
        rw [decide_eq_true rfl]
        exact absurd (hK.symm.trans (kn e1)) (fun z => nomatch z)
      | some d =>
        obtain ⟨f', g1, g2⟩ := kd d e1
        have el' := at_lt e1
        rw [decide_eq_false (fun z => nomatch z)]
        refine iteF ⟨_, rfl, .inl ⟨rfl, _, .inl (.inl eF4)⟩, _, rfl, x, d4, _, rfl, hx4, scF_no (by decide +kernel) (by decide +kernel), x, l, e', rfl, ⟨d4, hx4⟩, hl, FL, _, _, rfl, rfl, eF4, ?_, ?_⟩
        · rw [List.length_map, List.length_map]
          exact Nat.lt_of_le_of_lt (by omega : _ ≤ 100000) (by decide)
        · rw [sg_some e1, onesV_app]
          have hx5 : (upd H4 FL (.lst (onesV (acc ++ [d])))) x = some (.ins a.cScanner d4 (scF l e')) := by rw [upd_ne nFL.symm]; exact hx4
          refine ⟨_, rfl, x, a.cScanner, d4, _, _, rfl, hx5, T.clScanner, T.nScanner_place, scF_place, _, _, rfl, rfl, d4, _, hx5, by show 2 < 1000; decide, _, by omega, e' + 1, f', acc ++ [d], rfl, rfl, (HFL b4 _).trans ButS.put, ⟨d4, ?_⟩, ?_, g1, g2, ?_, el'⟩
          · rw [upd_same]
            exact congrArg (fun z => some (HO.ins a.cScanner d4 z)) (scF_put (l := l) (p := e') (q := e' + 1))
          · rw [upd_ne nFL, upd_same]
          · rw [List.length_append, List.length_singleton]
            omega
theorem scLsh : FnScope ["self", "found"] ["self"] (defScope sLsh) := ⟨rfl, rfl, rfl, by decide +kernel, rfl, by decide +kernel, by decide +kernel⟩
theorem ok_lsh (D : Df K a) (T : Txt K mg a) (n : Nat) (GVlu : FnOk P w K mg base CX0 (3 * n + 8) a.fVlu D.dVlu ["self"] (spVlu K a n)) : FnOk P w K mg base CX0 (3 * n + 9) a.fLsh D.dLsh ["self"] (spLsh K a n) := by
  have GSgn : FnOk P w K mg base CX0 1 a.fSgn D.dSgn ["self"] (spSgn a) := ok_sgn D T
  have GExp : FnOk P w K mg base CX0 2 a.fExp D.dExp ["self", "signs"] (spExp a) := ok_exp D T
  have GMng : FnOk P w K mg base CX0 3 a.fMng D.dMng ["self", "signs", "value"] (spMng a) := ok_mng D T
  have GGon : FnOk P w K mg base CX0 3 a.fGon D.dGon ["self", "closing"] (spGon a) := ok_gon D T
  refine D.FLsh.ok (k := 3 * n + 8) scLsh (fun vs H Q E h => ?_) (fun cdv A outer s H vs Q E hr h => ?_)
  · obtain ⟨x, l, p, e, v, rfl, _⟩ := h
    rfl
  · obtain ⟨x, l, p, e, v, rfl, ⟨dx, hx⟩, hl, hF, k⟩ := h
    have hr3 : Room 3 _ := hr.mono (by omega)
    have hr2 : Room 2 _ := hr.mono (by omega)
    have hr1 : Room 1 _ := hr.mono (by omega)
    have hl1 : l.length ≤ 100000 := by omega
    refine ⟨_, (pss_cons (ps_expr (pe_meth (pv 0) T.clScanner T.mtExp GExp hr2 D.bExp .nil pass0 (pa_cons pe_str pa_nil))) (pss_cons (ps_if (pt_cmpR op_eq (pe_meth0 (pv 0) T.clScanner T.mtSgn GSgn hr1 D.bSgn .nil pass0) pe_str (nomark _)) (pss_one (ps_ret (pe_meth (pv 0) T.clScanner T.mtMng GMng hr3 D.bMng .nil pass0 (pa_cons pe_str (pa_cons (pe_lst pa_nil) pa_nil))))) pss_nil) (pss_cons (ps_set (i := 1) scLsh.nd rfl (.inl rfl) (pe_lst (pa_cons (pe_meth0 (pv 0) T.clScanner T.mtVlu GVlu hr D.bVlu .nil pass0) pa_nil))) (pss_cons (ps_while PassesOwn.never (pt_val (pe_meth (pv 0) T.clScanner T.mtGon GGon hr3 D.bGon .nil pass0 (pa_cons pe_str pa_nil))) (pss_one (ps_expr (pe_bm PySem.F.plainAttrs_list PySem.F.slot_list_append PySem.F.type_list_append mt_append (pv 1) (pa_cons (pe_meth0 (pv 0) T.clScanner T.mtVlu GVlu hr D.bVlu .nil pass0) pa_nil))))) (pss_one (ps_ret (pv 1))))))), ?_⟩
    unfold lstF at hF
    by_cases c91 : l[p]? = some 91
    · rw [if_pos c91] at hF
      refine ⟨_, rfl, x, dx, _, rfl, hx, scF_no (by decide +kernel) (by decide +kernel), x, l, [91], p, p + 1, by rw [show ("[" : Str) = strN [91] from by decide +kernel]; rfl, ⟨dx, hx⟩, hl1, exp1 c91, fun H1 b1 hS1 => ?_⟩
      obtain ⟨d1, hx1⟩ := hS1
      have g1 : Gr H H1 := Gr.of b1 ⟨d1, hx1⟩
      refine ⟨_, rfl, x, d1, _, rfl, hx1, scF_no (by decide +kernel) (by decide +kernel), x, l, p + 1, rfl, ⟨d1, hx1⟩, hl1, rfl, decide (l[p + 1]? = some 93), congrArg V.bl (by rw [show ("]" : Str) = strN [93] from by decide +kernel]; exact decide_eq_decide.mpr sg_eq), ?_⟩
      by_cases c93 : l[p + 1]? = some 93
      · rw [if_pos c93] at hF
        cases hF
        rw [decide_eq_true c93]
        refine iteT ⟨_, rfl, x, d1, _, rfl, hx1, scF_no (by decide +kernel) (by decide +kernel), by show 0 ≤ sizeLine; decide, fun FL hFL => ?_⟩
        have nL : FL ≠ x := ScAt.ne ⟨d1, hx1⟩ hFL
        refine ⟨x, l, [93], p + 1, p + 2, .ref FL, by rw [show ("]" : Str) = strN [93] from by decide +kernel]; rfl, ScAt.upd ⟨d1, hx1⟩ nL, hl1, exp1 c93, fun H2 b2 hS2 => ?_⟩
        refine k H2 (.ref FL) (b1.trans ((ButS.of (same_new (Same.refl H1) hFL)).trans b2)) hS2 (val_lst (nw_mk (b2 _ _ upd_same nL) (.inl (g1 _ hFL))) vals_nil)
      · rw [if_neg c93] at hF
        rw [decide_eq_false c93]
        cases e0 : vaF l n (p + 1) with
        | none => rw [e0] at hF; cases hF
        | some r =>
          obtain ⟨p1, v1⟩ := r
          rw [e0] at hF
          have hF : lsnF l (vaF l n) (l.length + 1) p1 [v1] = some (e, v) := hF
          refine iteF ⟨_, rfl, x, d1, _, rfl, hx1, scF_no (by decide +kernel) (by decide +kernel), x, l, p + 1, p1, v1, rfl, ⟨d1, hx1⟩, hl, e0, fun H2 y2 b2 hS2 hV2 => ⟨by show 1 ≤ sizeLine; decide, fun FL hFL => ?_⟩⟩
          have b12 := b1.trans b2
          have g2 : Gr H H2 := Gr.of b12 hS2
          have nL : FL ≠ x := hS2.ne hFL
          have FLn : H FL = none := g2 _ hFL
          have s3 := same_new (o := .lst [y2]) (Same.refl H2) hFL
          have b3 := b12.same s3
          have hS3 := hS2.keep s3
          have hV3 : ValsAt K a (nw H (del (upd H2 FL (.lst [y2])) FL)) [v1] [y2] := vals_one (ValAt.same (nwd_new hFL) _ _ (ValAt.same (nw_gr g1) _ _ hV2))
          have eL : (upd H2 FL (.lst [y2])) FL = some (.lst [y2]) := upd_same
          generalize upd H2 FL (.lst [y2]) = H3 at s3 b3 hS3 hV3 eL ⊢
          have p1l := vaF_le n _ _ _ e0
          have hxn : H x ≠ none := by
            rw [hx]
            exact fun z => nomatch z
          let I : Nat → L2.St → Hp → Prop := fun m st H' => ∃ (p' : Nat) (vs : List Val) (ys : List V), st = [some (.ref x), some (.ref FL)] ∧ H' FL = some (.lst ys) ∧ lsnF l (vaF l n) m p' vs = some (e, v) ∧ ValsAt K a (nw H (del H' FL)) vs ys ∧ ys.length ≤ p' ∧ p' ≤ l.length ∧ ButS x H H' ∧ ScAt a H' x l p'
          refine ⟨I, ⟨_, p1, [v1], [y2], rfl, eL, hF, hV3, by show 1 ≤ p1; omega, p1l.2, b3, hS3⟩, ?_⟩
          rintro m st H' ⟨p', vs, ys, rfl, eL', hF', hV', ly, pl', b4, ⟨d4, hx4⟩⟩
          have g4 : Gr H H' := Gr.of b4 ⟨d4, hx4⟩
          cases m with
          | zero => cases hF'
          | succ m =>
            rw [lsnF] at hF'
            by_cases c44 : l[p']? = some 44
            · rw [if_pos c44] at hF'
              cases e1 : vaF l n (p' + 1) with
              | none => rw [e1] at hF'; cases hF'
              | some r =>
                obtain ⟨p2, v2⟩ := r
                rw [e1] at hF'
                have hF' : lsnF l (vaF l n) m p2 (vs ++ [v2]) = some (e, v) := hF'
                have p2l := vaF_le n _ _ _ e1
                refine ⟨_, rfl, x, d4, _, rfl, hx4, scF_no (by decide +kernel) (by decide +kernel), x, l, p', 93, true, by rw [show ("]" : Str) = strN [93] from by decide +kernel]; rfl, ⟨d4, hx4⟩, hl1, by decide, c44, fun H5 b5 hS5 => ⟨_, rfl, iteT ⟨fun st H' => ∃ m', m' < m + 1 ∧ I m' st H', fun _ _ q => q, ?_⟩⟩⟩
                obtain ⟨d5, hx5⟩ := hS5
                have eL5 := b5 _ _ eL' nL
                refine ⟨_, rfl, .inl ⟨rfl, _, .inl (.inl eL5)⟩, _, rfl, x, d5, _, rfl, hx5, scF_no (by decide +kernel) (by decide +kernel), x, l, p' + 1, p2, v2, rfl, ⟨d5, hx5⟩, hl, e1, fun H6 y6 b6 hS6 hV6 => ?_⟩
                have eL6 := b6 _ _ eL5 nL
                have g5 : Gr H H5 := Gr.of (b4.trans b5) ⟨d5, hx5⟩
                refine ⟨FL, _, _, rfl, rfl, eL6, ?_, m, Nat.lt_succ_self _, p2, vs ++ [v2], ys ++ [y6], rfl, upd_same, hF', ?_, ?_, p2l.2, ((b4.trans b5).trans b6).new FLn, hS6.upd nL⟩
                · exact Nat.lt_of_le_of_lt (by omega : _ ≤ 2000) (by decide)
                · rw [nwd_upd]
                  refine vals_snoc (ValsAt.same (nwd_but hxn ⟨d4, hx4⟩ (b5.trans b6)) _ _ hV') (ValAt.same (nwd_gr g5 ?_ eL6 rfl) _ _ hV6)
                  rw [eL5]
                  exact fun z => nomatch z
                · rw [List.length_append, List.length_singleton]
                  omega
            · rw [if_neg c44] at hF'
              by_cases c93 : l[p']? = some 93
              · rw [if_pos c93] at hF'
                cases hF'
                refine ⟨_, rfl, x, d4, _, rfl, hx4, scF_no (by decide +kernel) (by decide +kernel), x, l, p', 93, false, by rw [show ("]" : Str) = strN [93] from by decide +kernel]; rfl, ⟨d4, hx4⟩, hl1, by decide, c93, fun H5 b5 hS5 => ⟨_, rfl, iteF ⟨_, rfl, ?_⟩⟩⟩
                exact k H5 (.ref FL) (b4.trans b5) hS5 (val_lst (nw_mk (b5 _ _ eL' nL) (.inl FLn)) (ValsAt.same nwd_sub _ _ (ValsAt.same (nwd_but hxn ⟨d4, hx4⟩ b5) _ _ hV')))
              · rw [if_neg c93] at hF'
                cases hF'
    · rw [if_neg c91] at hF
      cases hF
theorem scAdm : FnScope ["self", "found", "begin", "key"] ["self", "found"] (defScope sAdm) := ⟨rfl, rfl, rfl, by decide +kernel, rfl, by decide +kernel, by decide +kernel⟩
theorem ok_adm (D : Df K a) (T : Txt K mg a) (n : Nat) (GVlu : FnOk P w K mg base CX0 (3 * n + 8) a.fVlu D.dVlu ["self"] (spVlu K a n)) : FnOk P w K mg base CX0 (3 * n + 9) a.fAdm D.dAdm ["self", "found"] (spAdm K a n) := by
  have GExp : FnOk P w K mg base CX0 2 a.fExp D.dExp ["self", "signs"] (spExp a) := ok_exp D T
  have GStg : FnOk P w K mg base CX0 3 a.fStg D.dStg ["self"] (spStg a) := ok_stg D T
  refine D.FAdm.ok (k := 3 * n + 8) scAdm (fun vs H Q E h => ?_) (fun cdv A outer s H vs Q E hr h => ?_)
  · obtain ⟨x, Dd, l, p, e, ks, xs, k, v, rfl, _⟩ := h
    rfl
  · obtain ⟨x, Dd, l, p, e, ks, xs, kk, v, rfl, ⟨dx, hx⟩, hD, hkl, hks, hl, hF, k⟩ := h
    have hr3 : Room 3 _ := hr.mono (by omega)
    have hr2 : Room 2 _ := hr.mono (by omega)
    have hud := hu_of hr
    have hl1 : l.length ≤ 100000 := by omega
    have nD : Dd ≠ x := fun z => by
      rw [z, hx] at hD
      cases hD
    have hxn : H x ≠ none := by
      rw [hx]
      exact fun z => nomatch z
    refine ⟨_, (pss_cons (ps_set (i := 2) scAdm.nd rfl (.inl rfl) (pe_fld (pv 0) rfl)) (pss_cons (ps_set (i := 3) scAdm.nd rfl (.inl rfl) (pe_meth0 (pv 0) T.clScanner T.mtStg GStg hr3 D.bStg .nil pass0)) (pss_cons (ps_if (pt_cmp (pc_din hud (pv 3) (pv 1))) (pss_one ps_never) pss_nil) (pss_cons (ps_expr (pe_meth (pv 0) T.clScanner T.mtExp GExp hr2 D.bExp .nil pass0 (pa_cons pe_str pa_nil))) (pss_one (ps_dput hud (pv 1) (pv 3) (pe_meth0 (pv 0) T.clScanner T.mtVlu GVlu hr D.bVlu .nil pass0) rfl)))))), ?_⟩
    unfold memF at hF
    cases hs : stgF l p with
    | none => rw [hs] at hF; cases hF
    | some r =>
      obtain ⟨e1, k1⟩ := r
      rw [hs] at hF
      have hF : (if strN k1 ∈ ks then none else if l[e1]? = some 58 then (vaF l n (e1 + 1)).map fun r => (r.1, strN k1, r.2) else none) = some (e, kk, v) := hF
      by_cases nk : strN k1 ∈ ks
      · rw [if_pos nk] at hF
        cases hF
      rw [if_neg nk] at hF
      by_cases c58 : l[e1]? = some 58
      · rw [if_pos c58] at hF
        obtain ⟨⟨e, v⟩, hF2, ev⟩ := map_some hF
        cases ev
        refine ⟨_, rfl, x, a.cScanner, dx, _, _, rfl, hx, T.clScanner, T.nScanner_place, scF_place, ?_⟩
        refine ⟨_, rfl, x, dx, _, rfl, hx, scF_no (by decide +kernel) (by decide +kernel), x, l, p, e1, k1, rfl, ⟨dx, hx⟩, hl1, hs, fun H1 b1 hS1 => ?_⟩
        obtain ⟨d1, hx1⟩ := hS1
        have hD1 := b1 _ _ hD nD
        refine ⟨_, rfl, _, rfl, Dd, _, rfl, DGet.k (k := Sum.inr (strN k1)) hD1, _, rfl, ?_⟩
        rw [zip_none nk]
        refine iteF ⟨_, rfl, x, d1, _, rfl, hx1, scF_no (by decide +kernel) (by decide +kernel), x, l, [58], e1, e1 + 1, by rw [show (":" : Str) = strN [58] from by decide +kernel]; rfl, ⟨d1, hx1⟩, hl1, exp1 c58, fun H2 b2 hS2 => ?_⟩
        obtain ⟨d2, hx2⟩ := hS2
        have hD2 := b2 _ _ hD1 nD
        refine ⟨_, rfl, x, d2, _, rfl, hx2, scF_no (by decide +kernel) (by decide +kernel), x, l, e1 + 1, e, v, rfl, ⟨d2, hx2⟩, hl, hF2, fun H3 y3 b3 hS3 hV3 => ?_⟩
        have hD3 := b3 _ _ hD2 nD
        have g2 : Gr H H2 := Gr.of (b1.trans b2) ⟨d2, hx2⟩
        have g3 : Gr H H3 := Gr.of ((b1.trans b2).trans b3) hS3
        refine ⟨_, rfl, _, rfl, Dd, _, rfl, DPut.k (k := Sum.inr (strN k1)) hD3 ?_, ?_⟩
        · rw [kvT_len hkl]
          exact Nat.lt_of_le_of_lt hks (by decide)
        · rw [putK_zip nk hkl]
          refine k _ y3 (fun b o e0 n1 n2 => ?_) g3.upd (hS3.upd nD) (ValAt.same (nw_upd (by rw [hD]; exact fun z => nomatch z) hD3 rfl) _ _ (ValAt.same (nw_gr g2) _ _ hV3)) upd_same
          rw [upd_ne n2]
          exact ((b1.trans b2).trans b3) _ _ e0 n1
      · rw [if_neg c58] at hF
        cases hF
theorem scDch : FnScope ["self", "found"] ["self"] (defScope sDch) := ⟨rfl, rfl, rfl, by decide +kernel, rfl, by decide +kernel, by decide +kernel⟩
theorem ok_dch (D : Df K a) (T : Txt K mg a) (n : Nat) (GVlu : FnOk P w K mg base CX0 (3 * n + 8) a.fVlu D.dVlu ["self"] (spVlu K a n)) : FnOk P w K mg base CX0 (3 * n + 10) a.fDch D.dDch ["self"] (spDch K a n) := by
  have GSgn : FnOk P w K mg base CX0 1 a.fSgn D.dSgn ["self"] (spSgn a) := ok_sgn D T
  have GExp : FnOk P w K mg base CX0 2 a.fExp D.dExp ["self", "signs"] (spExp a) := ok_exp D T
  have GMng : FnOk P w K mg base CX0 3 a.fMng D.dMng ["self", "signs", "value"] (spMng a) := ok_mng D T
  have GGon : FnOk P w K mg base CX0 3 a.fGon D.dGon ["self", "closing"] (spGon a) := ok_gon D T
  have GAdm : FnOk P w K mg base CX0 (3 * n + 9) a.fAdm D.dAdm ["self", "found"] (spAdm K a n) := ok_adm D T n GVlu
  refine D.FDch.ok (k := 3 * n + 9) scDch (fun vs H Q E h => ?_) (fun cdv A outer s H vs Q E hr h => ?_)
  · obtain ⟨x, l, p, e, v, rfl, _⟩ := h
    rfl
  · obtain ⟨x, l, p, e, v, rfl, ⟨dx, hx⟩, hl, hF, k⟩ := h
    have hr3 : Room 3 _ := hr.mono (by omega)
    have hr2 : Room 2 _ := hr.mono (by omega)
    have hr1 : Room 1 _ := hr.mono (by omega)
    have hl1 : l.length ≤ 100000 := by omega
    have hxn : H x ≠ none := by
      rw [hx]
      exact fun z => nomatch z
    refine ⟨_, (pss_cons (ps_expr (pe_meth (pv 0) T.clScanner T.mtExp GExp hr2 D.bExp .nil pass0 (pa_cons pe_str pa_nil))) (pss_cons (ps_set (i := 1) scDch.nd rfl (.inl rfl) pe_dnewK) (pss_cons (ps_if (pt_cmpR op_eq (pe_meth0 (pv 0) T.clScanner T.mtSgn GSgn hr1 D.bSgn .nil pass0) pe_str (nomark _)) (pss_one (ps_ret (pe_meth (pv 0) T.clScanner T.mtMng GMng hr3 D.bMng .nil pass0 (pa_cons pe_str (pa_cons (pv 1) pa_nil))))) pss_nil) (pss_cons (ps_expr (pe_meth (pv 0) T.clScanner T.mtAdm GAdm hr D.bAdm .nil pass0 (pa_cons (pv 1) pa_nil))) (pss_cons (ps_while PassesOwn.never (pt_val (pe_meth (pv 0) T.clScanner T.mtGon GGon hr3 D.bGon .nil pass0 (pa_cons pe_str pa_nil))) (pss_one (ps_expr (pe_meth (pv 0) T.clScanner T.mtAdm GAdm hr D.bAdm .nil pass0 (pa_cons (pv 1) pa_nil))))) (pss_one (ps_ret (pv 1)))))))), ?_⟩
    unfold dicF at hF
    by_cases c91 : l[p]? = some 123
    · rw [if_pos c91] at hF
      refine ⟨_, rfl, x, dx, _, rfl, hx, scF_no (by decide +kernel) (by decide +kernel), x, l, [123], p, p + 1, by rw [show ("{" : Str) = strN [123] from by decide +kernel]; rfl, ⟨dx, hx⟩, hl1, exp1 c91, fun H1 b1 hS1 FL hFL => ?_⟩
      have nL : FL ≠ x := hS1.ne hFL
      have g1 : Gr H H1 := Gr.of b1 hS1
      have FLn : H FL = none := g1 _ hFL
      have b2 : ButS x H (upd H1 FL (.dK [])) := b1.new FLn
      have hS2 := hS1.upd (o := .dK []) nL
      have eL : (upd H1 FL (.dK [])) FL = some (.dK (kvT [] [])) := upd_same
      generalize upd H1 FL (.dK []) = H2 at b2 hS2 eL ⊢
      obtain ⟨d2, hx2⟩ := hS2
      refine ⟨_, rfl, x, d2, _, rfl, hx2, scF_no (by decide +kernel) (by decide +kernel), x, l, p + 1, rfl, ⟨d2, hx2⟩, hl1, rfl, decide (l[p + 1]? = some 125), congrArg V.bl (by rw [show ("}" : Str) = strN [125] from by decide +kernel]; exact decide_eq_decide.mpr sg_eq), ?_⟩
      by_cases c93 : l[p + 1]? = some 125
      · rw [if_pos c93] at hF
        cases hF
        rw [decide_eq_true c93]
        refine iteT ⟨_, rfl, x, d2, _, rfl, hx2, scF_no (by decide +kernel) (by decide +kernel), _, rfl, x, l, [125], p + 1, p + 2, .ref FL, by rw [show ("}" : Str) = strN [125] from by decide +kernel]; rfl, ⟨d2, hx2⟩, hl1, exp1 c93, fun H3 b3 hS3 => ?_⟩
        exact k H3 (.ref FL) (b2.trans b3) hS3 (val_dic (ks := []) (xs := []) (nw_mk (b3 _ _ eL nL) (.inl FLn)) rfl List.nodup_nil vals_nil)
      · rw [if_neg c93] at hF
        rw [decide_eq_false c93]
        cases e0 : memF l (vaF l n) (p + 1) [] with
        | none => rw [e0] at hF; cases hF
        | some r =>
          obtain ⟨p1, k1, v1⟩ := r
          rw [e0] at hF
          have hF : dcnF l (vaF l n) (l.length + 1) p1 [k1] [v1] = some (e, v) := hF
          have p1l := memF_le (vaF_le n) e0
          have g2 : Gr H H2 := Gr.of b2 ⟨d2, hx2⟩
          refine iteF ⟨_, rfl, x, d2, _, rfl, hx2, scF_no (by decide +kernel) (by decide +kernel), _, rfl, x, FL, l, p + 1, p1, [], [], k1, v1, rfl, ⟨d2, hx2⟩, eL, rfl, Nat.zero_le _, hl, e0, fun H3 y3 b3 g3 hS3 hV3 eL3 => ?_⟩
          have bb : ∀ {H4 H5 : Hp}, ButS x H H4 → (∀ b o, H4 b = some o → b ≠ x → b ≠ FL → H5 b = some o) → ButS x H H5 := fun {H4 H5} u u2 b o e n => u2 b o (u _ _ e n) n fun z => by rw [z, FLn] at e; cases e
          have hd : ∀ {H4 H5 : Hp} {p : Nat}, ScAt a H4 x l p → (∀ b o, H4 b = some o → b ≠ x → b ≠ FL → H5 b = some o) → Same (nw H (del H4 FL)) (nw H (del H5 FL)) := fun {H4 H5 p} hS u b o e => by
            obtain ⟨q1, q2⟩ := nw_some e
            by_cases c : b = FL
            · rw [c, del_same] at q1
              cases q1
            · rw [del_ne c] at q1
              refine nw_mk (del_at (u _ _ q1 ?_ c) c) q2
              rintro rfl
              obtain ⟨dx, hS⟩ := hS
              rw [hS] at q1
              cases q1
              rcases q2 with q2 | q2
              · exact hxn q2
              · cases q2
          have hV3' : ValsAt K a (nw H (del H3 FL)) [v1] [y3] := vals_one (ValAt.same (nwd_gr g2 (by rw [eL]; exact fun z => nomatch z) eL3 rfl) _ _ hV3)
          let I : Nat → L2.St → Hp → Prop := fun m st H' => ∃ (p' : Nat) (ks : List Str) (vs : List Val) (ys : List V), st = [some (.ref x), some (.ref FL)] ∧ H' FL = some (.dK (kvT ks ys)) ∧ ks.length = ys.length ∧ ks.Nodup ∧ dcnF l (vaF l n) m p' ks vs = some (e, v) ∧ ValsAt K a (nw H (del H' FL)) vs ys ∧ ks.length ≤ p' ∧ p' ≤ l.length ∧ ButS x H H' ∧ ScAt a H' x l p'
          refine ⟨I, ⟨_, p1, [k1], [v1], [y3], rfl, eL3, rfl, by simp, hF, hV3', by show 1 ≤ p1; omega, p1l.2.1, bb b2 b3, hS3⟩, ?_⟩
          rintro m st H' ⟨p', ks, vs, ys, rfl, eL', lky, ndk, hF', hV', ly, pl', b4, ⟨d4, hx4⟩⟩
          have g4 : Gr H H' := Gr.of b4 ⟨d4, hx4⟩
          cases m with
          | zero => cases hF'
          | succ m =>
            rw [dcnF] at hF'
            by_cases c44 : l[p']? = some 44
            · rw [if_pos c44] at hF'
              cases e1 : memF l (vaF l n) (p' + 1) ks with
              | none => rw [e1] at hF'; cases hF'
              | some r =>
                obtain ⟨p2, k2, v2⟩ := r
                rw [e1] at hF'
                have hF' : dcnF l (vaF l n) m p2 (ks ++ [k2]) (vs ++ [v2]) = some (e, v) := hF'
                have p2l := memF_le (vaF_le n) e1
                refine ⟨_, rfl, x, d4, _, rfl, hx4, scF_no (by decide +kernel) (by decide +kernel), x, l, p', 125, true, by rw [show ("}" : Str) = strN [125] from by decide +kernel]; rfl, ⟨d4, hx4⟩, hl1, by decide, c44, fun H5 b5 hS5 => ⟨_, rfl, iteT ⟨fun st H' => ∃ m', m' < m + 1 ∧ I m' st H', fun _ _ q => q, ?_⟩⟩⟩
                obtain ⟨d5, hx5⟩ := hS5
                have eL5 := b5 _ _ eL' nL
                refine ⟨_, rfl, x, d5, _, rfl, hx5, scF_no (by decide +kernel) (by decide +kernel), _, rfl, x, FL, l, p' + 1, p2, ks, ys, k2, v2, rfl, ⟨d5, hx5⟩, eL5, lky, by omega, hl, e1, fun H6 y6 b6 g6 hS6 hV6 eL6 => ?_⟩
                have g5 : Gr H H5 := Gr.of (b4.trans b5) ⟨d5, hx5⟩
                refine ⟨m, Nat.lt_succ_self _, p2, ks ++ [k2], vs ++ [v2], ys ++ [y6], rfl, eL6, ?_, ?_, hF', ?_, ?_, p2l.2.1, bb (b4.trans b5) b6, hS6⟩
                · rw [List.length_append, List.length_append, lky]
                  rfl
                · refine List.nodup_append.mpr ⟨ndk, by simp, fun q hq r hr2 z => ?_⟩
                  rw [List.mem_singleton.mp hr2] at z
                  exact p2l.2.2 (z ▸ hq)
                · exact vals_snoc (ValsAt.same (hd ⟨d5, hx5⟩ b6) _ _ (ValsAt.same (nwd_but hxn ⟨d4, hx4⟩ b5) _ _ hV')) (ValAt.same (nwd_gr g5 (by rw [eL5]; exact fun z => nomatch z) eL6 rfl) _ _ hV6)
                · rw [List.length_append, List.length_singleton]
                  omega
            · rw [if_neg c44] at hF'
              by_cases c93 : l[p']? = some 125
              · rw [if_pos c93] at hF'
                cases hF'
                refine ⟨_, rfl, x, d4, _, rfl, hx4, scF_no (by decide +kernel) (by decide +kernel), x, l, p', 125, false, by rw [show ("}" : Str) = strN [125] from by decide +kernel]; rfl, ⟨d4, hx4⟩, hl1, by decide, c93, fun H5 b5 hS5 => ⟨_, rfl, iteF ⟨_, rfl, ?_⟩⟩⟩
                exact k H5 (.ref FL) (b4.trans b5) hS5 (val_dic (xs := ys) (nw_mk (b5 _ _ eL' nL) (.inl FLn)) lky ndk (ValsAt.same nwd_sub _ _ (ValsAt.same (nwd_but hxn ⟨d4, hx4⟩ b5) _ _ hV')))
              · rw [if_neg c93] at hF'
                cases hF'
    · rw [if_neg c91] at hF
      cases hF
end
end G58.V

set_option Elab.async false
set_option linter.all false
set_option pp.maxSteps 2500
set_option maxRecDepth 100000
set_option maxHeartbeats 4000000
/-! Values read. -/
namespace G58.V
open PySem PySem.Spec PyProof.Rows L2 NumText TL LamX
theorem sg_dec {l : List Nat} {p d : Nat} {z : Str} (h : z = strN [d]) : decide (V.str (strN ((l.drop p).take 1)) = V.str z) = decide (l[p]? = some d) := by
  rw [h]
  exact decide_eq_decide.mpr sg_eq
section
variable {P : Program} {w : World} {K : PySem.W.Frag} {mg : Str → Option Value} {base : Heap} {a : Ad}
theorem scVlu : FnScope ["self", "sign"] ["self"] (defScope sVlu) := ⟨rfl, rfl, rfl, by decide +kernel, rfl, by decide +kernel, by decide +kernel⟩
theorem ok_vlu (D : Df K a) (T : Txt K mg a) : ∀ n : Nat, FnOk P w K mg base CX0 (3 * n + 8) a.fVlu D.dVlu ["self"] (spVlu K a n)
  | 0 => ok_elim fun vs H Q E h => by
    obtain ⟨x, l, p, e, v, _, _, _, hF, _⟩ := h
    cases hF
  | n + 1 => by
    have GVlu : FnOk P w K mg base CX0 (3 * n + 8) a.fVlu D.dVlu ["self"] (spVlu K a n) := ok_vlu D T n
    have GSgn : FnOk P w K mg base CX0 1 a.fSgn D.dSgn ["self"] (spSgn a) := ok_sgn D T
    have GIsa : FnOk P w K mg base CX0 2 a.fIsa D.dIsa ["self", "signs"] (spIsa a) := ok_isa D T
    have GStg : FnOk P w K mg base CX0 3 a.fStg D.dStg ["self"] (spStg a) := ok_stg D T
    have GMng : FnOk P w K mg base CX0 3 a.fMng D.dMng ["self", "signs", "value"] (spMng a) := ok_mng D T
    have GSit : FnOk P w K mg base CX0 4 a.fSit D.dSit ["self"] (spSit a) := ok_sit D T
    have GLtd : FnOk P w K mg base CX0 7 a.fLtd D.dLtd ["self"] (spLtd K a) := ok_ltd D T
    have GLsh : FnOk P w K mg base CX0 (3 * n + 9) a.fLsh D.dLsh ["self"] (spLsh K a n) := ok_lsh D T n GVlu
    have GDch : FnOk P w K mg base CX0 (3 * n + 10) a.fDch D.dDch ["self"] (spDch K a n) := ok_dch D T n GVlu
    refine D.FVlu.ok (k := 3 * n + 10) scVlu (fun vs H Q E h => ?_) (fun cdv A outer s H vs Q E hr h => ?_)
    · obtain ⟨x, l, p, e, v, rfl, _⟩ := h
      rfl
    · obtain ⟨x, l, p, e, v, rfl, ⟨dx, hx⟩, hl, hF, k⟩ := h
      have hrd : Room (3 * n + 10) _ := hr
      have hrl : Room (3 * n + 9) _ := hr.mono (by omega)
      have hr7 : Room 7 _ := hr.mono (by omega)
      have hr4 : Room 4 _ := hr.mono (by omega)
      have hr3 : Room 3 _ := hr.mono (by omega)
      have hr2 : Room 2 _ := hr.mono (by omega)
      have hr1 : Room 1 _ := hr.mono (by omega)
      have hl1 : l.length ≤ 100000 := by omega
      refine ⟨_, (pss_cons (ps_set (i := 1) scVlu.nd rfl (.inl rfl) (pe_meth0 (pv 0) T.clScanner T.mtSgn GSgn hr1 D.bSgn .nil pass0)) (pss_cons (ps_if (pt_cmpR op_eq (pv 1) pe_str (nomark _)) (pss_one (ps_ret (pe_meth0 (pv 0) T.clScanner T.mtStg GStg hr3 D.bStg .nil pass0))) pss_nil) (pss_cons (ps_if (pt_cmpR op_eq (pv 1) pe_str (nomark _)) (pss_one (ps_ret (pe_meth0 (pv 0) T.clScanner T.mtLsh GLsh hrl D.bLsh .nil pass0))) pss_nil) (pss_cons (ps_if (pt_cmpR op_eq (pv 1) pe_str (nomark _)) (pss_one (ps_ret (pe_meth0 (pv 0) T.clScanner T.mtDch GDch hrd D.bDch .nil pass0))) pss_nil) (pss_cons (ps_if (pt_cmpR op_eq (pv 1) pe_str (nomark _)) (pss_one (ps_ret (pe_meth (pv 0) T.clScanner T.mtMng GMng hr3 D.bMng .nil pass0 (pa_cons pe_str (pa_cons pe_non pa_nil))))) pss_nil) (pss_cons (ps_if (pt_cmpR op_eq (pv 1) pe_str (nomark _)) (pss_one (ps_ret (pe_meth (pv 0) T.clScanner T.mtMng GMng hr3 D.bMng .nil pass0 (pa_cons pe_str (pa_cons pe_bl pa_nil))))) pss_nil) (pss_cons (ps_if (pt_cmpR op_eq (pe_slice sl_str (pe_fld (pv 0) rfl) (po_some (pe_fld (pv 0) rfl)) (po_some (pe_op op_add (pe_fld (pv 0) rfl) pe_int))) pe_str (nomark _)) (pss_one (ps_ret (pe_meth (pv 0) T.clScanner T.mtMng GMng hr3 D.bMng .nil pass0 (pa_cons pe_str (pa_cons pe_bl pa_nil))))) pss_nil) (pss_one (ps_ret (pe_ifExp (pt_val (pe_meth (pv 0) T.clScanner T.mtIsa GIsa hr2 D.bIsa .nil pass0 (pa_cons pe_str pa_nil))) (pe_meth0 (pv 0) T.clScanner T.mtLtd GLtd hr7 D.bLtd .nil pass0) (pe_meth0 (pv 0) T.clScanner T.mtSit GSit hr4 D.bSit .nil pass0))))))))))), ?_⟩
      rw [vaF] at hF
      refine ⟨_, rfl, x, dx, _, rfl, hx, scF_no (by decide +kernel) (by decide +kernel), x, l, p, rfl, ⟨dx, hx⟩, hl1, ?_⟩
      refine ⟨_, rfl, rfl, _, rfl, ?_⟩
      rw [sg_dec (d := 34) (by decide +kernel)]
      by_cases c34 : l[p]? = some 34
      · rw [if_pos c34] at hF
        obtain ⟨⟨e, q⟩, hF2, ev⟩ := map_some hF
        cases ev
        rw [decide_eq_true c34]
        exact iteT ⟨_, rfl, x, dx, _, rfl, hx, scF_no (by decide +kernel) (by decide +kernel), x, l, p, e, q, rfl, ⟨dx, hx⟩, hl1, hF2, fun H1 b1 hS1 => k H1 _ b1 hS1 (val_leaf (l := .str (strN q)) rfl)⟩
      rw [if_neg c34] at hF
      rw [decide_eq_false c34]
      refine iteF ⟨_, rfl, rfl, _, rfl, ?_⟩
      rw [sg_dec (d := 91) (by decide +kernel)]
      by_cases c91 : l[p]? = some 91
      · rw [if_pos c91] at hF
        rw [decide_eq_true c91]
        exact iteT ⟨_, rfl, x, dx, _, rfl, hx, scF_no (by decide +kernel) (by decide +kernel), x, l, p, e, v, rfl, ⟨dx, hx⟩, hl, hF, k⟩
      rw [if_neg c91] at hF
      rw [decide_eq_false c91]
      refine iteF ⟨_, rfl, rfl, _, rfl, ?_⟩
      rw [sg_dec (d := 123) (by decide +kernel)]
      by_cases c123 : l[p]? = some 123
      · rw [if_pos c123] at hF
        rw [decide_eq_true c123]
        exact iteT ⟨_, rfl, x, dx, _, rfl, hx, scF_no (by decide +kernel) (by decide +kernel), x, l, p, e, v, rfl, ⟨dx, hx⟩, hl, hF, k⟩
      rw [if_neg c123] at hF
      rw [decide_eq_false c123]
      refine iteF ⟨_, rfl, rfl, _, rfl, ?_⟩
      rw [sg_dec (d := 110) (by decide +kernel)]
      by_cases c110 : l[p]? = some 110
      · rw [if_pos c110] at hF
        obtain ⟨e, hF2, ev⟩ := map_some hF
        cases ev
        rw [decide_eq_true c110]
        exact iteT ⟨_, rfl, x, dx, _, rfl, hx, scF_no (by decide +kernel) (by decide +kernel), x, l, [110, 117, 108, 108], p, e, .non, by rw [show ("null" : Str) = strN [110, 117, 108, 108] from by decide +kernel]; rfl, ⟨dx, hx⟩, hl1, hF2, fun H1 b1 hS1 => k H1 _ b1 hS1 (val_leaf (l := .non) rfl)⟩
      rw [if_neg c110] at hF
      rw [decide_eq_false c110]
      refine iteF ⟨_, rfl, rfl, _, rfl, ?_⟩
      rw [sg_dec (d := 102) (by decide +kernel)]
      by_cases c102 : l[p]? = some 102
      · rw [if_pos c102] at hF
        obtain ⟨e, hF2, ev⟩ := map_some hF
        cases ev
        rw [decide_eq_true c102]
        exact iteT ⟨_, rfl, x, dx, _, rfl, hx, scF_no (by decide +kernel) (by decide +kernel), x, l, [102, 97, 108, 115, 101], p, e, .bl false, by rw [show ("false" : Str) = strN [102, 97, 108, 115, 101] from by decide +kernel]; rfl, ⟨dx, hx⟩, hl1, hF2, fun H1 b1 hS1 => k H1 _ b1 hS1 (val_leaf (l := .bl false) rfl)⟩
      rw [if_neg c102] at hF
      rw [decide_eq_false c102]
      refine iteF ?_
      refine ⟨_, rfl, x, a.cScanner, dx, _, _, rfl, hx, T.clScanner, T.nScanner_text, scF_text, ?_⟩
      refine ⟨_, rfl, x, a.cScanner, dx, _, _, rfl, hx, T.clScanner, T.nScanner_place, scF_place, _, rfl, ?_⟩
      refine ⟨_, rfl, x, a.cScanner, dx, _, _, rfl, hx, T.clScanner, T.nScanner_place, scF_place, _, _, rfl, rfl, _, rfl, strN l, rfl, by rw [strN_len]; exact Nat.le_trans hl1 (by decide), rfl, _, rfl, ?_⟩
      have ecut : cutS (strN l) (some ((p : Nat) : Int)) (some (((p : Nat) : Int) + 2)) = strN ((l.drop p).take 2) := by
        have := cut1 l p (p + 2)
        rw [Nat.add_sub_cancel_left] at this
        exact this
      rw [ecut]
      have edec : decide (V.str (strN ((l.drop p).take 2)) = V.str ("tr" : Str)) = decide ((l.drop p).take 2 = [116, 114]) := by
        rw [show ("tr" : Str) = strN [116, 114] from by decide +kernel]
        exact decide_eq_decide.mpr ⟨fun q => strN_inj (V.str.inj q), fun q => by rw [q]⟩
      rw [edec]
      by_cases ctr : (l.drop p).take 2 = [116, 114]
      · rw [if_pos ctr] at hF
        obtain ⟨e, hF2, ev⟩ := map_some hF
        cases ev
        rw [decide_eq_true ctr]
        exact iteT ⟨_, rfl, x, dx, _, rfl, hx, scF_no (by decide +kernel) (by decide +kernel), x, l, [116, 114, 117, 101], p, e, .bl true, by rw [show ("true" : Str) = strN [116, 114, 117, 101] from by decide +kernel]; rfl, ⟨dx, hx⟩, hl1, hF2, fun H1 b1 hS1 => k H1 _ b1 hS1 (val_leaf (l := .bl true) rfl)⟩
      rw [if_neg ctr] at hF
      rw [decide_eq_false ctr]
      refine iteF ⟨_, rfl, x, dx, _, rfl, hx, scF_no (by decide +kernel) (by decide +kernel), x, l, [119, 100, 117, 114, 116], p, by rw [show ("wdurt" : Str) = strN [119, 100, 117, 114, 116] from by decide +kernel]; rfl, ⟨dx, hx⟩, hl1, _, rfl, ?_⟩
      cases hc : l[p]? with
      | none =>
        rw [hc] at hF
        cases hF
      | some c =>
        rw [hc] at hF
        have hF : (if c ∈ [119, 100, 117, 114, 116] then ltdF l (p + 1) c else (sitF l p).map fun r => (r.1, .leaf (.int r.2))) = some (e, v) := hF
        have ei : isAt l [119, 100, 117, 114, 116] p = decide (c ∈ [119, 100, 117, 114, 116]) := by
          unfold isAt
          rw [hc]
        rw [ei]
        by_cases cm : c ∈ [119, 100, 117, 114, 116]
        · rw [if_pos cm] at hF
          rw [decide_eq_true cm]
          exact iteT ⟨_, rfl, x, dx, _, rfl, hx, scF_no (by decide +kernel) (by decide +kernel), x, l, p, c, e, v, rfl, ⟨dx, hx⟩, hl, hc, cm, hF, k⟩
        · rw [if_neg cm] at hF
          obtain ⟨⟨e, q⟩, hF2, ev⟩ := map_some hF
          cases ev
          rw [decide_eq_false cm]
          exact iteF ⟨_, rfl, x, dx, _, rfl, hx, scF_no (by decide +kernel) (by decide +kernel), x, l, p, e, q, rfl, ⟨dx, hx⟩, hl1, hF2, fun H1 b1 hS1 => k H1 _ b1 hS1 (val_leaf (l := .int q) rfl)⟩
end
end G58.V

set_option Elab.async false
set_option linter.all false
set_option maxRecDepth 100000
set_option maxHeartbeats 4000000
/-! Plain: what is read is small, not deep, of few parts. -/
namespace G58.V
open PySem PySem.Spec PyProof.Rows L2 NumText
/-- of a value read from p to e -/
def Szd (n p e : Nat) (v : Val) : Prop := smallV v ∧ depthV v < n ∧ partsV v + p ≤ e
def SzF (n : Nat) (val : Nat → Option (Nat × Val)) : Prop := ∀ p e v, val p = some (e, v) → Szd n p e v
theorem smalls_snoc : ∀ {vs : List Val} {v : Val}, smallVs vs → smallV v → smallVs (vs ++ [v])
  | [], v, _, h => by
    show smallVs [v]
    unfold smallVs
    exact ⟨h, by unfold smallVs; trivial⟩
  | b :: r, v, h, h2 => by
    unfold smallVs at h
    show smallVs (b :: (r ++ [v]))
    unfold smallVs
    exact ⟨h.1, smalls_snoc h.2 h2⟩
theorem depths_snoc : ∀ {vs : List Val} {v : Val} {m : Nat}, depthVs vs ≤ m → 1 + depthV v ≤ m → depthVs (vs ++ [v]) ≤ m
  | [], v, m, _, h => by
    show depthVs [v] ≤ m
    unfold depthVs depthVs
    omega
  | b :: r, v, m, h, h2 => by
    unfold depthVs at h
    show depthVs (b :: (r ++ [v])) ≤ m
    unfold depthVs
    have := depths_snoc (vs := r) (v := v) (m := m) (by omega) h2
    omega
theorem parts_snoc : ∀ {vs : List Val} {v : Val}, partsVs (vs ++ [v]) = partsVs vs + partsV v
  | [], v => by
    show partsVs [v] = partsVs [] + partsV v
    unfold partsVs partsVs
    omega
  | b :: r, v => by
    show partsVs (b :: (r ++ [v])) = partsVs (b :: r) + partsV v
    unfold partsVs
    rw [parts_snoc (vs := r)]
    omega
theorem len_parts : ∀ {vs : List Val}, vs.length ≤ partsVs vs
  | [] => Nat.zero_le _
  | b :: r => by
    unfold partsVs
    have := len_parts (vs := r)
    have h1 : 1 ≤ partsV b := by
      cases b <;> (unfold partsV; omega)
    rw [List.length_cons]
    omega
theorem lsnF_sz {l : List Nat} {n : Nat} {val : Nat → Option (Nat × Val)} (hl : l.length ≤ 2000) (hv : Fwd l val) (hs : SzF n val) : ∀ {f p : Nat} {acc : List Val} {e : Nat} {v : Val} {p0 : Nat}, smallVs acc → depthVs acc ≤ n → partsVs acc + p0 ≤ p → lsnF l val f p acc = some (e, v) → smallV v ∧ depthV v ≤ n ∧ partsV v + p0 ≤ e
  | 0, p, acc, e, v, p0, _, _, _, h => by cases h
  | f + 1, p, acc, e, v, p0, h1, h2, h3, h => by
    rw [lsnF] at h
    split at h
    · cases hc : val (p + 1) with
      | none => rw [hc] at h; cases h
      | some r =>
        obtain ⟨e1, v1⟩ := r
        rw [hc] at h
        obtain ⟨g1, g2, g3⟩ := hs _ _ _ hc
        exact lsnF_sz hl hv hs (smalls_snoc h1 g1) (depths_snoc h2 (by omega)) (by rw [parts_snoc]; omega) (show lsnF l val f e1 (acc ++ [v1]) = some (e, v) from h)
    · split at h
      · rename_i hc
        cases h
        have := at_lt hc
        have := len_parts (vs := acc)
        unfold smallV depthV partsV
        exact ⟨⟨by omega, h1⟩, h2, by omega⟩
      · cases h
theorem lstF_sz {l : List Nat} {n : Nat} {val : Nat → Option (Nat × Val)} (hl : l.length ≤ 2000) (hv : Fwd l val) (hs : SzF n val) {p e : Nat} {v : Val} (h : lstF l val p = some (e, v)) : Szd (n + 1) p e v := by
  unfold lstF at h
  split at h
  · split at h
    · rename_i hc
      cases h
      have := at_lt hc
      unfold Szd smallV depthV partsV smallVs depthVs partsVs
      exact ⟨⟨Nat.zero_le _, trivial⟩, by omega, by omega⟩
    · cases hc : val (p + 1) with
      | none => rw [hc] at h; cases h
      | some r =>
        obtain ⟨e1, v1⟩ := r
        rw [hc] at h
        obtain ⟨g1, g2, g3⟩ := hs _ _ _ hc
        obtain ⟨q1, q2, q3⟩ := lsnF_sz hl hv hs (p0 := p + 1) (acc := [v1]) (by unfold smallVs; exact ⟨g1, by unfold smallVs; trivial⟩) (by unfold depthVs depthVs; omega) (by unfold partsVs partsVs; omega) h
        exact ⟨q1, by omega, by omega⟩
  · cases h
theorem memF_sz {l : List Nat} {n : Nat} {val : Nat → Option (Nat × Val)} (hl : l.length ≤ 2000) (hs : SzF n val) {p e : Nat} {ks : List Str} {k : Str} {v : Val} (h : memF l val p ks = some (e, k, v)) : Szd n p e v ∧ k.cps.size ≤ 100000 := by
  unfold memF at h
  cases hk : stgF l p with
  | none => rw [hk] at h; cases h
  | some r =>
    obtain ⟨e1, k1⟩ := r
    rw [hk] at h
    simp only at h
    split at h
    · cases h
    · split at h
      · obtain ⟨r, h1, h2⟩ := map_some h
        cases h2
        obtain ⟨g1, g2, g3⟩ := hs _ _ _ h1
        obtain ⟨_, _, q3, _, q5⟩ := stgF_le hk
        refine ⟨⟨g1, g2, by omega⟩, ?_⟩
        have : (strN k1).cps.size = k1.length := strN_len k1
        omega
      · cases h
theorem dcnF_sz {l : List Nat} {n : Nat} {val : Nat → Option (Nat × Val)} (hl : l.length ≤ 2000) (hv : Fwd l val) (hs : SzF n val) : ∀ {f p : Nat} {ks : List Str} {vs : List Val} {e : Nat} {v : Val} {p0 : Nat}, (∀ k ∈ ks, k.cps.size ≤ 100000) → ks.length = vs.length → smallVs vs → depthVs vs ≤ n → partsVs vs + p0 ≤ p → dcnF l val f p ks vs = some (e, v) → smallV v ∧ depthV v ≤ n ∧ partsV v + p0 ≤ e
  | 0, p, ks, vs, e, v, p0, _, _, _, _, _, h => by cases h
  | f + 1, p, ks, vs, e, v, p0, hk, hkl, h1, h2, h3, h => by
    rw [dcnF] at h
    split at h
    · cases hc : memF l val (p + 1) ks with
      | none => rw [hc] at h; cases h
      | some r =>
        obtain ⟨e1, k1, v1⟩ := r
        rw [hc] at h
        obtain ⟨⟨g1, g2, g3⟩, g4⟩ := memF_sz hl hs hc
        exact dcnF_sz hl hv hs (fun k hk2 => (List.mem_append.mp hk2).elim (hk k) fun z => by rw [List.mem_singleton.mp z]; exact g4) (by rw [List.length_append, List.length_append, hkl]; rfl) (smalls_snoc h1 g1) (depths_snoc h2 (by omega)) (by rw [parts_snoc]; omega) (show dcnF l val f e1 (ks ++ [k1]) (vs ++ [v1]) = some (e, v) from h)
    · split at h
      · rename_i hc
        cases h
        have := at_lt hc
        have := len_parts (vs := vs)
        unfold smallV depthV partsV
        exact ⟨⟨by omega, hk, h1⟩, h2, by omega⟩
      · cases h
theorem dicF_sz {l : List Nat} {n : Nat} {val : Nat → Option (Nat × Val)} (hl : l.length ≤ 2000) (hv : Fwd l val) (hs : SzF n val) {p e : Nat} {v : Val} (h : dicF l val p = some (e, v)) : Szd (n + 1) p e v := by
  unfold dicF at h
  split at h
  · split at h
    · rename_i hc
      cases h
      have := at_lt hc
      unfold Szd smallV depthV partsV smallVs depthVs partsVs
      exact ⟨⟨Nat.zero_le _, fun k hk => (nomatch hk), trivial⟩, by omega, by omega⟩
    · cases hc : memF l val (p + 1) [] with
      | none => rw [hc] at h; cases h
      | some r =>
        obtain ⟨e1, k1, v1⟩ := r
        rw [hc] at h
        obtain ⟨⟨g1, g2, g3⟩, g4⟩ := memF_sz hl hs hc
        obtain ⟨q1, q2, q3⟩ := dcnF_sz hl hv hs (p0 := p + 1) (ks := [k1]) (vs := [v1]) (fun k hk => by rw [List.mem_singleton.mp hk]; exact g4) rfl (by unfold smallVs; exact ⟨g1, by unfold smallVs; trivial⟩) (by unfold depthVs depthVs; omega) (by unfold partsVs partsVs; omega) h
        exact ⟨q1, by omega, by omega⟩
  · cases h
theorem leaf_sz {n p e : Nat} {l : Lf} (h : smallL l) (hp : p < e) : Szd (n + 1) p e (.leaf l) := by
  unfold Szd smallV depthV partsV
  exact ⟨h, by omega, by omega⟩
theorem odd_sz {n p e : Nat} (hp : p < e) : Szd (n + 1) p e .odd := by
  unfold Szd smallV depthV partsV
  exact ⟨trivial, by omega, by omega⟩
theorem ltdF_sz {l : List Nat} {n p c e : Nat} {v : Val} (hl : l.length ≤ 2000) (hp : p ≤ l.length) (h : ltdF l p c = some (e, v)) {q : Nat} (hq : q < p) : Szd (n + 1) q e v := by
  have le := (ltdF_le hp h).1
  unfold ltdF at h
  split at h
  · cases hc : hexF l 4 p 0 with
    | none => rw [hc] at h; cases h
    | some r =>
      obtain ⟨e1, v1⟩ := r
      rw [hc] at h
      obtain ⟨⟨e, us⟩, h1, h2⟩ := map_some h
      cases h2
      obtain ⟨g1, g2⟩ := hexF_le hc
      obtain ⟨g3, g4, g5⟩ := hxsF_le h1
      have := g4 (g2 hp)
      simp only [List.length_singleton] at g5
      by_cases c : us.all plainC = true
      · rw [show (if (e, us).snd.all plainC = true then Val.odd else thgV .w us) = Val.odd from if_pos c]
        exact odd_sz (by omega)
      · rw [show (if (e, us).snd.all plainC = true then Val.odd else thgV .w us) = thgV .w us from if_neg c]
        exact leaf_sz (show (intsL us).length ≤ 1000 by rw [List.length_map]; omega) (by omega)
  split at h
  · cases hc : hxnF l 2 4 p [] with
    | none => rw [hc] at h; cases h
    | some r =>
      obtain ⟨e1, v1⟩ := r
      rw [hc] at h
      obtain ⟨g1, g2, g3⟩ := hxnF_le hc
      simp only at h
      split at h
      · obtain ⟨⟨e, us⟩, h1, h2⟩ := map_some h
        cases h2
        obtain ⟨g4, g5, g6⟩ := hxnF_le h1
        simp only [List.length_nil] at g3 g6
        exact leaf_sz (show (intsL (v1 ++ us)).length ≤ 1000 by rw [List.length_map, List.length_append]; omega) (by omega)
      · cases h
        simp only [List.length_nil] at g3
        exact leaf_sz (show (intsL v1).length ≤ 1000 by rw [List.length_map]; omega) (by omega)
  split at h
  · obtain ⟨⟨e, us⟩, h1, h2⟩ := map_some h
    cases h2
    obtain ⟨g3, g4, g5⟩ := hxsF_le h1
    have := g4 hp
    simp only [List.length_nil] at g5
    exact leaf_sz (show (intsL us).length ≤ 1000 by rw [List.length_map]; omega) (by omega)
  split at h
  · obtain ⟨⟨e, us⟩, h1, h2⟩ := map_some h
    cases h2
    obtain ⟨g3, g4, g5⟩ := hxnF_le h1
    simp only [List.length_nil] at g5
    exact leaf_sz (show (intsL us).length ≤ 1000 by rw [List.length_map]; omega) (by omega)
  · obtain ⟨⟨e, m⟩, h1, h2⟩ := map_some h
    cases h2
    by_cases c : m ≤ 18446744073709551615
    · rw [show (if (e, m).snd ≤ 18446744073709551615 then Val.leaf (.thg .u (.num (m : Int))) else Val.odd) = _ from if_pos c]
      exact leaf_sz trivial (by omega)
    · rw [show (if (e, m).snd ≤ 18446744073709551615 then Val.leaf (.thg .u (.num (m : Int))) else Val.odd) = _ from if_neg c]
      exact odd_sz (by omega)
theorem vaF_sz {l : List Nat} (hl : l.length ≤ 2000) : ∀ n : Nat, SzF n (vaF l n)
  | 0 => fun p e v h => by cases h
  | n + 1 => fun p e v h => by
    have le := vaF_le (n + 1) _ _ _ h
    rw [vaF] at h
    split at h
    · obtain ⟨⟨e2, k⟩, h1, h2⟩ := map_some h
      cases h2
      have q := stgF_le h1
      have : (strN k).cps.size = k.length := strN_len k
      exact leaf_sz (show (strN k).cps.size ≤ 100000 by omega) le.1
    split at h
    · exact lstF_sz hl (vaF_le n) (vaF_sz hl n) h
    split at h
    · exact dicF_sz hl (vaF_le n) (vaF_sz hl n) h
    split at h
    · obtain ⟨r, h1, h2⟩ := map_some h
      cases h2
      exact leaf_sz trivial le.1
    split at h
    · obtain ⟨r, h1, h2⟩ := map_some h
      cases h2
      exact leaf_sz trivial le.1
    split at h
    · obtain ⟨r, h1, h2⟩ := map_some h
      cases h2
      exact leaf_sz trivial le.1
    cases hc : l[p]? with
    | none => rw [hc] at h; cases h
    | some c =>
      rw [hc] at h
      have pl := at_lt hc
      simp only at h
      split at h
      · exact ltdF_sz hl (by omega) h (Nat.lt_succ_self _)
      · obtain ⟨r, h1, h2⟩ := map_some h
        cases h2
        exact leaf_sz trivial le.1
end G58.V

set_option Elab.async false
set_option linter.all false
set_option pp.maxSteps 2500
set_option maxRecDepth 100000
set_option maxHeartbeats 4000000
/-! A text read. -/
namespace G58.V
open PySem PySem.Spec PyProof.Rows L2 NumText TL LamX
def spRdv (K : PySem.W.Frag) (a : Ad) (n : Nat) : Sp := fun vs H Q E => ∃ (l : List Nat) (v : Val), vs = [.str (strN l)] ∧ l.length ≤ 2000 ∧ n ≤ 100 ∧ vaF l n 0 = some (l.length, v) ∧
  ((∃ p : List PStep, BadV v p ∧ OutW K a H (p.map stepV) E) ∨ (GoodV v ∧ ∀ H' y, Same H H' → ValAt K a (nw H H') v y → Q y H'))
section
variable {P : Program} {w : World} {K : PySem.W.Frag} {mg : Str → Option Value} {base : Heap} {a : Ad}
theorem scRdv : FnScope ["text", "scanner", "found"] ["text"] (defScope sRdv) := ⟨rfl, rfl, rfl, by decide +kernel, rfl, by decide +kernel, by decide +kernel⟩
theorem ok_rdv (D : Df K a) (T : Txt K mg a) (n : Nat) : FnOk P w K mg base (L2.CX P w) (3 * n + 9) a.fRdv D.dRdv ["text"] (spRdv K a n) := by
  have GSin : FnOk P w K mg base CX0 1 a.fSin D.dSin ["self", "text"] (spSin a) := ok_sin D T
  have GFns : FnOk P w K mg base CX0 2 a.fFns D.dFns ["self"] (spFns a) := ok_fns D T
  have GVlu : FnOk P w K mg base CX0 (3 * n + 8) a.fVlu D.dVlu ["self"] (spVlu K a n) := ok_vlu D T n
  have GChk : FnOk P w K mg base (L2.CX P w) (n + 4) a.fChk D.dChk ["value"] (spChkL K a n) := ok_chk D T n
  refine D.FRdv.okX (k := 3 * n + 8) scRdv (fun vs H Q E h => ?_) (fun cdv A outer s H vs Q E hr0 h => ?_)
  · obtain ⟨l, v, rfl, _⟩ := h
    rfl
  · obtain ⟨l, v, rfl, hl, hn, hF, h⟩ := h
    have hr2 : Room 2 _ := hr0.mono (by omega)
    have hr1 : Room (3 * n + 8) _ := hr0
    have hr : Room (n + 4) _ := hr0.mono (by omega)
    have hl1 : l.length ≤ 100000 := by omega
    refine ⟨_, (pss_cons (ps_set (i := 1) scRdv.nd rfl (.inl rfl) (pe_make T.mkScanner GSin hr2 rfl T.gcScanner D.bSin .nil pass0 (pa_cons (pv 0) pa_nil))) (pss_cons (ps_set (i := 2) scRdv.nd rfl (.inl rfl) (pe_meth0 (pv 1) T.clScanner T.mtVlu GVlu hr1 D.bVlu .nil pass0)) (pss_cons (ps_expr (pe_meth0 (pv 1) T.clScanner T.mtFns GFns hr2 D.bFns .nil pass0)) (pss_cons (ps_expr (pe_call GChk hr rfl T.gChk D.FChk.kp D.bChk .nil (passes_call (takes_of rfl rfl rfl rfl) (fun _ _ _ _ q => q)) (pa_cons (pv 2) pa_nil))) (pss_one (ps_ret (pv 2))))))), ?_⟩
    refine ⟨_, rfl, fun x dx h1 h2 h3 => ⟨x, dx, l, rfl, upd_same, fun H1 b1 hS1 => ⟨rfl, ?_⟩⟩⟩
    have s1 : Same H H1 := fun b o e => b1 b o (by rw [upd_ne (ne_of_none e h1), upd_ne (ne_of_none e h2)]; exact e) (ne_of_none e h1)
    obtain ⟨d1, hx1⟩ := hS1
    obtain ⟨z1, z2, z3⟩ := vaF_sz hl n _ _ _ hF
    refine ⟨_, rfl, x, d1, _, rfl, hx1, scF_no (by decide +kernel) (by decide +kernel), x, l, 0, l.length, v, rfl, ⟨d1, hx1⟩, hl, hF, fun H2 y b2 hS2 hV => ?_⟩
    have s2 : Same H H2 := fun b o e => b2 _ _ (s1 _ _ e) (ne_of_none e h1)
    have hV2 : ValAt K a (nw H H2) v y := ValAt.same (nw_gr (Gr.same s1)) _ _ hV
    obtain ⟨d2, hx2⟩ := hS2
    refine ⟨_, rfl, x, d2, _, rfl, hx2, scF_no (by decide +kernel) (by decide +kernel), x, l, l.length, rfl, ⟨d2, hx2⟩, hl1, List.getElem?_eq_none (Nat.le_refl _), ?_⟩
    refine ⟨_, rfl, y, v, rfl, ValAt.same nw_sub _ _ hV2, z2, z1, by omega, ?_⟩
    rcases h with ⟨p, hb, k⟩ | ⟨hg, k⟩
    · exact .inl ⟨p, hb, k.same s2⟩
    · refine .inr ⟨hg, .inr (.inr ⟨by omega, by omega, fun H3 s3 => ⟨_, rfl, ?_⟩⟩)⟩
      exact k H3 y (s2.trans s3) (ValAt.same (nw_same s3) _ _ hV2)
end
end G58.V



set_option Elab.async false
set_option linter.all false
set_option maxRecDepth 100000
set_option maxHeartbeats 4000000
/-! A list compared with an empty one. -/
namespace G58
open PySem PySem.Spec PyProof.Rows L2
def rNeNil (K : PySem.W.Frag) : R2 := fun x y H Q => ∃ p q xs, x = .ref p ∧ y = .ref q ∧ SqL K H p xs ∧ SqL K H q [] ∧ Q (.bl (!xs.isEmpty)) H
def rEqNil (K : PySem.W.Frag) : R2 := fun x y H Q => ∃ p q xs, x = .ref p ∧ y = .ref q ∧ SqL K H p xs ∧ SqL K H q [] ∧ Q (.bl xs.isEmpty) H
section
variable {X : Cx}
theorem op_neNil (hu : X.A.units < cLine) : OpR X (compareOp .NotEq) (rNeNil X.K) := by
  intro pins s σ H x y v u Q I rx ry h
  obtain ⟨p, q, xs, rfl, rfl, hp, hq, k⟩ := h
  cases rx
  cases ry
  obtain ⟨its, rv, hl, _⟩ := I.list hp
  obtain ⟨its2, rv2, hl2, _⟩ := I.list hq
  have e2 : its2 = [] := List.eq_nil_of_length_eq_zero (by rw [← rv2.length]; rfl)
  subst e2
  cases xs with
  | nil =>
    have e1 : its = [] := List.eq_nil_of_length_eq_zero (by rw [← rv.length]; rfl)
    subst e1
    exact SeqAt.RcNeAt.lists (e := fun _ => true) hl.isList hl2.isList rfl hu (fun j h1 _ => absurd h1 (by simp)) _ _ _ _ ⟨.bl _, H, I, rfl, k⟩
  | cons x xs =>
    refine SeqAt.RcNeAt.lists_lengths hl.isList hl2.isList ?_ hu _ _ _ _ ⟨.bl _, H, I, rfl, k⟩
    have : its.length = xs.length + 1 := by rw [← rv.length]; rfl
    simp [this]
theorem op_eqNil (hu : X.A.units < cLine) : OpR X (compareOp .Eq) (rEqNil X.K) := by
  intro pins s σ H x y v u Q I rx ry h
  obtain ⟨p, q, xs, rfl, rfl, hp, hq, k⟩ := h
  cases rx
  cases ry
  obtain ⟨its, rv, hl, _⟩ := I.list hp
  obtain ⟨its2, rv2, hl2, _⟩ := I.list hq
  have e2 : its2 = [] := List.eq_nil_of_length_eq_zero (by rw [← rv2.length]; rfl)
  subst e2
  cases xs with
  | nil =>
    have e1 : its = [] := List.eq_nil_of_length_eq_zero (by rw [← rv.length]; rfl)
    subst e1
    exact SeqAt.RcAt.lists (e := fun _ => true) hl.isList hl2.isList rfl hu (fun j h1 _ => absurd h1 (by simp)) _ _ _ _ ⟨.bl _, H, I, rfl, k⟩
  | cons x xs =>
    refine SeqAt.RcAt.lists_lengths hl.isList hl2.isList ?_ hu _ _ _ _ ⟨.bl _, H, I, rfl, k⟩
    have : its.length = xs.length + 1 := by rw [← rv.length]; rfl
    simp [this]
end
end G58

set_option Elab.async false
set_option linter.all false
set_option maxRecDepth 100000
set_option maxHeartbeats 4000000
/-! Rules: texts. -/
namespace G58.V
open PySem PySem.Spec PyProof.Rows L2
theorem pe_addT {X : Cx} {r : R2} (ho : OpR X (binaryOp .Add) r) {c : Str} {j : Nat} {cp pos : Pos} {f : Expr} {tf : TE} (hf : PET X f tf) : PE X (.BinOp (.Constant (.str c) j cp) .Add f pos) (tOp r (tC (.str c)) tf) := by
  refine ⟨fun pins s σ H Q I h => ?_⟩
  refine wpAny_BinOp (Calls.Constant_str ?_)
  exact thn (hf pins { s with toks := s.toks + 1 } σ H _ (by show 1 ≤ s.toks + 1; omega) (I.tok _) h) fun u s2 ⟨y, H2, I2, r2, q2⟩ => ho pins s2 σ H2 (.str c) y (.str c s.toks) u Q I2 ⟨_, rfl⟩ r2 q2
/-- a text, n times -/
theorem op_mulS {X : Cx} : OpR X (binaryOp .Mult) (fun x y H Q => ∃ z n, x = V.str z ∧ y = V.int n ∧ MulOk z n ∧ Q (V.str (PySem.Txt.mul z n)) H) := by
  intro pins s σ H x y v u Q I rx ry h
  obtain ⟨z, n, rfl, rfl, hok, q⟩ := h
  obtain ⟨t, rfl⟩ := rx
  obtain ⟨t', rfl⟩ := ry
  exact SB.mul hok fun t2 k => ⟨.str _, H, I.tok _, ⟨t2, rfl⟩, q⟩
theorem call_str_bool {X : Cx} : CallR X (.type "str") (fun xs H Q => ∃ b, xs = [.bl b] ∧ Q (.str (if b then "True" else "False")) H) := by
  intro pins s σ H xs us Q I r h
  obtain ⟨b, rfl, q⟩ := h
  obtain ⟨u, rfl, r1⟩ := vals1 r
  cases r1
  exact PySem.P.str_of_bool ⟨.str _, H, I.tok _, ⟨_, rfl⟩, q⟩
end G58.V

set_option Elab.async false
set_option linter.all false
set_option maxRecDepth 100000
set_option maxHeartbeats 4000000
/-! Plain: texts of values, and that they are read back: leaves. -/
namespace G58.V
open PySem PySem.Spec PyProof.Rows L2 NumText
/-- the figures of a number -/
def dcN (n : Nat) : List Nat := (Nat.toDigits 10 n).map Char.toNat
def dcI (i : Int) : List Nat := if i < 0 then 45 :: dcN i.natAbs else dcN i.natAbs
def hexD (k : Nat) : Nat := hexL.getD k 0
def hexB (u : Nat) : List Nat := [hexD (u / 16), hexD (u % 16)]
def hexU (u : Nat) : List Nat := hexB (u / 256) ++ hexB (u % 256)
def esc1 (c : Nat) : List Nat := if c = 34 ∨ c = 92 then [92, c] else [c]
def escK (k : List Nat) : List Nat := k.flatMap esc1
def quo (k : List Nat) : List Nat := 34 :: (escK k ++ [34])
abbrev natsI (ns : List Int) : List Nat := ns.map Int.toNat
def wrL : Lf → List Nat
  | .non => [110, 117, 108, 108]
  | .bl true => [116, 114, 117, 101]
  | .bl false => [102, 97, 108, 115, 101]
  | .int i => dcI i
  | .str z => quo z.cps.toList
  | .thg .u (.num n) => 117 :: dcN n.toNat
  | .thg .w (.row ns) => 119 :: (natsI ns).flatMap hexU
  | .thg .d (.row ns) => 100 :: (natsI ns).flatMap hexB
  | .thg .r (.row ns) => 114 :: (natsI ns).flatMap hexB
  | .thg .t (.row ns) => 116 :: (natsI ns).flatMap hexB
  | _ => []
/-- a leaf that can be written -/
def TxL : Lf → Prop
  | .int i => i.natAbs < 100000000000000000000
  | .thg .u (.num n) => 0 ≤ n ∧ n < 100000000000000000000
  | .thg .w (.row ns) => (∀ n ∈ ns, 0 ≤ n ∧ n ≤ 65535) ∧ ns ≠ []
  | .thg .d (.row ns) => ∀ n ∈ ns, 0 ≤ n ∧ n ≤ 255
  | .thg .r (.row ns) => (∀ n ∈ ns, 0 ≤ n ∧ n ≤ 255) ∧ (ns.length = 4 ∨ ns.length = 8)
  | .thg .t (.row ns) => (∀ n ∈ ns, 0 ≤ n ∧ n ≤ 255) ∧ ns.length = 8
  | .thg _ _ => False
  | _ => True
/-- what is read -/
def uvL : Lf → Val
  | .thg .u (.num n) => if n ≤ 18446744073709551615 then .leaf (.thg .u (.num n)) else .odd
  | .thg .w (.row ns) => if (natsI ns).all plainC = true then .odd else .leaf (.thg .w (.row ns))
  | l => .leaf l
/-- what stands behind a value -/
def Ends (post : List Nat) : Prop := post = [] ∨ ∃ c r, post = c :: r ∧ (c = 44 ∨ c = 93 ∨ c = 125)
theorem Ends.at0 {post : List Nat} (h : Ends post) {c : Nat} (e : post[0]? = some c) : c = 44 ∨ c = 93 ∨ c = 125 := by
  rcases h with rfl | ⟨d, r, rfl, h⟩
  · cases e
  · cases e
    exact h
theorem at_pre (pre : List Nat) (c : Nat) (post : List Nat) : (pre ++ c :: post)[pre.length]? = some c := by simp
theorem at_len {pre post : List Nat} : (pre ++ post)[pre.length]? = post[0]? := by
  rw [List.getElem?_append_right (Nat.le_refl _), Nat.sub_self]
/-! ### figures -/
theorem dc_dgt (n : Nat) : ∀ c ∈ dcN n, dgt c = true := fun c hc => by
  obtain ⟨ch, hch, e⟩ := List.mem_map.mp hc
  have r := digit_range (Nat.isDigit_of_mem_toDigits (by decide) (by decide) hch)
  rw [← e]
  exact decide_eq_true r
theorem dc_len {n : Nat} (h : n < 100000000000000000000) : (dcN n).length ≤ 20 := by
  unfold dcN
  rw [List.length_map]
  exact digits10_le (by decide) h
theorem dc_ne (n : Nat) : 0 < (dcN n).length := by
  unfold dcN
  rw [List.length_map]
  exact tDigits_len_ge 10 n
theorem dc_val (n : Nat) : digitsVal (dcN n) = n := PySem.W.KIN.val_back n
theorem dc_small {n : Nat} (h : n < 10) : dcN n = [48 + n] := by
  unfold dcN
  rw [Nat.toDigits_of_lt_base h]
  have : ∀ m : Nat, m < 10 → (Nat.digitChar m).toNat = 48 + m := by decide
  show [(Nat.digitChar n).toNat] = _
  rw [this n h]
theorem dc_app {n : Nat} (h : 10 ≤ n) : dcN n = dcN (n / 10) ++ dcN (n % 10) := by
  have hm : n % 10 < 10 := Nat.mod_lt n (by decide)
  have t : Nat.toDigits 10 (n / 10) ++ Nat.toDigits 10 (n % 10) = Nat.toDigits 10 (10 * (n / 10) + n % 10) := Nat.toDigits_append_toDigits (by decide) (by omega) hm
  rw [Nat.div_add_mod] at t
  unfold dcN
  rw [← t, List.map_append]
theorem dc_head (n : Nat) : 0 < n → (dcN n)[0]? ≠ some 48 := by
  induction n using Nat.strongRecOn with
  | _ n ih =>
    intro h0
    by_cases h : n < 10
    · rw [dc_small h]
      intro e
      have := Option.some.inj e
      omega
    · rw [dc_app (by omega), List.getElem?_append_left (dc_ne _)]
      exact ih (n / 10) (by omega) (by omega)
theorem dc_0 (n : Nat) : (dcN n)[0]? = some 48 → (dcN n).length = 1 := fun h => by
  by_cases c : n = 0
  · subst c
    rfl
  · exact absurd h (dc_head n (by omega))
theorem digF_num {pre ds post : List Nat} (hd : ∀ c ∈ ds, dgt c = true) (hl : ds.length ≤ 20) (h0 : ds[0]? = some 48 → ds.length = 1) (hp : ∀ c, post[0]? = some c → dgt c = false) : ∀ (m j f : Nat), ds.length - j = m → 1 ≤ j → j ≤ ds.length → m < f → digF (pre ++ (ds ++ post)) pre.length f (pre.length + j) = .inr (pre.length + ds.length)
  | m, j, 0, _, _, _, hf => absurd hf (Nat.not_lt_zero _)
  | 0, j, f + 1, hm, h1, h2, hf => by
    have ej : j = ds.length := by omega
    subst ej
    rw [digF]
    have e : (pre ++ (ds ++ post))[pre.length + ds.length]? = post[0]? := by
      rw [List.getElem?_append_right (by omega), Nat.add_sub_cancel_left, List.getElem?_append_right (Nat.le_refl _), Nat.sub_self]
    rw [e]
    cases q : post[0]? with
    | none => rfl
    | some c =>
      show (if dgt c = true then _ else Sum.inr (pre.length + ds.length)) = _
      rw [if_neg (by rw [hp c q]; decide)]
  | m + 1, j, f + 1, hm, h1, h2, hf => by
    have jl : j < ds.length := by omega
    have e : (pre ++ (ds ++ post))[pre.length + j]? = some ds[j] := by
      rw [List.getElem?_append_right (by omega), Nat.add_sub_cancel_left, List.getElem?_append_left jl, List.getElem?_eq_getElem jl]
    have e0 : (pre ++ (ds ++ post))[pre.length]? = ds[0]? := by
      rw [List.getElem?_append_right (Nat.le_refl _), Nat.sub_self, List.getElem?_append_left (by omega)]
    rw [digF, e]
    show (if dgt ds[j] = true then (if (pre ++ (ds ++ post))[pre.length]? = some 48 ∨ pre.length + j - pre.length = 20 then _ else digF _ _ f (pre.length + j + 1)) else _) = _
    rw [if_pos (hd _ (List.getElem_mem jl)), e0, if_neg]
    · exact digF_num hd hl h0 hp m (j + 1) f (by omega) (by omega) (by omega) (by omega)
    · rintro (q | q)
      · have := h0 q
        omega
      · omega
theorem figF_dc {pre post : List Nat} {n : Nat} (hn : n < 100000000000000000000) (hp : ∀ c, post[0]? = some c → dgt c = false) : figF (pre ++ (dcN n ++ post)) pre.length = some (pre.length + (dcN n).length, n) := by
  have h1 := dc_dgt n
  have h2 := dc_len hn
  have h3 := dc_0 n
  have h4 := dc_val n
  have lp := dc_ne n
  generalize dcN n = ds at *
  have e0 : (pre ++ (ds ++ post))[pre.length]? = some ds[0] := by
    rw [List.getElem?_append_right (Nat.le_refl _), Nat.sub_self, List.getElem?_append_left lp, List.getElem?_eq_getElem lp]
  have hd0 := h1 _ (List.getElem_mem lp)
  have hdf := digF_num (pre := pre) (post := post) h1 h2 h3 hp (ds.length - 1) 1 ((pre ++ (ds ++ post)).length + 1) rfl (Nat.le_refl _) lp (by rw [List.length_append, List.length_append]; omega)
  have ev : numV (pre ++ (ds ++ post)) pre.length (pre.length + ds.length) = n := by
    unfold numV
    rw [Nat.add_sub_cancel_left, List.drop_left, List.take_left, h4]
  unfold figF plcF
  rw [e0]
  simp only [hd0, if_true, hdf, ev]
theorem Ends.dgt {post : List Nat} (h : Ends post) : ∀ c, post[0]? = some c → dgt c = false := fun c e => by
  rcases h.at0 e with rfl | rfl | rfl <;> decide
theorem Ends.hex {post : List Nat} (h : Ends post) : isAt post hexL 0 = false := by
  unfold isAt
  cases e : post[0]? with
  | none => rfl
  | some c =>
    rcases h.at0 e with rfl | rfl | rfl <;> decide
/-! ### digits -/
def hxV (acc : Nat) (ds : List Nat) : Nat := ds.foldl (fun a c => 16 * a + hexL.idxOf c) acc
theorem hexF_run {post : List Nat} : ∀ {ds pre : List Nat} {acc : Nat}, (∀ c ∈ ds, c ∈ hexL) → hexF (pre ++ (ds ++ post)) ds.length pre.length acc = some (pre.length + ds.length, hxV acc ds)
  | [], pre, acc, _ => rfl
  | c :: ds, pre, acc, h => by
    have e : (pre ++ ((c :: ds) ++ post))[pre.length]? = some c := at_pre pre c (ds ++ post)
    show hexF (pre ++ ((c :: ds) ++ post)) (ds.length + 1) pre.length acc = _
    rw [hexF, e]
    show (if c ∈ hexL then hexF _ ds.length (pre.length + 1) (16 * acc + hexL.idxOf c) else none) = _
    rw [if_pos (h c (List.mem_cons_self ..))]
    have ih := hexF_run (post := post) (ds := ds) (pre := pre ++ [c]) (acc := 16 * acc + hexL.idxOf c) fun d hd => h d (List.mem_cons_of_mem _ hd)
    rw [List.length_append, List.append_assoc] at ih
    have ih : hexF (pre ++ ((c :: ds) ++ post)) ds.length (pre.length + 1) (16 * acc + hexL.idxOf c) = some (pre.length + 1 + ds.length, hxV (16 * acc + hexL.idxOf c) ds) := ih
    rw [ih]
    show some (pre.length + 1 + ds.length, hxV acc (c :: ds)) = some (pre.length + (ds.length + 1), hxV acc (c :: ds))
    congr 2
    omega
theorem hexD_mem : ∀ k : Nat, k < 16 → hexD k ∈ hexL := by decide
theorem hexD_idx : ∀ k : Nat, k < 16 → hexL.idxOf (hexD k) = k := by decide
theorem hexB_mem {u : Nat} (h : u < 256) : ∀ c ∈ hexB u, c ∈ hexL := fun c hc => by
  have : c = hexD (u / 16) ∨ c = hexD (u % 16) := by simpa [hexB] using hc
  rcases this with rfl | rfl
  · exact hexD_mem _ (by omega)
  · exact hexD_mem _ (by omega)
theorem hexB_val {u acc : Nat} (h : u < 256) : hxV acc (hexB u) = 256 * acc + u := by
  show 16 * (16 * acc + hexL.idxOf (hexD (u / 16))) + hexL.idxOf (hexD (u % 16)) = _
  rw [hexD_idx _ (by omega), hexD_idx _ (by omega)]
  omega
theorem hexU_mem {u : Nat} (h : u < 65536) : ∀ c ∈ hexU u, c ∈ hexL := fun c hc => (List.mem_append.mp hc).elim (hexB_mem (by omega) c) (hexB_mem (by omega) c)
theorem hexU_val {u : Nat} (h : u < 65536) : hxV 0 (hexU u) = u := by
  have : hxV 0 (hexU u) = hxV (hxV 0 (hexB (u / 256))) (hexB (u % 256)) := List.foldl_append ..
  rw [this, hexB_val (by omega), hexB_val (by omega)]
  omega
/-- a way to write a number in so many digits -/
structure Grp (g m : Nat) (f : Nat → List Nat) : Prop where
  len : ∀ u, (f u).length = g
  mem : ∀ u, u < m → ∀ c ∈ f u, c ∈ hexL
  val : ∀ u, u < m → hxV 0 (f u) = u
theorem grpB : Grp 2 256 hexB := ⟨fun _ => rfl, fun _ h => hexB_mem h, fun u h => by rw [hexB_val h]; omega⟩
theorem grpU : Grp 4 65536 hexU := ⟨fun _ => rfl, fun _ h => hexU_mem h, fun _ h => hexU_val h⟩
theorem hex_grp {g m : Nat} {f : Nat → List Nat} (G : Grp g m f) {pre post : List Nat} {u : Nat} (h : u < m) : hexF (pre ++ (f u ++ post)) g pre.length 0 = some (pre.length + g, u) := by
  have := hexF_run (post := post) (ds := f u) (pre := pre) (acc := 0) (G.mem u h)
  rw [G.len, G.val u h] at this
  exact this
theorem hxn_grp {g m : Nat} {f : Nat → List Nat} (G : Grp g m f) {post : List Nat} : ∀ {us pre : List Nat} {acc : List Nat}, (∀ u ∈ us, u < m) → hxnF (pre ++ (us.flatMap f ++ post)) g us.length pre.length acc = some (pre.length + (us.flatMap f).length, acc ++ us)
  | [], pre, acc, _ => by
    show some (pre.length, acc) = some (pre.length + 0, acc ++ [])
    rw [List.append_nil, Nat.add_zero]
  | u :: us, pre, acc, h => by
    have e1 := hex_grp G (pre := pre) (post := us.flatMap f ++ post) (h u (List.mem_cons_self ..))
    rw [List.flatMap_cons, List.append_assoc]
    show hxnF _ g (us.length + 1) pre.length acc = _
    rw [hxnF, e1]
    show hxnF _ g us.length (pre.length + g) (acc ++ [u]) = _
    have ih := hxn_grp G (post := post) (us := us) (pre := pre ++ f u) (acc := acc ++ [u]) fun v hv => h v (List.mem_cons_of_mem _ hv)
    rw [List.length_append, G.len, List.append_assoc] at ih
    rw [ih, List.length_append, G.len, List.append_assoc]
    congr 2
    omega
theorem flat_len {g m : Nat} {f : Nat → List Nat} (G : Grp g m f) : ∀ us : List Nat, (us.flatMap f).length = g * us.length
  | [] => rfl
  | u :: us => by
    rw [List.flatMap_cons, List.length_append, G.len, flat_len G us, List.length_cons, Nat.mul_succ]
    omega
theorem hxs_grp {g m : Nat} {f : Nat → List Nat} (G : Grp g m f) (hg : 0 < g) {post : List Nat} (hp : isAt post hexL 0 = false) : ∀ {us pre : List Nat} {acc : List Nat} {k : Nat}, (∀ u ∈ us, u < m) → us.length < k → hxsF (pre ++ (us.flatMap f ++ post)) g k pre.length acc = some (pre.length + (us.flatMap f).length, acc ++ us)
  | us, pre, acc, 0, _, hk => absurd hk (Nat.not_lt_zero _)
  | [], pre, acc, k + 1, _, _ => by
    have e : isAt (pre ++ (([] : List Nat).flatMap f ++ post)) hexL pre.length = false := by
      have : (pre ++ (([] : List Nat).flatMap f ++ post))[pre.length]? = post[0]? := at_len
      unfold isAt at hp ⊢
      rw [this]
      exact hp
    rw [hxsF, e]
    show some (pre.length, acc) = some (pre.length + 0, acc ++ [])
    rw [List.append_nil, Nat.add_zero]
  | u :: us, pre, acc, k + 1, h, hk => by
    have e1 := hex_grp G (pre := pre) (post := us.flatMap f ++ post) (h u (List.mem_cons_self ..))
    rw [List.flatMap_cons, List.append_assoc]
    have e : isAt (pre ++ (f u ++ (us.flatMap f ++ post))) hexL pre.length = true := by
      have l0 : 0 < (f u).length := by rw [G.len]; exact hg
      have : (pre ++ (f u ++ (us.flatMap f ++ post)))[pre.length]? = some (f u)[0] := by
        rw [at_len, List.getElem?_append_left l0, List.getElem?_eq_getElem l0]
      unfold isAt
      rw [this]
      exact decide_eq_true (G.mem u (h u (List.mem_cons_self ..)) _ (List.getElem_mem l0))
    rw [hxsF, e, if_pos rfl, e1]
    show hxsF _ g k (pre.length + g) (acc ++ [u]) = _
    have ih := hxs_grp G hg hp (us := us) (pre := pre ++ f u) (acc := acc ++ [u]) (k := k) (fun v hv => h v (List.mem_cons_of_mem _ hv)) (by rw [List.length_cons] at hk; omega)
    rw [List.length_append, G.len, List.append_assoc] at ih
    rw [ih, List.length_append, G.len, List.append_assoc]
    congr 2
    omega
end G58.V

set_option Elab.async false
set_option linter.all false
set_option maxRecDepth 100000
set_option maxHeartbeats 4000000
/-! Plain: texts of values, and that they are read back. -/
namespace G58.V
open PySem PySem.Spec PyProof.Rows L2 NumText
theorem keyF_esc : ∀ (k pre post acc : List Nat) (f : Nat), (escK k).length < f → keyF (pre ++ (escK k ++ 34 :: post)) f pre.length acc = .inr (pre.length + (escK k).length + 1, acc ++ k)
  | [], pre, post, acc, f, hf => by
    cases f with
    | zero => exact absurd hf (Nat.not_lt_zero _)
    | succ f =>
      have e : (pre ++ (escK [] ++ 34 :: post))[pre.length]? = some 34 := at_pre pre 34 post
      rw [keyF, e]
      show (if (34 : Nat) = 34 then Sum.inr (pre.length + 1, acc) else _) = _
      rw [if_pos rfl, List.append_nil]
      rfl
  | c :: k, pre, post, acc, f, hf => by
    cases f with
    | zero => exact absurd hf (Nat.not_lt_zero _)
    | succ f =>
      have ek : escK (c :: k) = esc1 c ++ escK k := rfl
      by_cases h : c = 34 ∨ c = 92
      · have e1 : esc1 c = [92, c] := if_pos h
        rw [ek, e1] at hf ⊢
        have el : pre ++ ([92, c] ++ escK k ++ 34 :: post) = pre ++ 92 :: c :: (escK k ++ 34 :: post) := by simp
        rw [el]
        have g1 : (pre ++ 92 :: c :: (escK k ++ 34 :: post))[pre.length]? = some 92 := at_pre _ _ _
        have g2 : (pre ++ 92 :: c :: (escK k ++ 34 :: post))[pre.length + 1]? = some c := by
          have := at_pre (pre ++ [92]) c (escK k ++ 34 :: post)
          rw [List.length_append, List.append_assoc] at this
          exact this
        have ih := keyF_esc k (pre ++ [92, c]) post (acc ++ [c]) f (by rw [List.length_append] at hf; simp only [List.length_cons, List.length_nil] at hf; omega)
        rw [keyF, g1]
        show (if (92 : Nat) = 34 then _ else if (92 : Nat) = 92 then (match (pre ++ 92 :: c :: (escK k ++ 34 :: post))[pre.length + 1]? with | some d => _ | none => _) else _) = _
        rw [if_neg (by decide), if_pos rfl, g2]
        show (if c = 34 ∨ c = 92 then keyF _ f (pre.length + 2) (acc ++ [c]) else _) = _
        rw [if_pos h]
        rw [List.length_append] at ih
        have el2 : pre ++ [92, c] ++ (escK k ++ 34 :: post) = pre ++ 92 :: c :: (escK k ++ 34 :: post) := by simp
        rw [el2] at ih
        have ih : keyF (pre ++ 92 :: c :: (escK k ++ 34 :: post)) f (pre.length + 2) (acc ++ [c]) = .inr (pre.length + 2 + (escK k).length + 1, acc ++ [c] ++ k) := ih
        rw [ih]
        congr 2
        · rw [List.length_append]
          simp only [List.length_cons, List.length_nil]
          omega
        · simp
      · have e1 : esc1 c = [c] := if_neg h
        rw [ek, e1] at hf ⊢
        have el : pre ++ ([c] ++ escK k ++ 34 :: post) = pre ++ c :: (escK k ++ 34 :: post) := by simp
        rw [el]
        have g1 : (pre ++ c :: (escK k ++ 34 :: post))[pre.length]? = some c := at_pre _ _ _
        have ih := keyF_esc k (pre ++ [c]) post (acc ++ [c]) f (by rw [List.length_append] at hf; simp only [List.length_cons, List.length_nil] at hf; omega)
        rw [keyF, g1]
        show (if c = 34 then _ else if c = 92 then _ else keyF _ f (pre.length + 1) (acc ++ [c])) = _
        rw [if_neg (fun q => h (.inl q)), if_neg (fun q => h (.inr q))]
        rw [List.length_append] at ih
        have el2 : pre ++ [c] ++ (escK k ++ 34 :: post) = pre ++ c :: (escK k ++ 34 :: post) := by simp
        rw [el2] at ih
        have ih : keyF (pre ++ c :: (escK k ++ 34 :: post)) f (pre.length + 1) (acc ++ [c]) = .inr (pre.length + 1 + (escK k).length + 1, acc ++ [c] ++ k) := ih
        rw [ih]
        congr 2
        · rw [List.length_append]
          simp only [List.length_cons, List.length_nil]
          omega
        · simp
theorem stgF_quo {pre post k : List Nat} : stgF (pre ++ (quo k ++ post)) pre.length = some (pre.length + (quo k).length, k) := by
  have el : pre ++ (quo k ++ post) = pre ++ 34 :: (escK k ++ 34 :: post) := by
    show pre ++ ((34 :: (escK k ++ [34])) ++ post) = _
    simp
  rw [el]
  unfold stgF
  rw [if_pos (at_pre _ _ _)]
  have := keyF_esc k (pre ++ [34]) post [] ((pre ++ 34 :: (escK k ++ 34 :: post)).length + 1) (by rw [List.length_append, List.length_cons, List.length_append]; omega)
  have hl1 : (pre ++ [34]).length = pre.length + 1 := by simp
  rw [hl1] at this
  have el2 : pre ++ [34] ++ (escK k ++ 34 :: post) = pre ++ 34 :: (escK k ++ 34 :: post) := by simp
  rw [el2] at this
  have this : keyF (pre ++ 34 :: (escK k ++ 34 :: post)) ((pre ++ 34 :: (escK k ++ 34 :: post)).length + 1) (pre.length + 1) [] = .inr (pre.length + 1 + (escK k).length + 1, [] ++ k) := this
  rw [this]
  show some (pre.length + 1 + (escK k).length + 1, [] ++ k) = some (pre.length + (34 :: (escK k ++ [34])).length, k)
  rw [List.length_cons, List.length_append, List.nil_append]
  congr 2
  simp only [List.length_cons, List.length_nil]
  omega
theorem expF_run {post : List Nat} : ∀ {g pre : List Nat}, expF (pre ++ (g ++ post)) g pre.length = some (pre.length + g.length)
  | [], pre => rfl
  | c :: g, pre => by
    have e : (pre ++ ((c :: g) ++ post))[pre.length]? = some c := at_pre pre c (g ++ post)
    rw [expF, if_pos e]
    have ih := expF_run (post := post) (g := g) (pre := pre ++ [c])
    rw [List.length_append, List.append_assoc] at ih
    have ih : expF (pre ++ ((c :: g) ++ post)) g (pre.length + 1) = some (pre.length + 1 + g.length) := ih
    rw [ih, List.length_cons]
    congr 1
    omega
theorem take2 {pre post : List Nat} {c d : Nat} : ((pre ++ c :: d :: post).drop pre.length).take 2 = [c, d] := by
  rw [List.drop_left]
  rfl
theorem vaF_let {l : List Nat} {n p c : Nat} (e : l[p]? = some c) (h1 : c ∈ [119, 100, 117, 114, 116]) (h2 : (l.drop p).take 2 ≠ [116, 114]) : vaF l (n + 1) p = ltdF l (p + 1) c := by
  have hh : c ≠ 34 ∧ c ≠ 91 ∧ c ≠ 123 ∧ c ≠ 110 ∧ c ≠ 102 := by
    simp only [List.mem_cons, List.not_mem_nil, or_false] at h1
    rcases h1 with rfl | rfl | rfl | rfl | rfl <;> decide
  obtain ⟨a1, a2, a3, a4, a5⟩ := hh
  have ne : ∀ {d : Nat}, c ≠ d → ¬ (l[p]? = some d) := fun {d} h q => h (Option.some.inj (e.symm.trans q))
  rw [vaF, if_neg (ne a1), if_neg (ne a2), if_neg (ne a3), if_neg (ne a4), if_neg (ne a5), if_neg h2, e]
  show (if c ∈ [119, 100, 117, 114, 116] then ltdF l (p + 1) c else _) = _
  rw [if_pos h1]
theorem vaF_num {l : List Nat} {n p c : Nat} (e : l[p]? = some c) (h : dgt c = true ∨ c = 45) : vaF l (n + 1) p = (sitF l p).map fun r => (r.1, .leaf (.int r.2)) := by
  have hc : c = 45 ∨ (48 ≤ c ∧ c ≤ 57) := h.elim (fun q => .inr (of_decide_eq_true q)) .inl
  have ne : ∀ {d : Nat}, c ≠ d → ¬ (l[p]? = some d) := fun {d} h q => h (Option.some.inj (e.symm.trans q))
  have h2 : (l.drop p).take 2 ≠ [116, 114] := fun q => by
    have pl := at_lt e
    rw [List.drop_eq_getElem_cons pl] at q
    have : l[p] = c := (List.getElem?_eq_some_iff.mp e).2
    rw [this] at q
    have : c = 116 := by
      rw [List.take_succ_cons] at q
      injection q
    omega
  rw [vaF, if_neg (ne (by omega)), if_neg (ne (by omega)), if_neg (ne (by omega)), if_neg (ne (by omega)), if_neg (ne (by omega)), if_neg h2, e]
  show (if c ∈ [119, 100, 117, 114, 116] then _ else _) = _
  rw [if_neg]
  simp only [List.mem_cons, List.not_mem_nil, or_false]
  omega
theorem nats_ints {ns : List Int} {m : Nat} (h : ∀ n ∈ ns, 0 ≤ n ∧ n ≤ (m : Int)) : intsL (natsI ns) = ns ∧ ∀ u ∈ natsI ns, u < m + 1 := by
  constructor
  · show ((ns.map Int.toNat).map fun n => ((n : Nat) : Int)) = ns
    rw [List.map_map]
    have : ∀ n ∈ ns, ((fun n : Nat => ((n : Nat) : Int)) ∘ Int.toNat) n = id n := fun n hn => Int.toNat_of_nonneg (h n hn).1
    rw [List.map_congr_left this, List.map_id]
  · intro u hu
    obtain ⟨n, hn, rfl⟩ := List.mem_map.mp hu
    have := h n hn
    omega
/-- a leaf's text is read back -/
theorem leaf_txt {pre post : List Nat} {l : Lf} {n : Nat} (h : TxL l) (hp : Ends post) : vaF (pre ++ (wrL l ++ post)) (n + 1) pre.length = some (pre.length + (wrL l).length, uvL l) := by
  have w0 : ∀ {c : Nat} {r : List Nat}, (pre ++ ((c :: r) ++ post))[pre.length]? = some c := fun {c r} => at_pre pre c (r ++ post)
  have lt : ∀ {c : Nat} {r : List Nat}, c ∈ [119, 100, 117, 114, 116] → (c = 116 → ∃ d r2, r = d :: r2 ∧ d ∈ hexL) → vaF (pre ++ ((c :: r) ++ post)) (n + 1) pre.length = ltdF ((pre ++ [c]) ++ (r ++ post)) (pre ++ [c]).length c := fun {c r} hc h2 => by
    have el : pre ++ [c] ++ (r ++ post) = pre ++ ((c :: r) ++ post) := by simp
    rw [vaF_let w0 hc ?_, el, List.length_append]
    · rfl
    · intro q
      rw [List.drop_left] at q
      have c0 : c = 116 := by
        rw [List.cons_append, List.take_succ_cons] at q
        injection q
      obtain ⟨d, r2, rfl, hd⟩ := h2 c0
      have : d = 114 := by
        rw [List.cons_append, List.cons_append, List.take_succ_cons, List.take_succ_cons] at q
        injection q with _ q
        injection q
      subst this
      exact absurd hd (by decide)
  have fin : ∀ {c : Nat} {r : List Nat}, (pre ++ [c]).length + r.length = pre.length + (c :: r).length := fun {c r} => by
    rw [List.length_append]
    show pre.length + 1 + r.length = pre.length + (r.length + 1)
    omega
  cases l with
  | non =>
    show vaF (pre ++ ([110, 117, 108, 108] ++ post)) (n + 1) pre.length = _
    have ne : ∀ {d : Nat}, 110 ≠ d → ¬ ((pre ++ ([110, 117, 108, 108] ++ post))[pre.length]? = some d) := fun {d} h q => h (Option.some.inj (w0.symm.trans q))
    rw [vaF, if_neg (ne (by decide)), if_neg (ne (by decide)), if_neg (ne (by decide)), if_pos w0, expF_run]
    rfl
  | bl b =>
    cases b with
    | true =>
      show vaF (pre ++ ([116, 114, 117, 101] ++ post)) (n + 1) pre.length = _
      have ne : ∀ {d : Nat}, 116 ≠ d → ¬ ((pre ++ ([116, 114, 117, 101] ++ post))[pre.length]? = some d) := fun {d} h q => h (Option.some.inj (w0.symm.trans q))
      rw [vaF, if_neg (ne (by decide)), if_neg (ne (by decide)), if_neg (ne (by decide)), if_neg (ne (by decide)), if_neg (ne (by decide)), if_pos (by rw [List.drop_left]; rfl), expF_run]
      rfl
    | false =>
      show vaF (pre ++ ([102, 97, 108, 115, 101] ++ post)) (n + 1) pre.length = _
      have ne : ∀ {d : Nat}, 102 ≠ d → ¬ ((pre ++ ([102, 97, 108, 115, 101] ++ post))[pre.length]? = some d) := fun {d} h q => h (Option.some.inj (w0.symm.trans q))
      rw [vaF, if_neg (ne (by decide)), if_neg (ne (by decide)), if_neg (ne (by decide)), if_neg (ne (by decide)), if_pos w0, expF_run]
      rfl
  | str z =>
    show vaF (pre ++ (quo z.cps.toList ++ post)) (n + 1) pre.length = _
    rw [vaF, if_pos (show (pre ++ (quo z.cps.toList ++ post))[pre.length]? = some 34 from w0 (r := escK z.cps.toList ++ [34])), stgF_quo]
    show some (pre.length + (quo z.cps.toList).length, Val.leaf (.str (strN z.cps.toList))) = _
    rw [strN_cps]
    rfl
  | int i =>
    have h : i.natAbs < 100000000000000000000 := h
    show vaF (pre ++ (dcI i ++ post)) (n + 1) pre.length = some (pre.length + (dcI i).length, .leaf (.int i))
    unfold dcI
    by_cases c : i < 0
    · rw [if_pos c]
      rw [vaF_num (c := 45) (w0 (r := dcN i.natAbs)) (.inr rfl)]
      unfold sitF
      rw [if_pos (w0 (r := dcN i.natAbs))]
      have el : pre ++ ((45 :: dcN i.natAbs) ++ post) = (pre ++ [45]) ++ (dcN i.natAbs ++ post) := by simp
      have hl : pre.length + 1 = (pre ++ [45]).length := by simp
      rw [el, hl, at_len, List.getElem?_append_left (dc_ne _), if_neg (dc_head _ (by omega)), figF_dc h hp.dgt]
      show some ((pre ++ [45]).length + (dcN i.natAbs).length, Val.leaf (.int (-((i.natAbs : Nat) : Int)))) = _
      rw [fin]
      congr 4
      omega
    · rw [if_neg c]
      have l0 := dc_ne i.natAbs
      have e0 : (pre ++ (dcN i.natAbs ++ post))[pre.length]? = some (dcN i.natAbs)[0] := by rw [at_len, List.getElem?_append_left l0, List.getElem?_eq_getElem l0]
      have d0 := dc_dgt i.natAbs _ (List.getElem_mem l0)
      rw [vaF_num e0 (.inl d0)]
      unfold sitF
      rw [e0, if_neg, figF_dc h hp.dgt]
      · show some (pre.length + (dcN i.natAbs).length, Val.leaf (.int ((i.natAbs : Nat) : Int))) = _
        congr 4
        omega
      · intro q
        rw [Option.some.inj q] at d0
        exact absurd d0 (by decide)
  | thg y f =>
    cases f with
    | num m =>
      cases y with
      | u =>
        have h : 0 ≤ m ∧ m < 100000000000000000000 := h
        show vaF (pre ++ ((117 :: dcN m.toNat) ++ post)) (n + 1) pre.length = some (pre.length + (117 :: dcN m.toNat).length, if m ≤ 18446744073709551615 then .leaf (.thg .u (.num m)) else .odd)
        rw [lt (by decide) (fun q => by cases q)]
        unfold ltdF
        rw [if_neg (by decide), if_neg (by decide), if_neg (by decide), if_neg (by decide), figF_dc (by omega) hp.dgt]
        show some ((pre ++ [117]).length + (dcN m.toNat).length, if m.toNat ≤ 18446744073709551615 then Val.leaf (.thg .u (.num ((m.toNat : Nat) : Int))) else .odd) = _
        rw [fin, Int.toNat_of_nonneg h.1]
        by_cases c : m ≤ 18446744073709551615
        · rw [if_pos c, if_pos (by omega)]
        · rw [if_neg c, if_neg (by omega)]
      | w => exact h.elim
      | d => exact h.elim
      | r => exact h.elim
      | t => exact h.elim
    | row ns =>
      cases y with
      | u => exact h.elim
      | w =>
        obtain ⟨h1, h2⟩ : (∀ n ∈ ns, 0 ≤ n ∧ n ≤ 65535) ∧ ns ≠ [] := h
        obtain ⟨q1, q2⟩ := nats_ints (m := 65535) h1
        show vaF (pre ++ ((119 :: (natsI ns).flatMap hexU) ++ post)) (n + 1) pre.length = some (pre.length + (119 :: (natsI ns).flatMap hexU).length, if (natsI ns).all plainC = true then .odd else .leaf (.thg .w (.row ns)))
        rw [lt (by decide) (fun q => by cases q)]
        unfold ltdF
        rw [if_pos rfl]
        cases hu : natsI ns with
        | nil => exact absurd (List.map_eq_nil_iff.mp hu) h2
        | cons u us =>
          rw [hu] at q1 q2
          have e1 := hex_grp grpU (pre := pre ++ [119]) (post := us.flatMap hexU ++ post) (q2 u (List.mem_cons_self ..))
          have ef : (u :: us).flatMap hexU ++ post = hexU u ++ (us.flatMap hexU ++ post) := by rw [List.flatMap_cons, List.append_assoc]
          rw [ef, e1]
          have e2 := hxs_grp grpU (by decide) hp.hex (us := us) (pre := (pre ++ [119]) ++ hexU u) (acc := [u]) (k := (pre ++ [119] ++ (hexU u ++ (us.flatMap hexU ++ post))).length + 1) (fun v hv => q2 v (List.mem_cons_of_mem _ hv)) (by
            have := flat_len grpU us
            simp only [List.length_append]
            omega)
          have hl : ((pre ++ [119]) ++ hexU u).length = (pre ++ [119]).length + 4 := by rw [List.length_append]; rfl
          rw [hl, List.append_assoc (pre ++ [119])] at e2
          show (hxsF (pre ++ [119] ++ (hexU u ++ (us.flatMap hexU ++ post))) 4 ((pre ++ [119] ++ (hexU u ++ (us.flatMap hexU ++ post))).length + 1) ((pre ++ [119]).length + 4) [u]).map _ = _
          rw [e2]
          show some ((pre ++ [119]).length + 4 + (us.flatMap hexU).length, if (u :: us).all plainC = true then Val.odd else Val.leaf (.thg .w (.row (intsL (u :: us))))) = _
          rw [q1]
          congr 2
          have ez : (hexU u ++ us.flatMap hexU).length = 4 + (us.flatMap hexU).length := by
            rw [List.length_append]
            rfl
          rw [List.flatMap_cons, ← fin, ez]
          omega
      | d =>
        have h : ∀ n ∈ ns, 0 ≤ n ∧ n ≤ 255 := h
        obtain ⟨q1, q2⟩ := nats_ints (m := 255) h
        show vaF (pre ++ ((100 :: (natsI ns).flatMap hexB) ++ post)) (n + 1) pre.length = some (pre.length + (100 :: (natsI ns).flatMap hexB).length, .leaf (.thg .d (.row ns)))
        rw [lt (by decide) (fun q => by cases q)]
        unfold ltdF
        rw [if_neg (by decide), if_neg (by decide), if_pos rfl, hxs_grp grpB (by decide) hp.hex q2 (by
          have := flat_len grpB (natsI ns)
          simp only [List.length_append]
          omega)]
        show some ((pre ++ [100]).length + ((natsI ns).flatMap hexB).length, Val.leaf (.thg .d (.row (intsL ([] ++ natsI ns))))) = _
        rw [List.nil_append, q1, fin]
      | r =>
        obtain ⟨h, h2⟩ : (∀ n ∈ ns, 0 ≤ n ∧ n ≤ 255) ∧ (ns.length = 4 ∨ ns.length = 8) := h
        obtain ⟨q1, q2⟩ := nats_ints (m := 255) h
        show vaF (pre ++ ((114 :: (natsI ns).flatMap hexB) ++ post)) (n + 1) pre.length = some (pre.length + (114 :: (natsI ns).flatMap hexB).length, .leaf (.thg .r (.row ns)))
        rw [lt (by decide) (fun q => by cases q)]
        unfold ltdF
        rw [if_neg (by decide), if_pos rfl]
        have hl : (natsI ns).length = ns.length := List.length_map ..
        have es : natsI ns = (natsI ns).take 4 ++ (natsI ns).drop 4 := (List.take_append_drop ..).symm
        have l4 : ((natsI ns).take 4).length = 4 := by rw [List.length_take]; omega
        have q3 : ∀ u ∈ (natsI ns).take 4, u < 256 := fun u hu => q2 u (List.mem_of_mem_take hu)
        have q4 : ∀ u ∈ (natsI ns).drop 4, u < 256 := fun u hu => q2 u (List.mem_of_mem_drop hu)
        have ef : (natsI ns).flatMap hexB ++ post = ((natsI ns).take 4).flatMap hexB ++ (((natsI ns).drop 4).flatMap hexB ++ post) := by
          rw [← List.append_assoc, ← List.flatMap_append, ← es]
        have e1 := hxn_grp grpB (post := ((natsI ns).drop 4).flatMap hexB ++ post) (us := (natsI ns).take 4) (pre := pre ++ [114]) (acc := []) q3
        rw [l4] at e1
        rw [ef, e1]
        have g1 := flat_len grpB ((natsI ns).take 4)
        rw [l4] at g1
        show (if isAt (pre ++ [114] ++ (((natsI ns).take 4).flatMap hexB ++ (((natsI ns).drop 4).flatMap hexB ++ post))) hexL ((pre ++ [114]).length + (((natsI ns).take 4).flatMap hexB).length) = true then _ else _) = _
        have hl2 : (pre ++ [114]).length + (((natsI ns).take 4).flatMap hexB).length = ((pre ++ [114]) ++ ((natsI ns).take 4).flatMap hexB).length := (List.length_append ..).symm
        rw [hl2, ← List.append_assoc (pre ++ [114])]
        have ff : (pre ++ [114] ++ ((natsI ns).take 4).flatMap hexB).length + (((natsI ns).drop 4).flatMap hexB).length = pre.length + (114 :: (natsI ns).flatMap hexB).length := by
          rw [List.length_append, ← fin, Nat.add_assoc, ← List.length_append, ← List.flatMap_append, ← es]
        rcases h2 with h2 | h2
        · have e0 : (natsI ns).drop 4 = [] := List.drop_eq_nil_of_le (by omega)
          rw [e0] at ff ⊢
          have ea : isAt (pre ++ [114] ++ ((natsI ns).take 4).flatMap hexB ++ (([] : List Nat).flatMap hexB ++ post)) hexL (pre ++ [114] ++ ((natsI ns).take 4).flatMap hexB).length = false := by
            have := hp.hex
            unfold isAt at this ⊢
            rw [at_len]
            exact this
          rw [ea]
          show some ((pre ++ [114] ++ ((natsI ns).take 4).flatMap hexB).length, Val.leaf (.thg .r (.row (intsL ([] ++ (natsI ns).take 4))))) = _
          have e4 : (natsI ns).take 4 = natsI ns := List.take_of_length_le (by omega)
          rw [List.nil_append]
          have ff2 : (pre ++ [114] ++ ((natsI ns).take 4).flatMap hexB).length = pre.length + (114 :: (natsI ns).flatMap hexB).length := ff
          rw [ff2, e4, q1]
        · have l8 : ((natsI ns).drop 4).length = 4 := by rw [List.length_drop]; omega
          have ea : isAt (pre ++ [114] ++ ((natsI ns).take 4).flatMap hexB ++ (((natsI ns).drop 4).flatMap hexB ++ post)) hexL (pre ++ [114] ++ ((natsI ns).take 4).flatMap hexB).length = true := by
            have l0 : 0 < (((natsI ns).drop 4).flatMap hexB).length := by rw [flat_len grpB, l8]; decide
            unfold isAt
            rw [at_len, List.getElem?_append_left l0, List.getElem?_eq_getElem l0]
            obtain ⟨u, hu, hc⟩ := List.mem_flatMap.mp (List.getElem_mem l0)
            exact decide_eq_true (hexB_mem (q4 u hu) _ hc)
          rw [ea, if_pos rfl]
          have e2 := hxn_grp grpB (post := post) (us := (natsI ns).drop 4) (pre := pre ++ [114] ++ ((natsI ns).take 4).flatMap hexB) (acc := []) q4
          rw [l8] at e2
          rw [e2]
          show some ((pre ++ [114] ++ ((natsI ns).take 4).flatMap hexB).length + (((natsI ns).drop 4).flatMap hexB).length, Val.leaf (.thg .r (.row (intsL (([] ++ (natsI ns).take 4) ++ ([] ++ (natsI ns).drop 4)))))) = _
          rw [List.nil_append, List.nil_append, ← es, ff, q1]
      | t =>
        obtain ⟨h, h2⟩ : (∀ n ∈ ns, 0 ≤ n ∧ n ≤ 255) ∧ ns.length = 8 := h
        obtain ⟨q1, q2⟩ := nats_ints (m := 255) h
        have hl : (natsI ns).length = 8 := by rw [List.length_map, h2]
        show vaF (pre ++ ((116 :: (natsI ns).flatMap hexB) ++ post)) (n + 1) pre.length = some (pre.length + (116 :: (natsI ns).flatMap hexB).length, .leaf (.thg .t (.row ns)))
        rw [lt (by decide) (fun _ => by
          cases hu : natsI ns with
          | nil => rw [hu] at hl; cases hl
          | cons u us => exact ⟨hexD (u / 16), hexD (u % 16) :: us.flatMap hexB, rfl, hexD_mem _ (by have := q2 u (by rw [hu]; exact List.mem_cons_self ..); omega)⟩)]
        unfold ltdF
        have e2 := hxn_grp grpB (post := post) (us := natsI ns) (pre := pre ++ [116]) (acc := []) q2
        rw [hl] at e2
        rw [if_neg (by decide), if_neg (by decide), if_neg (by decide), if_pos rfl, e2]
        show some ((pre ++ [116]).length + ((natsI ns).flatMap hexB).length, Val.leaf (.thg .t (.row (intsL ([] ++ natsI ns))))) = _
        rw [List.nil_append, q1, fin]
end G58.V

set_option Elab.async false
set_option linter.all false
set_option maxRecDepth 100000
set_option maxHeartbeats 4000000
/-! Plain: texts of values, and that they are read back: lists, dictionaries. -/
namespace G58.V
open PySem PySem.Spec PyProof.Rows L2 NumText
/-- texts in a row, commas between them -/
def txC : List (List Nat) → List Nat
  | [] => []
  | t :: r => t ++ r.flatMap fun u => 44 :: u
def mbr (k : Str) (t : List Nat) : List Nat := quo k.cps.toList ++ 58 :: t
def tupT : List V → List Nat
  | [_, .str z] => z.cps.toList
  | _ => []
/-- texts that write no value, as leaves that are none -/
def unfL : List Lf := [.thg .u (.num 18446744073709551616), .thg .u (.num 99999999999999999999), .int 18446744073709551616, .int (-9223372036854775809), .int 99999999999999999999, .thg .w (.row [65]), .thg .w (.row [32, 32, 126]), .thg .w (.row [97]),
  .int (-99999999999999999999), .thg .u (.num 20000000000000000000), .int (-18446744073709551615), .thg .w (.row [38]), .thg .w (.row [90, 90, 90, 90, 90])]
def uvT : List V → Val
  | [_, .str z] => match unfL.find? fun l => decide (wrL l = z.cps.toList) with
    | some l => uvL l
    | none => .odd
  | _ => .odd
mutual
/-- the text of a tree, its keys as they stand -/
def txV : Val → List Nat
  | .leaf l => wrL l
  | .lst vs => 91 :: (txC (txVs vs) ++ [93])
  | .dic ks vs => 123 :: (txC (List.zipWith mbr ks (txVs vs)) ++ [125])
  | .tup xs => tupT xs
  | .odd => []
def txVs : List Val → List (List Nat)
  | [] => []
  | v :: r => txV v :: txVs r
end
mutual
/-- what is read -/
def uvV : Val → Val
  | .leaf l => uvL l
  | .lst vs => .lst (uvVs vs)
  | .dic ks vs => .dic ks (uvVs vs)
  | .tup xs => uvT xs
  | .odd => .odd
def uvVs : List Val → List Val
  | [] => []
  | v :: r => uvV v :: uvVs r
end
def TrT (xs : List V) : Prop := ∃ a z l, xs = [a, .str z] ∧ l ∈ unfL ∧ wrL l = z.cps.toList
mutual
/-- a tree that can be written -/
def TrV : Val → Prop
  | .leaf l => TxL l
  | .lst vs => TrVs vs
  | .dic ks vs => ks.length = vs.length ∧ ks.Nodup ∧ TrVs vs
  | .tup xs => TrT xs
  | .odd => False
def TrVs : List Val → Prop
  | [] => True
  | v :: r => TrV v ∧ TrVs r
end
theorem txVs_map : ∀ vs : List Val, txVs vs = vs.map txV
  | [] => by unfold txVs; rfl
  | v :: r => by
    unfold txVs
    rw [txVs_map r]
    rfl
theorem uvVs_map : ∀ vs : List Val, uvVs vs = vs.map uvV
  | [] => by unfold uvVs; rfl
  | v :: r => by
    unfold uvVs
    rw [uvVs_map r]
    rfl
theorem TrVs_all : ∀ {vs : List Val}, TrVs vs ↔ ∀ v ∈ vs, TrV v
  | [] => by unfold TrVs; exact ⟨fun _ v hv => (nomatch hv), fun _ => trivial⟩
  | v :: r => by
    unfold TrVs
    rw [TrVs_all (vs := r)]
    exact ⟨fun h u hu => (List.mem_cons.mp hu).elim (fun e => e ▸ h.1) (h.2 u), fun h => ⟨h v (List.mem_cons_self ..), fun u hu => h u (List.mem_cons_of_mem _ hu)⟩⟩
theorem unf_tx : ∀ l ∈ unfL, TxL l := by
  intro l hl
  simp only [unfL, List.mem_cons, List.not_mem_nil, or_false] at hl
  rcases hl with rfl | rfl | rfl | rfl | rfl | rfl | rfl | rfl | rfl | rfl | rfl | rfl | rfl
  · exact ⟨by decide, by decide⟩
  · exact ⟨by decide, by decide⟩
  · exact (by decide : (18446744073709551616 : Int).natAbs < 100000000000000000000)
  · exact (by decide : (-9223372036854775809 : Int).natAbs < 100000000000000000000)
  · exact (by decide : (99999999999999999999 : Int).natAbs < 100000000000000000000)
  · exact ⟨by decide, by decide⟩
  · exact ⟨by decide, by decide⟩
  · exact ⟨by decide, by decide⟩
  · exact (by decide : (-99999999999999999999 : Int).natAbs < 100000000000000000000)
  · exact ⟨by decide, by decide⟩
  · exact (by decide : (-18446744073709551615 : Int).natAbs < 100000000000000000000)
  · exact ⟨by decide, by decide⟩
  · exact ⟨by decide, by decide⟩
theorem uvT_of {xs : List V} (h : TrT xs) : ∃ l ∈ unfL, tupT xs = wrL l ∧ uvT xs = uvL l := by
  obtain ⟨a, z, l, rfl, hl, e⟩ := h
  cases hf : unfL.find? fun l => decide (wrL l = z.cps.toList) with
  | none => exact absurd (decide_eq_true e) (by simpa using List.find?_eq_none.mp hf l hl)
  | some l' =>
    refine ⟨l', List.mem_of_find?_eq_some hf, ?_, ?_⟩
    · have := List.find?_some hf
      exact (of_decide_eq_true this).symm
    · show (match unfL.find? fun l => decide (wrL l = z.cps.toList) with | some l => uvL l | none => Val.odd) = _
      rw [hf]
/-- it is read back wherever it stands -/
def RD (n : Nat) (v : Val) : Prop := ∀ (L pre post : List Nat), L = pre ++ (txV v ++ post) → Ends post → vaF L n pre.length = some (pre.length + (txV v).length, uvV v)
abbrev gC (v : Val) : List Nat := 44 :: txV v
theorem ends_flat {vs : List Val} {c : Nat} {post : List Nat} (hc : c = 93 ∨ c = 125) : Ends (vs.flatMap gC ++ c :: post) := by
  cases vs with
  | nil => exact .inr ⟨c, post, rfl, .inr hc⟩
  | cons v r => exact .inr ⟨44, txV v ++ (r.flatMap gC ++ c :: post), by simp [gC], .inl rfl⟩
theorem at_at {L pre post : List Nat} {c : Nat} (h : L = pre ++ c :: post) : L[pre.length]? = some c := by
  rw [h]
  exact at_pre _ _ _
theorem lsn_read {n : Nat} {L post : List Nat} : ∀ {vs : List Val} {pre : List Nat} {acc : List Val} {f : Nat}, (∀ v ∈ vs, RD n v) → vs.length < f → L = pre ++ (vs.flatMap gC ++ 93 :: post) → lsnF L (vaF L n) f pre.length acc = some (pre.length + (vs.flatMap gC).length + 1, .lst (acc ++ vs.map uvV))
  | vs, pre, acc, 0, _, hf, _ => absurd hf (Nat.not_lt_zero _)
  | [], pre, acc, f + 1, _, _, hL => by
    have e : L[pre.length]? = some 93 := at_at hL
    rw [lsnF, e, if_neg (by decide), if_pos rfl]
    show some (pre.length + 1, Val.lst acc) = some (pre.length + 0 + 1, Val.lst (acc ++ []))
    rw [List.append_nil, Nat.add_zero]
  | v :: vs, pre, acc, f + 1, h, hf, hL => by
    have h1 : L = (pre ++ [44]) ++ (txV v ++ (vs.flatMap gC ++ 93 :: post)) := by rw [hL]; simp [gC]
    have h2 : L = (pre ++ 44 :: txV v) ++ (vs.flatMap gC ++ 93 :: post) := by rw [hL]; simp [gC]
    have e : L[pre.length]? = some 44 := at_at (post := txV v ++ (vs.flatMap gC ++ 93 :: post)) (by rw [hL]; simp [gC])
    have e1 := h v (List.mem_cons_self ..) L (pre ++ [44]) _ h1 (ends_flat (.inl rfl))
    have l1 : (pre ++ [44]).length = pre.length + 1 := by simp
    have l2 : (pre ++ 44 :: txV v).length = pre.length + 1 + (txV v).length := by
      rw [List.length_append, List.length_cons]
      omega
    rw [l1] at e1
    rw [lsnF, e, if_pos rfl, e1]
    show lsnF L (vaF L n) f (pre.length + 1 + (txV v).length) (acc ++ [uvV v]) = _
    rw [← l2, lsn_read (vs := vs) (fun u hu => h u (List.mem_cons_of_mem _ hu)) (by rw [List.length_cons] at hf; omega) h2, l2, List.flatMap_cons, List.length_append, List.append_assoc]
    show some (pre.length + 1 + (txV v).length + (vs.flatMap gC).length + 1, _) = some (pre.length + ((txV v).length + 1 + (vs.flatMap gC).length) + 1, _)
    congr 2
    omega
abbrev gM (r : Str × Val) : List Nat := 44 :: mbr r.1 (txV r.2)
theorem ends_flatM {rs : List (Str × Val)} {c : Nat} {post : List Nat} (hc : c = 93 ∨ c = 125) : Ends (rs.flatMap gM ++ c :: post) := by
  cases rs with
  | nil => exact .inr ⟨c, post, rfl, .inr hc⟩
  | cons v r => exact .inr ⟨44, mbr v.1 (txV v.2) ++ (r.flatMap gM ++ c :: post), by simp [gM], .inl rfl⟩
theorem mem_read {n : Nat} {L pre post : List Nat} {k : Str} {v : Val} {ks : List Str} (h : RD n v) (hk : k ∉ ks) (hL : L = pre ++ (mbr k (txV v) ++ post)) (hp : Ends post) : memF L (vaF L n) pre.length ks = some (pre.length + (mbr k (txV v)).length, k, uvV v) := by
  have h1 : L = pre ++ (quo k.cps.toList ++ (58 :: (txV v ++ post))) := by rw [hL]; unfold mbr; simp
  have h2 : L = (pre ++ quo k.cps.toList) ++ 58 :: (txV v ++ post) := by rw [h1]; simp
  have h3 : L = (pre ++ quo k.cps.toList ++ [58]) ++ (txV v ++ post) := by rw [h1]; simp
  have e0 : stgF L pre.length = some (pre.length + (quo k.cps.toList).length, k.cps.toList) := by
    rw [h1]
    exact stgF_quo
  have e1 : L[(pre ++ quo k.cps.toList).length]? = some 58 := at_at h2
  rw [List.length_append] at e1
  have e2 := h L _ _ h3 hp
  have l3 : (pre ++ quo k.cps.toList ++ [58]).length = pre.length + (quo k.cps.toList).length + 1 := by
    rw [List.length_append, List.length_append]
    rfl
  rw [l3] at e2
  unfold memF
  rw [e0]
  show (if strN k.cps.toList ∈ ks then none else if L[pre.length + (quo k.cps.toList).length]? = some 58 then (vaF L n (pre.length + (quo k.cps.toList).length + 1)).map fun r => (r.1, strN k.cps.toList, r.2) else none) = _
  rw [strN_cps, if_neg hk, if_pos e1, e2]
  show some (pre.length + (quo k.cps.toList).length + 1 + (txV v).length, k, uvV v) = some (pre.length + (quo k.cps.toList ++ 58 :: txV v).length, k, uvV v)
  rw [List.length_append, List.length_cons]
  congr 2
  omega
theorem dcn_read {n : Nat} {L post : List Nat} : ∀ {rs : List (Str × Val)} {pre : List Nat} {ks : List Str} {vs : List Val} {f : Nat}, (∀ r ∈ rs, RD n r.2) → (ks ++ rs.map Prod.fst).Nodup → rs.length < f → L = pre ++ (rs.flatMap gM ++ 125 :: post) → dcnF L (vaF L n) f pre.length ks vs = some (pre.length + (rs.flatMap gM).length + 1, .dic (ks ++ rs.map Prod.fst) (vs ++ rs.map fun r => uvV r.2))
  | rs, pre, ks, vs, 0, _, _, hf, _ => absurd hf (Nat.not_lt_zero _)
  | [], pre, ks, vs, f + 1, _, _, _, hL => by
    have e : L[pre.length]? = some 125 := at_at hL
    rw [dcnF, e, if_neg (by decide), if_pos rfl]
    show some (pre.length + 1, Val.dic ks vs) = some (pre.length + 0 + 1, Val.dic (ks ++ []) (vs ++ []))
    rw [List.append_nil, List.append_nil, Nat.add_zero]
  | (k, v) :: rs, pre, ks, vs, f + 1, h, hn, hf, hL => by
    have h1 : L = (pre ++ [44]) ++ (mbr k (txV v) ++ (rs.flatMap gM ++ 125 :: post)) := by rw [hL]; simp [gM]
    have h2 : L = (pre ++ 44 :: mbr k (txV v)) ++ (rs.flatMap gM ++ 125 :: post) := by rw [hL]; simp [gM]
    have e : L[pre.length]? = some 44 := at_at (post := mbr k (txV v) ++ (rs.flatMap gM ++ 125 :: post)) (by rw [hL]; simp [gM])
    have hk : k ∉ ks := fun q => by
      have := (List.nodup_append.mp hn).2.2 k q k (List.mem_cons_self ..)
      exact this rfl
    have e1 := mem_read (h (k, v) (List.mem_cons_self ..)) hk h1 (ends_flatM (.inr rfl))
    have l1 : (pre ++ [44]).length = pre.length + 1 := by simp
    have l2 : (pre ++ 44 :: mbr k (txV v)).length = pre.length + 1 + (mbr k (txV v)).length := by
      rw [List.length_append, List.length_cons]
      omega
    rw [l1] at e1
    rw [dcnF, e, if_pos rfl, e1]
    show dcnF L (vaF L n) f (pre.length + 1 + (mbr k (txV v)).length) (ks ++ [k]) (vs ++ [uvV v]) = _
    have hn2 : ((ks ++ [k]) ++ rs.map Prod.fst).Nodup := by
      rw [List.append_assoc]
      exact hn
    rw [← l2, dcn_read (rs := rs) (fun u hu => h u (List.mem_cons_of_mem _ hu)) hn2 (by rw [List.length_cons] at hf; omega) h2, l2, List.flatMap_cons, List.length_append, List.append_assoc, List.append_assoc]
    show some (pre.length + 1 + (mbr k (txV v)).length + (rs.flatMap gM).length + 1, _) = some (pre.length + ((mbr k (txV v)).length + 1 + (rs.flatMap gM).length) + 1, _)
    congr 2
    omega
theorem flat_txVs (vs : List Val) : (vs.map txV).flatMap (fun u => 44 :: u) = vs.flatMap gC := by
  rw [List.flatMap_map]
theorem zip_mbr : ∀ (ks : List Str) (vs : List Val), List.zipWith mbr ks (vs.map txV) = (ks.zip vs).map fun r => mbr r.1 (txV r.2)
  | [], vs => rfl
  | k :: ks, [] => rfl
  | k :: ks, v :: vs => by
    show mbr k (txV v) :: List.zipWith mbr ks (vs.map txV) = _
    rw [zip_mbr ks vs]
    rfl
theorem flat_mbr (rs : List (Str × Val)) : (rs.map fun r => mbr r.1 (txV r.2)).flatMap (fun u => 44 :: u) = rs.flatMap gM := by
  rw [List.flatMap_map]
theorem len_flat {α : Type} {g : α → List Nat} (hg : ∀ a, 0 < (g a).length) : ∀ l : List α, l.length ≤ (l.flatMap g).length
  | [] => Nat.le_refl _
  | a :: l => by
    rw [List.flatMap_cons, List.length_append, List.length_cons]
    have := len_flat hg l
    have := hg a
    omega
theorem depth_mem {vs : List Val} {v : Val} (h : v ∈ vs) : 1 + depthV v ≤ depthVs vs := by
  obtain ⟨i, hi⟩ := List.getElem?_of_mem h
  exact depth_at hi
theorem tx_read : ∀ (n : Nat) (v : Val), TrV v → depthV v < n → RD n v
  | 0, v, _, hd => absurd hd (Nat.not_lt_zero _)
  | n + 1, v, ht, hd => by
    intro L pre post hL hp
    cases v with
    | leaf l =>
      unfold TrV at ht
      unfold txV at hL ⊢
      unfold uvV
      rw [hL]
      exact leaf_txt ht hp
    | tup xs =>
      unfold TrV at ht
      unfold txV at hL ⊢
      unfold uvV
      obtain ⟨l, hl, e1, e2⟩ := uvT_of ht
      rw [e1] at hL ⊢
      rw [hL, e2]
      exact leaf_txt (unf_tx l hl) hp
    | odd =>
      unfold TrV at ht
      exact ht.elim
    | lst vs =>
      unfold TrV at ht
      unfold depthV at hd
      have hr : ∀ v ∈ vs, RD n v := fun u hu => tx_read n u (TrVs_all.mp ht u hu) (by have := depth_mem hu; omega)
      unfold uvV
      rw [uvVs_map]
      have et : txV (.lst vs) = 91 :: (txC (txVs vs) ++ [93]) := by rw [txV]
      rw [txVs_map] at et
      rw [et] at hL ⊢
      have e0 : L[pre.length]? = some 91 := at_at (post := (txC (vs.map txV) ++ [93]) ++ post) (by rw [hL]; simp)
      rw [vaF, e0, if_neg (by decide), if_pos rfl]
      unfold lstF
      rw [if_pos e0]
      have l1 : (pre ++ [91]).length = pre.length + 1 := by simp
      cases vs with
      | nil =>
        have e1 : L[(pre ++ [91]).length]? = some 93 := at_at (post := post) (by rw [hL]; simp [txC])
        rw [l1] at e1
        rw [if_pos e1]
        rfl
      | cons u us =>
        have h1 : L = (pre ++ [91]) ++ (txV u ++ (us.flatMap gC ++ 93 :: post)) := by
          rw [hL, List.map_cons]
          show pre ++ ((91 :: ((txV u ++ (us.map txV).flatMap (fun u => 44 :: u)) ++ [93])) ++ post) = _
          rw [flat_txVs]
          simp
        have e1 : L[pre.length + 1]? ≠ some 93 := fun q => by
          have q2 := hr u (List.mem_cons_self ..) L (pre ++ [91]) _ h1 (ends_flat (.inl rfl))
          rw [l1] at q2
          cases n with
          | zero => cases q2
          | succ n =>
            rw [vaF, q] at q2
            have : (L.drop (pre.length + 1)).take 2 ≠ [116, 114] := fun z => by
              have pl := at_lt q
              rw [List.drop_eq_getElem_cons pl, List.take_succ_cons] at z
              injection z with z1 _
              have : L[pre.length + 1] = 93 := (List.getElem?_eq_some_iff.mp q).2
              rw [this] at z1
              cases z1
            rw [if_neg (by decide), if_neg (by decide), if_neg (by decide), if_neg (by decide), if_neg (by decide), if_neg this] at q2
            have q2 : (if 93 ∈ [119, 100, 117, 114, 116] then ltdF L (pre.length + 1 + 1) 93 else (sitF L (pre.length + 1)).map fun r => (r.1, Val.leaf (.int r.2))) = some (pre.length + 1 + (txV u).length, uvV u) := q2
            rw [if_neg (by decide)] at q2
            unfold sitF figF plcF at q2
            rw [q, if_neg (by decide)] at q2
            simp [dgt] at q2
        rw [if_neg e1]
        have e2 := hr u (List.mem_cons_self ..) L (pre ++ [91]) _ h1 (ends_flat (.inl rfl))
        rw [l1] at e2
        rw [e2]
        have h2 : L = (pre ++ 91 :: txV u) ++ (us.flatMap gC ++ 93 :: post) := by rw [h1]; simp
        have l2 : (pre ++ 91 :: txV u).length = pre.length + 1 + (txV u).length := by
          rw [List.length_append, List.length_cons]
          omega
        show lsnF L (vaF L n) (L.length + 1) (pre.length + 1 + (txV u).length) [uvV u] = _
        rw [← l2, lsn_read (fun w hw => hr w (List.mem_cons_of_mem _ hw)) ?_ h2, l2, List.map_cons, List.map_cons]
        · show some (pre.length + 1 + (txV u).length + (us.flatMap gC).length + 1, _) = some (pre.length + (91 :: ((txV u ++ (us.map txV).flatMap (fun u => 44 :: u)) ++ [93])).length, _)
          rw [flat_txVs, List.length_cons, List.length_append, List.length_append, List.length_singleton]
          congr 2
          omega
        · have := len_flat (g := gC) (fun a => Nat.succ_pos _) us
          rw [h2]
          simp only [List.length_append]
          omega
    | dic ks vs =>
      unfold TrV at ht
      unfold depthV at hd
      obtain ⟨hkl, hnd, ht⟩ := ht
      have hr : ∀ v ∈ vs, RD n v := fun u hu => tx_read n u (TrVs_all.mp ht u hu) (by have := depth_mem hu; omega)
      unfold uvV
      rw [uvVs_map]
      have et : txV (.dic ks vs) = 123 :: (txC (List.zipWith mbr ks (txVs vs)) ++ [125]) := by rw [txV]
      rw [txVs_map, zip_mbr] at et
      rw [et] at hL ⊢
      obtain ⟨rs, hrs⟩ : ∃ rs, rs = ks.zip vs := ⟨_, rfl⟩
      have ek : ks = rs.map Prod.fst := by rw [hrs, List.map_fst_zip (by omega)]
      have ev : vs.map uvV = rs.map fun r => uvV r.2 := by
        have : vs = rs.map Prod.snd := by rw [hrs, List.map_snd_zip (by omega)]
        rw [this, List.map_map]
        rfl
      have hr2 : ∀ r ∈ rs, RD n r.2 := fun r hr' => by
        rw [hrs] at hr'
        exact hr _ (List.of_mem_zip (show (r.1, r.2) ∈ _ from hr')).2
      rw [← hrs] at hL ⊢
      rw [ek] at hnd
      rw [ek, ev]
      clear hrs ek ev hr ht hkl et hd
      have e0 : L[pre.length]? = some 123 := at_at (post := (txC (rs.map fun r => mbr r.1 (txV r.2)) ++ [125]) ++ post) (by rw [hL]; simp)
      rw [vaF, e0, if_neg (by decide), if_neg (by decide), if_pos rfl]
      unfold dicF
      rw [if_pos e0]
      have l1 : (pre ++ [123]).length = pre.length + 1 := by simp
      cases rs with
      | nil =>
        have e1 : L[(pre ++ [123]).length]? = some 125 := at_at (post := post) (by rw [hL]; simp [txC])
        rw [l1] at e1
        rw [if_pos e1]
        rfl
      | cons u us =>
        obtain ⟨k, u⟩ := u
        have h1 : L = (pre ++ [123]) ++ (mbr k (txV u) ++ (us.flatMap gM ++ 125 :: post)) := by
          rw [hL, List.map_cons]
          show pre ++ ((123 :: ((mbr k (txV u) ++ (us.map fun r => mbr r.1 (txV r.2)).flatMap (fun u => 44 :: u)) ++ [125])) ++ post) = _
          rw [flat_mbr]
          simp
        have e1 : L[pre.length + 1]? ≠ some 125 := fun q => by
          have : L[(pre ++ [123]).length]? = some 34 := at_at (post := (escK k.cps.toList ++ [34]) ++ (58 :: txV u ++ (us.flatMap gM ++ 125 :: post))) (by rw [h1]; unfold mbr quo; simp)
          rw [l1, q] at this
          cases this
        rw [if_neg e1]
        have hn2 := List.nodup_cons.mp (show (k :: us.map Prod.fst).Nodup from hnd)
        have e2 := mem_read (ks := []) (hr2 (k, u) (List.mem_cons_self ..)) (fun q => nomatch q) h1 (ends_flatM (.inr rfl))
        rw [l1] at e2
        rw [e2]
        have h2 : L = (pre ++ 123 :: mbr k (txV u)) ++ (us.flatMap gM ++ 125 :: post) := by rw [h1]; simp
        have l2 : (pre ++ 123 :: mbr k (txV u)).length = pre.length + 1 + (mbr k (txV u)).length := by
          rw [List.length_append, List.length_cons]
          omega
        show dcnF L (vaF L n) (L.length + 1) (pre.length + 1 + (mbr k (txV u)).length) [k] [uvV u] = _
        rw [← l2, dcn_read (fun w hw => hr2 w (List.mem_cons_of_mem _ hw)) hnd ?_ h2, l2, List.map_cons, List.map_cons, List.map_cons]
        · show some (pre.length + 1 + (mbr k (txV u)).length + (us.flatMap gM).length + 1, _) = some (pre.length + (123 :: ((mbr k (txV u) ++ (us.map fun r => mbr r.1 (txV r.2)).flatMap (fun u => 44 :: u)) ++ [125])).length, _)
          rw [flat_mbr, List.length_cons, List.length_append, List.length_append, List.length_singleton]
          congr 2
          omega
        · have := len_flat (g := gM) (fun a => Nat.succ_pos _) us
          rw [h2]
          simp only [List.length_append]
          omega
end G58.V

set_option Elab.async false
set_option linter.all false
set_option maxRecDepth 100000
set_option maxHeartbeats 4000000
/-! Plain: trees with their keys in order; the first part that is no value. -/
namespace G58.V
open PySem PySem.Spec PyProof.Rows L2 NumText
/-! ### keys in order -/
def insK (p : Str × Val) : List (Str × Val) → List (Str × Val)
  | [] => [p]
  | q :: r => if p.1.cps.toList < q.1.cps.toList then p :: q :: r else q :: insK p r
def srtK (l : List (Str × Val)) : List (Str × Val) := l.foldr insK []
mutual
/-- a value with the keys of its dictionaries in order -/
def normV : Val → Val
  | .leaf l => .leaf l
  | .lst vs => .lst (normVs vs)
  | .dic ks vs => .dic ((srtK (ks.zip (normVs vs))).map Prod.fst) ((srtK (ks.zip (normVs vs))).map Prod.snd)
  | .tup vs => .tup vs
  | .odd => .odd
def normVs : List Val → List Val
  | [] => []
  | v :: r => normV v :: normVs r
end
theorem normVs_map : ∀ vs : List Val, normVs vs = vs.map normV
  | [] => by rw [normVs]; rfl
  | v :: r => by rw [normVs, normVs_map r]; rfl
theorem insK_perm (p : Str × Val) : ∀ l, (insK p l).Perm (p :: l)
  | [] => List.Perm.refl _
  | q :: r => by
    unfold insK
    split
    · exact List.Perm.refl _
    · exact ((insK_perm p r).cons q).trans (List.Perm.swap ..)
theorem srtK_perm : ∀ l, (srtK l).Perm l
  | [] => List.Perm.refl _
  | p :: l => (insK_perm p (srtK l)).trans ((srtK_perm l).cons p)
abbrev AscK (ks : List Str) : Prop := ks.Pairwise fun x y => x.cps.toList < y.cps.toList
theorem cps_lt_trans {a b c : List Nat} (h : a < b) (g : b < c) : a < c := List.lt_trans h g
theorem lt_or_gt {a b : Str} (n : a ≠ b) (h : ¬ a.cps.toList < b.cps.toList) : b.cps.toList < a.cps.toList := by
  rcases List.le_iff_lt_or_eq.mp (List.not_lt.mp h) with q | q
  · exact q
  · exact absurd (str_ext q).symm n
theorem insK_asc (p : Str × Val) : ∀ l : List (Str × Val), AscK (l.map Prod.fst) → p.1 ∉ l.map Prod.fst → AscK ((insK p l).map Prod.fst)
  | [], _, _ => List.pairwise_singleton ..
  | q :: r, h, n => by
    obtain ⟨h1, h2⟩ := List.pairwise_cons.mp h
    unfold insK
    split
    next c =>
      refine List.pairwise_cons.mpr ⟨fun y hy => ?_, h⟩
      rcases List.mem_cons.mp hy with rfl | hy
      · exact c
      · exact cps_lt_trans c (h1 y hy)
    next c =>
      have n1 : p.1 ≠ q.1 := fun z => n (by rw [z]; exact List.mem_cons_self ..)
      refine List.pairwise_cons.mpr ⟨fun y hy => ?_, insK_asc p r h2 fun z => n (List.mem_cons_of_mem _ z)⟩
      rcases List.mem_cons.mp (((insK_perm p r).map Prod.fst).mem_iff.mp hy) with rfl | hy
      · exact lt_or_gt n1 c
      · exact h1 y hy
theorem srtK_asc : ∀ l : List (Str × Val), (l.map Prod.fst).Nodup → AscK ((srtK l).map Prod.fst)
  | [], _ => List.Pairwise.nil
  | p :: l, h => by
    obtain ⟨h1, h2⟩ := List.nodup_cons.mp h
    exact insK_asc p _ (srtK_asc l h2) fun z => h1 (((srtK_perm l).map Prod.fst).mem_iff.mp z)
theorem insK_low (p : Str × Val) : ∀ l : List (Str × Val), (∀ y ∈ l.map Prod.fst, p.1.cps.toList < y.cps.toList) → insK p l = p :: l
  | [], _ => rfl
  | q :: r, h => by
    unfold insK
    rw [if_pos (h q.1 (List.mem_cons_self ..))]
theorem srtK_id : ∀ l : List (Str × Val), AscK (l.map Prod.fst) → srtK l = l
  | [], _ => rfl
  | p :: l, h => by
    obtain ⟨h1, h2⟩ := List.pairwise_cons.mp h
    show insK p (srtK l) = _
    rw [srtK_id l h2, insK_low p l h1]
theorem zip_fst {α β : Type} {a : List α} {b : List β} (h : a.length = b.length) : (a.zip b).map Prod.fst = a := List.map_fst_zip (by omega)
theorem zip_snd {α β : Type} {a : List α} {b : List β} (h : a.length = b.length) : (a.zip b).map Prod.snd = b := List.map_snd_zip (by omega)
/-- a member of the ordered dictionary is one of the dictionary -/
theorem srt_at {ks : List Str} {vs : List Val} {i : Nat} {z : Str} {b : Val} (h1 : ((srtK (ks.zip vs)).map Prod.fst)[i]? = some z) (h2 : ((srtK (ks.zip vs)).map Prod.snd)[i]? = some b) : ∃ j : Nat, ks[j]? = some z ∧ vs[j]? = some b := by
  rw [List.getElem?_map] at h1 h2
  obtain ⟨p, hp, rfl⟩ := Option.map_eq_some_iff.mp h1
  obtain ⟨q, hq, rfl⟩ := Option.map_eq_some_iff.mp h2
  rw [hp] at hq
  cases hq
  obtain ⟨j, hj⟩ := List.getElem?_of_mem ((srtK_perm _).mem_iff.mp (List.mem_of_getElem? hp))
  obtain ⟨g1, g2⟩ := List.getElem?_zip_eq_some.mp hj
  exact ⟨j, g1, g2⟩
theorem srt_len (l : List (Str × Val)) : ((srtK l).map Prod.fst).length = l.length ∧ ((srtK l).map Prod.snd).length = l.length := by
  rw [List.length_map, List.length_map, (srtK_perm l).length_eq]
  exact ⟨rfl, rfl⟩
theorem normVs_len (vs : List Val) : (normVs vs).length = vs.length := by rw [normVs_map, List.length_map]
theorem srt_fst {ks : List Str} {vs : List Val} (h : ks.length = vs.length) : ((srtK (ks.zip vs)).map Prod.fst).Perm ks := by
  have := (srtK_perm (ks.zip vs)).map Prod.fst
  rw [zip_fst h] at this
  exact this
theorem srt_asc {ks : List Str} {vs : List Val} (h : ks.length = vs.length) (n : ks.Nodup) : AscK ((srtK (ks.zip vs)).map Prod.fst) := srtK_asc _ (by rw [zip_fst h]; exact n)
theorem sorted_uniq : ∀ {ks ys : List Str}, ys.Perm ks → ys.Pairwise (fun x y => ¬ y.cps.toList < x.cps.toList) → ks.Pairwise (fun x y => x.cps.toList < y.cps.toList) → ys = ks
  | [], ys, h, _, _ => List.Perm.eq_nil h
  | k :: kr, [], h, _, _ => absurd h.length_eq (by simp)
  | k :: kr, y :: yr, h, hy, hk => by
    have e : y = k := by
      by_cases c : y = k
      · exact c
      · have m1 : y ∈ kr := (List.mem_cons.mp (h.mem_iff.mp (List.mem_cons_self ..))).resolve_left c
        have m2 : k ∈ yr := (List.mem_cons.mp (h.mem_iff.mpr (List.mem_cons_self ..))).resolve_left fun z => c z.symm
        exact absurd ((List.pairwise_cons.mp hk).1 y m1) ((List.pairwise_cons.mp hy).1 k m2)
    subst e
    rw [sorted_uniq (List.Perm.cons_inv h) (List.pairwise_cons.mp hy).2 (List.pairwise_cons.mp hk).2]
theorem nodup_key {α : Type} {l : List (Str × α)} (n : (l.map Prod.fst).Nodup) {p q : Str × α} (hp : p ∈ l) (hq : q ∈ l) (e : p.1 = q.1) : p = q := by
  induction l with
  | nil => cases hp
  | cons x r ih =>
    rw [List.map_cons, List.nodup_cons] at n
    rcases List.mem_cons.mp hp with h1 | h1 <;> rcases List.mem_cons.mp hq with h2 | h2
    · rw [h1, h2]
    · exact absurd (List.mem_map.mpr ⟨q, h2, by rw [← e, h1]⟩) n.1
    · exact absurd (List.mem_map.mpr ⟨p, h1, by rw [e, h2]⟩) n.1
    · exact ih n.2 h1 h2
theorem keyed_eq {α : Type} {l m : List (Str × α)} (hf : l.map Prod.fst = m.map Prod.fst) (n : (m.map Prod.fst).Nodup) (hm : ∀ p ∈ l, p ∈ m) : l = m := by
  have hl : l.length = m.length := by
    have := congrArg List.length hf
    rw [List.length_map, List.length_map] at this
    exact this
  refine List.ext_getElem hl fun i h1 h2 => nodup_key n (hm _ (List.getElem_mem h1)) (List.getElem_mem h2) ?_
  have := congrArg (fun x => x[i]?) hf
  rw [List.getElem?_map, List.getElem?_map, List.getElem?_eq_getElem h1, List.getElem?_eq_getElem h2] at this
  exact Option.some.inj this
theorem fs_eq {α β : Type} {l m : List (α × β)} (h1 : l.map Prod.fst = m.map Prod.fst) (h2 : l.map Prod.snd = m.map Prod.snd) : l = m := by
  have hl : l.length = m.length := by
    have := congrArg List.length h1
    rw [List.length_map, List.length_map] at this
    exact this
  refine List.ext_getElem hl fun i i1 i2 => Prod.ext ?_ ?_
  · have := congrArg (fun x => x[i]?) h1
    rw [List.getElem?_map, List.getElem?_map, List.getElem?_eq_getElem i1, List.getElem?_eq_getElem i2] at this
    exact Option.some.inj this
  · have := congrArg (fun x => x[i]?) h2
    rw [List.getElem?_map, List.getElem?_map, List.getElem?_eq_getElem i1, List.getElem?_eq_getElem i2] at this
    exact Option.some.inj this
theorem zip_memI {α β : Type} {ks : List α} {vs : List β} {p : α × β} (h : p ∈ ks.zip vs) : ∃ i : Nat, ks[i]? = some p.1 ∧ vs[i]? = some p.2 := by
  obtain ⟨i, hi⟩ := List.getElem?_of_mem h
  rw [List.getElem?_zip_eq_some] at hi
  exact ⟨i, hi⟩
theorem zip_memO {α β : Type} {ks : List α} {vs : List β} {i : Nat} {z : α} {b : β} (h1 : ks[i]? = some z) (h2 : vs[i]? = some b) : (z, b) ∈ ks.zip vs :=
  List.mem_of_getElem? (List.getElem?_zip_eq_some.mpr ⟨h1, h2⟩)
theorem nm_at {vs : List Val} {i : Nat} {b : Val} (h : vs[i]? = some b) : (normVs vs)[i]? = some (normV b) := by
  rw [normVs_map, List.getElem?_map, h]
  rfl
theorem nm_of {vs : List Val} {i : Nat} {c : Val} (h : (normVs vs)[i]? = some c) : ∃ b, vs[i]? = some b ∧ normV b = c := by
  rw [normVs_map, List.getElem?_map] at h
  exact Option.map_eq_some_iff.mp h
theorem norm_dic {ks ks' : List Str} {vs vs' : List Val} (l1 : ks.length = vs.length) (l2 : ks'.length = vs'.length) (n1 : ks.Nodup) (n2 : ks'.Nodup) :
    normV (.dic ks vs) = normV (.dic ks' vs') ↔ ks.Perm ks' ∧ ∀ (i j : Nat) (z : Str) (b c : Val), ks[i]? = some z → vs[i]? = some b → ks'[j]? = some z → vs'[j]? = some c → normV b = normV c := by
  have m1 : ks.length = (normVs vs).length := by rw [normVs_len]; exact l1
  have m2 : ks'.length = (normVs vs').length := by rw [normVs_len]; exact l2
  rw [normV, normV]
  constructor
  · intro e
    obtain ⟨e1, e2⟩ := Val.dic.inj e
    have es := fs_eq e1 e2
    have pm : (ks.zip (normVs vs)).Perm (ks'.zip (normVs vs')) := (srtK_perm _).symm.trans (es ▸ srtK_perm _)
    refine ⟨?_, fun i j z b c h1 h2 h3 h4 => ?_⟩
    · have := pm.map Prod.fst
      rw [zip_fst m1, zip_fst m2] at this
      exact this
    · have a1 := pm.mem_iff.mp (zip_memO h1 (nm_at h2))
      have a2 := zip_memO h3 (nm_at h4)
      have := nodup_key (by rw [zip_fst m2]; exact n2) a1 a2 rfl
      exact congrArg Prod.snd this
  · rintro ⟨pm, h⟩
    have s1 := srt_asc m1 n1
    have s2 := srt_asc m2 n2
    have f1 := srt_fst m1
    have f2 := srt_fst m2
    have pf := f1.trans (pm.trans f2.symm)
    have ef : (srtK (ks.zip (normVs vs))).map Prod.fst = (srtK (ks'.zip (normVs vs'))).map Prod.fst := sorted_uniq pf (s1.imp fun h => fun g => List.lt_asymm h g) s2
    have es : srtK (ks.zip (normVs vs)) = srtK (ks'.zip (normVs vs')) := by
      refine keyed_eq ef (f2.nodup_iff.mpr n2) fun p hp => ?_
      obtain ⟨z, c⟩ := p
      obtain ⟨i, h1, h2⟩ := zip_memI ((srtK_perm _).mem_iff.mp hp)
      obtain ⟨b, h3, rfl⟩ := nm_of h2
      obtain ⟨j, h4⟩ := List.getElem?_of_mem (pm.mem_iff.mp (List.mem_of_getElem? h1))
      have hj : j < vs'.length := by have := (List.getElem?_eq_some_iff.mp h4).1; omega
      have h5 : vs'[j]? = some (vs'[j]'hj) := List.getElem?_eq_getElem _
      rw [h i j z b _ h1 h3 h4 h5]
      exact (srtK_perm _).mem_iff.mpr (zip_memO h4 (nm_at h5))
    rw [es]
mutual
/-- the path of the first part that is no value, keys taken as they stand -/
def duV : Val → Option (List PStep)
  | .leaf _ => none
  | .tup _ => some []
  | .odd => some []
  | .lst vs => duVs 0 vs
  | .dic ks vs => duKs ks vs
def duVs : Nat → List Val → Option (List PStep)
  | _, [] => none
  | i, v :: r => match duV v with
    | some p => some (.inl ((i : Nat) : Int) :: p)
    | none => duVs (i + 1) r
def duKs : List Str → List Val → Option (List PStep)
  | _, [] => none
  | [], _ :: _ => none
  | k :: ks, v :: r => match duV v with
    | some p => some (.inr k :: p)
    | none => duKs ks r
end
mutual
/-- a tree whose leaves are values; what is none are texts alone -/
def GdT : Val → Prop
  | .leaf l => TxL l ∧ okL l = true ∧ uvL l = .leaf l
  | .tup xs => TrT xs
  | .odd => False
  | .lst vs => GdTs vs
  | .dic ks vs => ks.length = vs.length ∧ ks.Nodup ∧ (∀ k ∈ ks, k.cps.toList.all plainC = true) ∧ GdTs vs
def GdTs : List Val → Prop
  | [] => True
  | v :: r => GdT v ∧ GdTs r
end
theorem GdTs_all : ∀ {vs : List Val}, GdTs vs ↔ ∀ v ∈ vs, GdT v
  | [] => by unfold GdTs; exact ⟨fun _ v hv => (nomatch hv), fun _ => trivial⟩
  | v :: r => by
    unfold GdTs
    rw [GdTs_all (vs := r)]
    exact ⟨fun h u hu => (List.mem_cons.mp hu).elim (fun e => e ▸ h.1) (h.2 u), fun h => ⟨h v (List.mem_cons_self ..), fun u hu => h u (List.mem_cons_of_mem _ hu)⟩⟩
mutual
theorem GdT.tr : ∀ (t : Val), GdT t → TrV t
  | .leaf l, h => by
    unfold GdT at h
    unfold TrV
    exact h.1
  | .tup xs, h => by
    unfold GdT at h
    unfold TrV
    exact h
  | .odd, h => by
    unfold GdT at h
    exact h.elim
  | .lst vs, h => by
    unfold GdT at h
    unfold TrV
    exact GdTs.tr vs h
  | .dic ks vs, h => by
    unfold GdT at h
    unfold TrV
    exact ⟨h.1, h.2.1, GdTs.tr vs h.2.2.2⟩
theorem GdTs.tr : ∀ (vs : List Val), GdTs vs → TrVs vs
  | [], h => by unfold TrVs; trivial
  | v :: r, h => by
    unfold GdTs at h
    unfold TrVs
    exact ⟨GdT.tr v h.1, GdTs.tr r h.2⟩
end
theorem duVs_none : ∀ {vs : List Val} {i : Nat}, duVs i vs = none → ∀ v ∈ vs, duV v = none
  | [], i, h, v, hv => nomatch hv
  | u :: r, i, h, v, hv => by
    unfold duVs at h
    cases hu : duV u with
    | some p => rw [hu] at h; cases h
    | none =>
      rw [hu] at h
      rcases List.mem_cons.mp hv with rfl | hv
      · exact hu
      · exact duVs_none h v hv
theorem duVs_some : ∀ {vs : List Val} {i : Nat} {p : List PStep}, duVs i vs = some p → ∃ j v q, vs[j]? = some v ∧ duV v = some q ∧ p = .inl ((i + j : Nat) : Int) :: q ∧ ∀ (m : Nat) (u : Val), m < j → vs[m]? = some u → duV u = none
  | [], i, p, h => by unfold duVs at h; cases h
  | u :: r, i, p, h => by
    unfold duVs at h
    cases hu : duV u with
    | some q =>
      rw [hu] at h
      cases h
      exact ⟨0, u, q, rfl, hu, rfl, fun m _ hm => absurd hm (Nat.not_lt_zero _)⟩
    | none =>
      rw [hu] at h
      obtain ⟨j, v, q, h1, h2, h3, h4⟩ := duVs_some (show duVs (i + 1) r = some p from h)
      refine ⟨j + 1, v, q, h1, h2, by rw [h3]; congr 2; omega, fun m w hm e => ?_⟩
      cases m with
      | zero => cases e; exact hu
      | succ m => exact h4 m w (by omega) e
theorem duKs_none : ∀ {vs : List Val} {ks : List Str}, ks.length = vs.length → duKs ks vs = none → ∀ v ∈ vs, duV v = none
  | [], ks, _, h, v, hv => nomatch hv
  | u :: r, [], hl, h, v, hv => by cases hl
  | u :: r, k :: ks, hl, h, v, hv => by
    unfold duKs at h
    cases hu : duV u with
    | some p => rw [hu] at h; cases h
    | none =>
      rw [hu] at h
      rcases List.mem_cons.mp hv with rfl | hv
      · exact hu
      · exact duKs_none (Nat.succ.inj hl) h v hv
theorem duKs_some : ∀ {vs : List Val} {ks : List Str} {p : List PStep}, duKs ks vs = some p → ∃ j k v q, ks[j]? = some k ∧ vs[j]? = some v ∧ duV v = some q ∧ p = .inr k :: q ∧ ∀ (m : Nat) (u : Val), m < j → vs[m]? = some u → duV u = none
  | [], ks, p, h => by unfold duKs at h; cases h
  | u :: r, [], p, h => by unfold duKs at h; cases h
  | u :: r, k :: ks, p, h => by
    unfold duKs at h
    cases hu : duV u with
    | some q =>
      rw [hu] at h
      cases h
      exact ⟨0, k, u, q, rfl, rfl, hu, rfl, fun m _ hm => absurd hm (Nat.not_lt_zero _)⟩
    | none =>
      rw [hu] at h
      obtain ⟨j, k', v, q, h0, h1, h2, h3, h4⟩ := duKs_some (show duKs ks r = some p from h)
      refine ⟨j + 1, k', v, q, h0, h1, h2, h3, fun m w hm e => ?_⟩
      cases m with
      | zero => cases e; exact hu
      | succ m => exact h4 m w (by omega) e
theorem unf_bad : ∀ l ∈ unfL, BadV (uvL l) [] := by
  intro l hl
  have : l ∈ unfL → (match uvL l with | .odd => true | .leaf m => !(okL m) | _ => false) = true := by
    intro hl
    simp only [unfL, List.mem_cons, List.not_mem_nil, or_false] at hl
    rcases hl with rfl | rfl | rfl | rfl | rfl | rfl | rfl | rfl | rfl | rfl | rfl | rfl | rfl <;> decide
  have h := this hl
  cases e : uvL l with
  | odd => exact .odd
  | leaf m =>
    rw [e] at h
    exact .leaf m (by simpa using h)
  | lst vs => rw [e] at h; cases h
  | dic ks vs => rw [e] at h; cases h
  | tup xs => rw [e] at h; cases h
theorem goods_of : ∀ {vs : List Val}, (∀ v ∈ vs, GoodV v) → GoodVs vs
  | [], _ => .nil
  | v :: r, h => .cons v r (h v (List.mem_cons_self ..)) (goods_of fun u hu => h u (List.mem_cons_of_mem _ hu))
theorem uv_at {vs : List Val} {i : Nat} {b : Val} (h : (uvVs vs)[i]? = some b) : ∃ v, vs[i]? = some v ∧ uvV v = b := by
  rw [uvVs_map, List.getElem?_map] at h
  exact Option.map_eq_some_iff.mp h
theorem map_id {f : Val → Val} : ∀ {vs : List Val}, (∀ v ∈ vs, f v = v) → vs.map f = vs
  | [], _ => rfl
  | v :: r, h => by rw [List.map_cons, h v (List.mem_cons_self ..), map_id fun u hu => h u (List.mem_cons_of_mem _ hu)]
/-- what is read is good, or its first wrong part is that of the tree -/
theorem du_bad : ∀ (n : Nat) (t : Val), depthV t < n → GdT t → (duV (normV t) = none → GoodV (uvV t) ∧ uvV t = t) ∧ (∀ p, duV (normV t) = some p → BadV (uvV t) p)
  | 0, t, hd, _ => absurd hd (Nat.not_lt_zero _)
  | n + 1, t, hd, hg => by
    cases t with
    | leaf l =>
      unfold GdT at hg
      unfold normV duV uvV
      rw [hg.2.2]
      exact ⟨fun _ => ⟨.leaf l hg.2.1, rfl⟩, fun p h => by cases h⟩
    | tup xs =>
      unfold GdT at hg
      unfold normV duV uvV
      obtain ⟨l, hl, _, e⟩ := uvT_of hg
      rw [e]
      exact ⟨fun h => (nomatch h), fun p h => (by cases h; exact unf_bad l hl)⟩
    | odd =>
      unfold GdT at hg
      exact hg.elim
    | lst vs =>
      unfold GdT at hg
      unfold depthV at hd
      have ih : ∀ v ∈ vs, (duV (normV v) = none → GoodV (uvV v) ∧ uvV v = v) ∧ (∀ p, duV (normV v) = some p → BadV (uvV v) p) := fun v hv => du_bad n v (by have := depth_mem hv; omega) (GdTs_all.mp hg v hv)
      unfold normV uvV
      rw [normVs_map]
      unfold duV
      refine ⟨fun h => ?_, fun p h => ?_⟩
      · have h1 := duVs_none h
        have h2 : ∀ v ∈ vs, GoodV (uvV v) ∧ uvV v = v := fun v hv => (ih v hv).1 (h1 _ (List.mem_map.mpr ⟨v, hv, rfl⟩))
        rw [uvVs_map]
        refine ⟨.lst _ (goods_of fun u hu => ?_), by rw [map_id fun v hv => (h2 v hv).2]⟩
        obtain ⟨v, hv, rfl⟩ := List.mem_map.mp hu
        exact (h2 v hv).1
      · obtain ⟨j, u, q, h1, h2, rfl, h4⟩ := duVs_some h
        rw [List.getElem?_map] at h1
        obtain ⟨v, hv, rfl⟩ := Option.map_eq_some_iff.mp h1
        rw [Nat.zero_add]
        refine .lst _ j (uvV v) q (by rw [uvVs_map, List.getElem?_map, hv]; rfl) (fun m b hm e => ?_) ((ih v (List.mem_of_getElem? hv)).2 q h2)
        obtain ⟨w, hw, rfl⟩ := uv_at e
        exact ((ih w (List.mem_of_getElem? hw)).1 (h4 m (normV w) hm (by rw [List.getElem?_map, hw]; rfl))).1
    | dic ks vs =>
      unfold GdT at hg
      unfold depthV at hd
      obtain ⟨hl, hn, hp, hg⟩ := hg
      have ih : ∀ v ∈ vs, (duV (normV v) = none → GoodV (uvV v) ∧ uvV v = v) ∧ (∀ p, duV (normV v) = some p → BadV (uvV v) p) := fun v hv => du_bad n v (by have := depth_mem hv; omega) (GdTs_all.mp hg v hv)
      unfold normV uvV
      have hm : ks.length = (normVs vs).length := by rw [normVs_len]; exact hl
      have hrows : ∀ (i : Nat) (k : Str) (v : Val), ks[i]? = some k → vs[i]? = some v → (k, normV v) ∈ srtK (ks.zip (normVs vs)) := fun i k v h1 h2 => (srtK_perm _).mem_iff.mpr (zip_memO h1 (nm_at h2))
      have hasc := srt_asc hm hn
      have hat : ∀ (i : Nat) (z : Str) (b : Val), ((srtK (ks.zip (normVs vs))).map Prod.fst)[i]? = some z → ((srtK (ks.zip (normVs vs))).map Prod.snd)[i]? = some b → ∃ j v, ks[j]? = some z ∧ vs[j]? = some v ∧ b = normV v := fun i z b h1 h2 => by
        obtain ⟨j, g1, g2⟩ := srt_at h1 h2
        obtain ⟨v, g3, g4⟩ := nm_of g2
        exact ⟨j, v, g1, g3, g4.symm⟩
      have hls : ((srtK (ks.zip (normVs vs))).map Prod.fst).length = ((srtK (ks.zip (normVs vs))).map Prod.snd).length := by rw [List.length_map, List.length_map]
      generalize hR : srtK (ks.zip (normVs vs)) = R at hrows hasc hat hls
      unfold duV
      refine ⟨fun h => ?_, fun p h => ?_⟩
      · have h1 := duKs_none hls h
        have h2 : ∀ v ∈ vs, GoodV (uvV v) ∧ uvV v = v := fun v hv => by
          obtain ⟨i, hi⟩ := List.getElem?_of_mem hv
          have il := (List.getElem?_eq_some_iff.mp hi).1
          have := hrows i _ v (List.getElem?_eq_getElem (by omega)) hi
          exact (ih v hv).1 (h1 _ (List.mem_map.mpr ⟨_, this, rfl⟩))
        rw [uvVs_map]
        refine ⟨.dic _ _ hp (goods_of fun u hu => ?_), by rw [map_id fun v hv => (h2 v hv).2]⟩
        obtain ⟨v, hv, rfl⟩ := List.mem_map.mp hu
        exact (h2 v hv).1
      · obtain ⟨i, k, u, q, h0, h1, h2, rfl, h4⟩ := duKs_some h
        obtain ⟨j, v, g1, g2, rfl⟩ := hat i k u h0 h1
        refine .dic ks _ j k (uvV v) q hp g1 (by rw [uvVs_map, List.getElem?_map, g2]; rfl) (fun jj k' b e1 e2 lt => ?_) ((ih v (List.mem_of_getElem? g2)).2 q h2)
        obtain ⟨w, hw, rfl⟩ := uv_at e2
        refine ((ih w (List.mem_of_getElem? hw)).1 ?_).1
        obtain ⟨m, hm2⟩ := List.getElem?_of_mem (hrows jj k' w e1 hw)
        have f1 : (R.map Prod.fst)[m]? = some k' := by rw [List.getElem?_map, hm2]; rfl
        have f2 : (R.map Prod.snd)[m]? = some (normV w) := by rw [List.getElem?_map, hm2]; rfl
        refine h4 m _ ?_ f2
        by_cases c : m < i
        · exact c
        · exfalso
          obtain ⟨l1, z1⟩ := List.getElem?_eq_some_iff.mp f1
          obtain ⟨l0, z0⟩ := List.getElem?_eq_some_iff.mp h0
          by_cases c2 : i = m
          · subst c2
            rw [z0] at z1
            subst z1
            exact List.lt_irrefl _ lt
          · have := List.pairwise_iff_getElem.mp hasc i m l0 l1 (by omega)
            rw [z0, z1] at this
            exact List.lt_irrefl _ (List.lt_trans this lt)
end G58.V

set_option Elab.async false
set_option linter.all false
set_option maxRecDepth 100000
set_option maxHeartbeats 4000000
/-! Plain: small trees, how long their texts are. -/
namespace G58.V
open PySem PySem.Spec PyProof.Rows L2 NumText
theorem joinL_nil : ∀ ls : List (List Nat), TL.joinL [] ls = ls.flatten
  | [] => rfl
  | [x] => by
    show x = x ++ []
    rw [List.append_nil]
  | x :: y :: r => by
    show x ++ ([] ++ TL.joinL [] (y :: r)) = x ++ (y :: r).flatten
    rw [joinL_nil (y :: r), List.nil_append]
theorem joinL_44 : ∀ ls : List (List Nat), TL.joinL [44] ls = txC ls
  | [] => rfl
  | [x] => by
    show x = x ++ []
    rw [List.append_nil]
  | x :: y :: r => by
    show x ++ ([44] ++ TL.joinL [44] (y :: r)) = x ++ ((44 :: y) ++ r.flatMap fun u => 44 :: u)
    rw [joinL_44 (y :: r)]
    rfl
theorem join_N (s : List Nat) (ls : List (List Nat)) : PySem.Txt.join (strN s) (ls.map strN) = strN (TL.joinL s ls) := SX.join_S s ls
theorem app_N (l m : List Nat) : strN l ++ strN m = strN (l ++ m) := TL.ext_tl (by
  rw [TL.tl_append]
  show (strN l).cps.toList ++ (strN m).cps.toList = (strN (l ++ m)).cps.toList
  rw [cps_strN, cps_strN, cps_strN])
/-- a tree of few small parts, at most d deep -/
def TnyV : Nat → Val → Prop
  | d, .leaf l => (wrL l).length ≤ 500 ∧ smallL l
  | d, .tup xs => (tupT xs).length ≤ 500
  | d, .odd => False
  | 0, _ => False
  | d + 1, .lst vs => vs.length ≤ 3 ∧ ∀ v ∈ vs, TnyV d v
  | d + 1, .dic ks vs => ks.length ≤ 3 ∧ vs.length ≤ 3 ∧ (∀ k ∈ ks, k.cps.size ≤ 20) ∧ ∀ v ∈ vs, TnyV d v
def bnd : Nat → Nat
  | 0 => 500
  | d + 1 => 3 * (bnd d + 50) + 2
theorem bnd_le (d : Nat) : 500 ≤ bnd d := by
  induction d with
  | zero => exact Nat.le_refl _
  | succ d ih =>
    show 500 ≤ 3 * (bnd d + 50) + 2
    omega
theorem tny_leaf {d : Nat} {l : Lf} : TnyV d (.leaf l) ↔ (wrL l).length ≤ 500 ∧ smallL l := by cases d <;> exact Iff.rfl
theorem tny_tup {d : Nat} {xs : List V} : TnyV d (.tup xs) ↔ (tupT xs).length ≤ 500 := by cases d <;> exact Iff.rfl
theorem tny_odd {d : Nat} : ¬ TnyV d .odd := by cases d <;> exact id
theorem tny_depth : ∀ {d : Nat} {v : Val}, TnyV d v → depthV v ≤ d
  | d, .leaf l, h => by unfold depthV; exact Nat.zero_le _
  | d, .tup xs, h => by unfold depthV; exact Nat.zero_le _
  | d, .odd, h => absurd h tny_odd
  | 0, .lst vs, h => False.elim h
  | 0, .dic ks vs, h => False.elim h
  | d + 1, .lst vs, h => by
    unfold depthV
    have : ∀ v ∈ vs, depthV v ≤ d := fun v hv => tny_depth (h.2 v hv)
    clear h
    induction vs with
    | nil => unfold depthVs; exact Nat.zero_le _
    | cons u r ih =>
      unfold depthVs
      have := ih fun v hv => this v (List.mem_cons_of_mem _ hv)
      have := (‹∀ v ∈ u :: r, depthV v ≤ d›) u (List.mem_cons_self ..)
      omega
  | d + 1, .dic ks vs, h => by
    unfold depthV
    have : ∀ v ∈ vs, depthV v ≤ d := fun v hv => tny_depth (h.2.2.2 v hv)
    clear h
    induction vs with
    | nil => unfold depthVs; exact Nat.zero_le _
    | cons u r ih =>
      unfold depthVs
      have := ih fun v hv => this v (List.mem_cons_of_mem _ hv)
      have := (‹∀ v ∈ u :: r, depthV v ≤ d›) u (List.mem_cons_self ..)
      omega
theorem flat_len_le {ls : List (List Nat)} {b : Nat} : (∀ l ∈ ls, l.length ≤ b) → (ls.flatMap fun u => 44 :: u).length ≤ ls.length * (b + 1) := by
  intro h
  induction ls with
  | nil => exact Nat.zero_le _
  | cons x r ih =>
    rw [List.flatMap_cons, List.length_append, List.length_cons, List.length_cons, Nat.succ_mul]
    have := ih fun l hl => h l (List.mem_cons_of_mem _ hl)
    have := h x (List.mem_cons_self ..)
    omega
theorem txC_len_le {ls : List (List Nat)} {b : Nat} (h : ∀ l ∈ ls, l.length ≤ b) : (txC ls).length ≤ ls.length * (b + 1) := by
  cases ls with
  | nil => exact Nat.zero_le _
  | cons x r =>
    show (x ++ r.flatMap fun u => 44 :: u).length ≤ _
    rw [List.length_append, List.length_cons, Nat.succ_mul]
    have := flat_len_le (ls := r) fun l hl => h l (List.mem_cons_of_mem _ hl)
    have := h x (List.mem_cons_self ..)
    omega
theorem esc_len (k : List Nat) : (escK k).length ≤ 2 * k.length := by
  induction k with
  | nil => exact Nat.zero_le _
  | cons c r ih =>
    have : (esc1 c).length ≤ 2 := by
      unfold esc1
      split <;> simp
    show (esc1 c ++ escK r).length ≤ _
    rw [List.length_append, List.length_cons]
    omega
theorem quo_len (k : List Nat) : (quo k).length ≤ 2 * k.length + 2 := by
  have := esc_len k
  show (34 :: (escK k ++ [34])).length ≤ _
  rw [List.length_cons, List.length_append, List.length_singleton]
  omega
theorem mbr_len {k : Str} {t : List Nat} {b : Nat} (hk : k.cps.size ≤ 20) (ht : t.length ≤ b) : (mbr k t).length ≤ b + 43 := by
  have := quo_len k.cps.toList
  have e : k.cps.toList.length = k.cps.size := Array.length_toList
  show (quo k.cps.toList ++ 58 :: t).length ≤ _
  rw [List.length_append, List.length_cons]
  omega
theorem tx_len : ∀ {d : Nat} {v : Val}, TnyV d v → (txV v).length ≤ bnd d
  | d, .leaf l, h => by
    unfold txV
    exact Nat.le_trans (tny_leaf.mp h).1 (bnd_le d)
  | d, .tup xs, h => by
    unfold txV
    exact Nat.le_trans (tny_tup.mp h) (bnd_le d)
  | d, .odd, h => absurd h tny_odd
  | 0, .lst vs, h => False.elim h
  | 0, .dic ks vs, h => False.elim h
  | d + 1, .lst vs, h => by
    have et : txV (.lst vs) = 91 :: (txC (txVs vs) ++ [93]) := by rw [txV]
    have h1 : ∀ l ∈ vs.map txV, l.length ≤ bnd d := fun l hl => by
      obtain ⟨v, hv, rfl⟩ := List.mem_map.mp hl
      exact tx_len (h.2 v hv)
    have h2 := txC_len_le h1
    have h3 := Nat.mul_le_mul_right (bnd d + 1) h.1
    rw [et, txVs_map, List.length_cons, List.length_append, List.length_singleton]
    rw [List.length_map] at h2
    show _ ≤ 3 * (bnd d + 50) + 2
    omega
  | d + 1, .dic ks vs, h => by
    obtain ⟨g1, g2, g3, g4⟩ := h
    have et : txV (.dic ks vs) = 123 :: (txC (List.zipWith mbr ks (txVs vs)) ++ [125]) := by rw [txV]
    have h1 : ∀ l ∈ (ks.zip vs).map (fun r => mbr r.1 (txV r.2)), l.length ≤ bnd d + 43 := fun l hl => by
      obtain ⟨r, hr, rfl⟩ := List.mem_map.mp hl
      have := List.of_mem_zip (show (r.1, r.2) ∈ _ from hr)
      exact mbr_len (g3 _ this.1) (tx_len (g4 _ this.2))
    have h2 := txC_len_le h1
    have h4 : ((ks.zip vs).map (fun r => mbr r.1 (txV r.2))).length ≤ 3 := by
      rw [List.length_map, List.length_zip]
      omega
    have h3 := Nat.mul_le_mul_right (bnd d + 43 + 1) h4
    rw [et, txVs_map, zip_mbr, List.length_cons, List.length_append, List.length_singleton]
    show _ ≤ 3 * (bnd d + 50) + 2
    omega
theorem tny_norm : ∀ {d : Nat} {v : Val}, TnyV d v → (∀ ks vs, v = .dic ks vs → True) → TnyV d (normV v)
  | d, .leaf l, h, _ => by unfold normV; exact h
  | d, .tup xs, h, _ => by unfold normV; exact h
  | d, .odd, h, _ => absurd h tny_odd
  | 0, .lst vs, h, _ => False.elim h
  | 0, .dic ks vs, h, _ => False.elim h
  | d + 1, .lst vs, h, _ => by
    unfold normV
    rw [normVs_map]
    refine ⟨by rw [List.length_map]; exact h.1, fun u hu => ?_⟩
    obtain ⟨v, hv, rfl⟩ := List.mem_map.mp hu
    exact tny_norm (h.2 v hv) fun _ _ _ => trivial
  | d + 1, .dic ks vs, h, _ => by
    obtain ⟨g1, g2, g3, g4⟩ := h
    unfold normV
    have hl := srt_len (ks.zip (normVs vs))
    have hz : (ks.zip (normVs vs)).length ≤ 3 := by
      rw [List.length_zip]
      omega
    refine ⟨by rw [hl.1]; exact hz, by rw [hl.2]; exact hz, fun k hk => ?_, fun u hu => ?_⟩
    · obtain ⟨r, hr, rfl⟩ := List.mem_map.mp hk
      have := List.of_mem_zip (show (r.1, r.2) ∈ _ from (srtK_perm _).mem_iff.mp hr)
      exact g3 _ this.1
    · obtain ⟨r, hr, rfl⟩ := List.mem_map.mp hu
      have := List.of_mem_zip (show (r.1, r.2) ∈ _ from (srtK_perm _).mem_iff.mp hr)
      rw [normVs_map] at this
      obtain ⟨v, hv, e⟩ := List.mem_map.mp this.2
      rw [← e]
      exact tny_norm (g4 v hv) fun _ _ _ => trivial
theorem tny_small : ∀ {d : Nat} {v : Val}, TnyV d v → smallV v
  | d, .leaf l, h => by unfold smallV; exact (tny_leaf.mp h).2
  | d, .tup xs, h => by unfold smallV; trivial
  | d, .odd, h => absurd h tny_odd
  | 0, .lst vs, h => False.elim h
  | 0, .dic ks vs, h => False.elim h
  | d + 1, .lst vs, h => by
    unfold smallV
    exact ⟨Nat.le_trans h.1 (by decide), small_all.mpr fun v hv => tny_small (h.2 v hv)⟩
  | d + 1, .dic ks vs, h => by
    unfold smallV
    exact ⟨Nat.le_trans h.1 (by decide), fun k hk => Nat.le_trans (h.2.2.1 k hk) (by decide), small_all.mpr fun v hv => tny_small (h.2.2.2 v hv)⟩
end G58.V

set_option Elab.async false
set_option linter.all false
set_option pp.maxSteps 2500
set_option maxRecDepth 100000
set_option maxHeartbeats 4000000
/-! The law's texts of values. -/
namespace G58.V
open PySem PySem.Spec PyProof.Rows L2 NumText TL StrLaws LamX
theorem replL_one (y : Nat) (z : List Nat) : ∀ l : List Nat, replL [y] z l = l.flatMap fun c => if c = y then z else [c]
  | [] => replL_nil
  | c :: r => by
    by_cases h : c = y
    · rw [replL_hit (y := [y]) (z := z) (by simp) (by subst h; rfl), List.flatMap_cons, if_pos h]
      show z ++ replL [y] z r = _
      rw [replL_one y z r]
    · rw [replL_miss (y := [y]) (z := z) (fun q => h (by injection q)), List.flatMap_cons, if_neg h, replL_one y z r]
      rfl
theorem repl1_len (k : List Nat) : (Txt.replace (strN k) "\\" "\\\\").length ≤ 2 * k.length := by
  have e1 : ("\\" : Str).cps.toList = [92] := by decide +kernel
  have e2 : ("\\\\" : Str).cps.toList = [92, 92] := by decide +kernel
  show (Txt.replace (strN k) "\\" "\\\\").cps.size ≤ _
  rw [← Array.length_toList, replace_list (by decide +kernel), e1, e2, cps_strN, replL_one]
  induction k with
  | nil => exact Nat.le_refl _
  | cons c r ih =>
    rw [List.flatMap_cons, List.length_append, List.length_cons]
    have : (if c = 92 then [92, 92] else [c]).length ≤ 2 := by split <;> simp
    omega
theorem repl_esc (k : List Nat) : Txt.replace (Txt.replace (strN k) "\\" "\\\\") "\"" "\\\"" = strN (escK k) := by
  have e1 : ("\\" : Str).cps.toList = [92] := by decide +kernel
  have e2 : ("\\\\" : Str).cps.toList = [92, 92] := by decide +kernel
  have e3 : ("\"" : Str).cps.toList = [34] := by decide +kernel
  have e4 : ("\\\"" : Str).cps.toList = [92, 34] := by decide +kernel
  refine ext_tl ?_
  show (Txt.replace (Txt.replace (strN k) "\\" "\\\\") "\"" "\\\"").cps.toList = (strN (escK k)).cps.toList
  rw [replace_list (by decide +kernel), replace_list (by decide +kernel), e1, e2, e3, e4, cps_strN, cps_strN, replL_one, replL_one]
  induction k with
  | nil => rfl
  | cons c r ih =>
    rw [List.flatMap_cons, List.flatMap_append, ih]
    show _ = esc1 c ++ escK r
    congr 1
    unfold esc1
    by_cases h1 : c = 92
    · subst h1
      rfl
    · by_cases h2 : c = 34
      · subst h2
        rfl
      · rw [if_neg h1, if_neg (fun q => q.elim h2 h1), List.flatMap_cons, if_neg h2]
        rfl
theorem q34 : ("\"" : Str) = strN [34] := by decide +kernel
def spHex (K : PySem.W.Frag) : Sp := fun vs H Q _ => ∃ (p : Addr) (ns : List Int), vs = [.ref p] ∧ SqB K H p (ns.map V.int) ∧ (∀ n ∈ ns, 0 ≤ n ∧ n ≤ 255) ∧ ns.length ≤ 1000 ∧ ∀ H', Same H H' → Q (.str (strN ((natsI ns).flatMap hexB))) H'
def spQuo : Sp := fun vs H Q _ => ∃ k : List Nat, vs = [.str (strN k)] ∧ k.length ≤ 100000 ∧ Q (.str (strN (quo k))) H
theorem hexS_len : ("0123456789abcdef" : Str).length = 16 := by decide +kernel
theorem hexS_at {k : Nat} (h : k < 16) : ("0123456789abcdef" : Str).cps.toList[k]? = some (hexD k) := by
  have e : ("0123456789abcdef" : Str).cps.toList = hexL := by decide +kernel
  rw [e]
  revert h
  revert k
  decide
section
variable {P : Program} {w : World} {K : PySem.W.Frag} {mg : Str → Option Value} {base : Heap} {a : Ad}
theorem scHex : FnScope ["_law_some", "_law_digits", "_law_one"] ["_law_some"] (defScope sHex) := ⟨rfl, rfl, rfl, by decide +kernel, rfl, by decide +kernel, by decide +kernel⟩
theorem ok_hex (D : Df K a) (T : Txt K mg a) : FnOk P w K mg base CX0 1 a.fHex D.dHex ["_law_some"] (spHex K) := by
  refine D.FHex.ok scHex (fun vs H Q E h => ?_) (fun cdv A outer s H vs Q E hr h => ?_)
  · obtain ⟨p, ns, rfl, _⟩ := h
    rfl
  · obtain ⟨p, ns, rfl, hS, hb, hl, k⟩ := h
    refine ⟨_, (pss_cons (ps_set (i := 1) scHex.nd rfl (.inr rfl) pe_str) (pss_one (ps_ret (pe_join pe_str (pe_lc (own := [("_law_one", 2)]) (g := (gName 2)) (tt := tYes) rfl scHex.nd (pi_or (pi_list (pv 0)) (pi_tup (pv 0))) (blkOk_by (N := ["_law_some", "_law_digits", "_law_one"]) (sc := defScope sHex) (by decide +kernel)) (fun _ _ _ _ _ => (pg_name (i := 2) scHex.nd rfl (.inl rfl))) (fun _ _ _ _ _ => pts_nil) (fun _ _ _ _ _ => (pe_op op_add_str (pe_ix ix_str (pv 1) (pe_op op_fdiv (pv 2) pe_int) (fun _ _ => rfl)) (pe_ix ix_str (pv 1) (pe_op op_mod (pe_callTy call_int1 (by rfl) T.bint (by decide +kernel) (pa_cons (pv 2) pa_nil)) pe_int) (fun _ _ => rfl))))))))), ?_⟩
    have el : ∀ (σ : L2.St) (H1 : Hp) (n : Int) (R : VK), σ[1]? = some (some (V.str "0123456789abcdef")) → σ[2]? = some (some (V.int n)) → 0 ≤ n → n ≤ 255 → R (.str (strN (hexB n.toNat))) H1 →
        (tOp (fun x y H Q => ∃ i j, x = V.str i ∧ y = V.str j ∧ i.length + j.length ≤ sizeLine ∧ Q (V.str (i ++ j)) H) (tOp rIxS (tVar 1) (tOp (rI CDiv fun i j => V.int (i / j)) (tVar 2) (tC (V.int 16)))) (tOp rIxS (tVar 1) (tOp (rI (fun x j => 0 < j) fun i j => V.int (i % j)) (tCB (fun xs H Q => (∃ i, xs = [V.int i] ∧ Q (V.int i) H) ∨ ∃ k, xs = [V.bl k] ∧ Q (V.int (if k = true then 1 else 0)) H) (tCons (tVar 2) tNil)) (tC (V.int 16))))) σ H1 R := by
      intro σ H1 n R h1 h2 n0 n1 hR
      obtain ⟨m, rfl⟩ := Int.eq_ofNat_of_zero_le n0
      have hm : m ≤ 255 := by omega
      have e1 : atI ("0123456789abcdef" : Str).cps.toList (((m : Nat) : Int) / 16) = some (hexD (m / 16)) := by
        rw [show ((m : Nat) : Int) / 16 = ((m / 16 : Nat) : Int) by omega]
        exact atI_nat (hexS_at (by omega))
      have e2 : atI ("0123456789abcdef" : Str).cps.toList (((m : Nat) : Int) % 16) = some (hexD (m % 16)) := by
        rw [show ((m : Nat) : Int) % 16 = ((m % 16 : Nat) : Int) by omega]
        exact atI_nat (hexS_at (by omega))
      refine ⟨_, h1, _, h2, _, _, rfl, rfl, ⟨by decide, by decide⟩, _, _, _, rfl, rfl, by rw [hexS_len]; decide, e1, _, h1, _, h2, .inl ⟨_, rfl, _, _, rfl, rfl, by show (0 : Int) < 16; decide, _, _, _, rfl, rfl, by rw [hexS_len]; decide, e2, _, _, rfl, rfl, by show 1 + 1 ≤ sizeLine; decide, ?_⟩⟩
      have : (⟨#[hexD (m / 16)]⟩ ++ ⟨#[hexD (m % 16)]⟩ : Str) = strN (hexB m) := app_N [hexD (m / 16)] [hexD (m % 16)]
      rw [this]
      exact hR
    have fin : ∀ (DL : Addr), H DL = none → ∀ (i : Nat) (n : Int) (H1 : Hp), ns[i]? = some n → (H1 DL = some (.lst ((((natsI ns).take i).map fun u => strN (hexB u)).map V.str)) ∧ Same H H1) → ∃ acc, H1 DL = some (.lst acc) ∧ acc.length < sizeLine ∧ ((upd H1 DL (.lst (acc ++ [V.str (strN (hexB n.toNat))]))) DL = some (.lst ((((natsI ns).take (i + 1)).map fun u => strN (hexB u)).map V.str)) ∧ Same H (upd H1 DL (.lst (acc ++ [V.str (strN (hexB n.toNat))])))) := by
      intro DL hDL i n H1 hn ⟨e1, s1⟩
      refine ⟨_, e1, ?_, ?_, fun b o e => ?_⟩
      · rw [List.length_map, List.length_map, List.length_take]
        have l1 : (natsI ns).length = ns.length := List.length_map ..
        exact Nat.lt_of_le_of_lt (by omega : _ ≤ 1000) (by decide)
      · have : (natsI ns)[i]? = some n.toNat := by rw [List.getElem?_map, hn]; rfl
        rw [upd_same, List.take_add_one, this, List.map_append, List.map_append]
        rfl
      · rw [upd_ne (ne_of_none e hDL)]
        exact s1 _ _ e
    have last : ∀ (DL : Addr) (H1 : Hp), (H1 DL = some (.lst ((((natsI ns).take (ns.map V.int).length).map fun u => strN (hexB u)).map V.str)) ∧ Same H H1) → ∃ a_1 p ys, V.str ("" : Str) = V.str a_1 ∧ [V.ref DL] = [V.ref p] ∧ (SqL K H1 p (ys.map V.str) ∨ SqT K H1 p (ys.map V.str)) ∧ (ys.map fun x : Str => x.length).sum + ys.length * a_1.length ≤ 16777216 ∧ Q (V.str (Txt.join a_1 ys)) H1 := by
      intro DL H1 ⟨e1, s1⟩
      have el1 : (ns.map V.int).length = (natsI ns).length := by rw [List.length_map, List.length_map]
      rw [el1, List.take_length] at e1
      refine ⟨"", DL, (natsI ns).map fun u => strN (hexB u), rfl, rfl, .inl (.inl (.inl e1)), ?_, ?_⟩
      · have : ∀ us : List Nat, ((us.map fun u => strN (hexB u)).map fun x : Str => x.length).sum = 2 * us.length := by
          intro us
          induction us with
          | nil => rfl
          | cons u r ih =>
            rw [List.map_cons, List.map_cons, List.sum_cons, ih, List.length_cons]
            show 2 + 2 * r.length = _
            omega
        rw [this]
        have l1 := List.length_map (as := ns) Int.toNat
        show 2 * (ns.map Int.toNat).length + _ * 0 ≤ _
        omega
      · have e2 : Txt.join ("" : Str) ((natsI ns).map fun u => strN (hexB u)) = strN ((natsI ns).flatMap hexB) := by
          have := join_N [] ((natsI ns).map hexB)
          rw [joinL_nil, List.map_map] at this
          rw [List.flatMap_def]
          exact this
        rw [e2]
        exact k H1 s1
    have look : ∀ (i : Nat) (y : V), (ns.map V.int)[i]? = some y → ∃ n, ns[i]? = some n ∧ y = .int n ∧ 0 ≤ n ∧ n ≤ 255 := fun i y hy => by
      rw [List.getElem?_map] at hy
      obtain ⟨n, hn, rfl⟩ := Option.map_eq_some_iff.mp hy
      exact ⟨n, hn, rfl, hb n (List.mem_of_getElem? hn)⟩
    refine ⟨⟨_, rfl⟩, ?_⟩
    rcases hS with hS | hS
    · refine .inl ⟨_, rfl, p, rfl, ⟨_, hS⟩, fun DL hDL => lc_it (walk_list (K := K) (a := p) (xs := ns.map V.int)) (fun i H' => H' DL = some (.lst ((((natsI ns).take i).map fun u => strN (hexB u)).map V.str)) ∧ Same H H') ⟨by rw [List.take_zero]; exact upd_same, same_new (Same.refl H) hDL⟩ (fun _ _ _ q => Same.seq q.2 hS) ?_ ?_⟩
      · rintro i y H1' H2 hi2 q ⟨rfl, hy⟩
        obtain ⟨n, hn, rfl, n0, n1⟩ := look i y hy
        refine ⟨rfl, ?_⟩
        dsimp only [tYes]
        exact iteT (el _ _ n _ rfl rfl n0 n1 (fin DL hDL i n H2 hn q))
      · rintro H2 q
        exact last DL H2 q
    · refine .inr ⟨_, rfl, p, rfl, ⟨_, hS⟩, fun DL hDL => lc_it (walk_tup (K := K) (a := p) (xs := ns.map V.int)) (fun i H' => H' DL = some (.lst ((((natsI ns).take i).map fun u => strN (hexB u)).map V.str)) ∧ Same H H') ⟨by rw [List.take_zero]; exact upd_same, same_new (Same.refl H) hDL⟩ (fun _ _ _ q => Same.tup q.2 hS) ?_ ?_⟩
      · rintro i y H1' H2 hi2 q ⟨rfl, hy⟩
        obtain ⟨n, hn, rfl, n0, n1⟩ := look i y hy
        refine ⟨rfl, ?_⟩
        dsimp only [tYes]
        exact iteT (el _ _ n _ rfl rfl n0 n1 (fin DL hDL i n H2 hn q))
      · rintro H2 q
        exact last DL H2 q
theorem scQuo : FnScope ["_law_word"] ["_law_word"] (defScope sQuo) := ⟨rfl, rfl, rfl, by decide +kernel, rfl, by decide +kernel, by decide +kernel⟩
theorem ok_quo (D : Df K a) (T : Txt K mg a) : FnOk P w K mg base CX0 1 a.fQuo D.dQuo ["_law_word"] spQuo := by
  refine D.FQuo.ok scQuo (fun vs H Q E h => ?_) (fun cdv A outer s H vs Q E hr h => ?_)
  · obtain ⟨k, rfl, _⟩ := h
    rfl
  · obtain ⟨kk, rfl, hl, k⟩ := h
    refine ⟨_, (pss_one (ps_ret (pe_op op_add_str (pe_addT op_add_str (CwR.pet_replT (CwR.pet_replC (pv 0)))) pe_str))), ?_⟩
    have lr := repl1_len kk
    have le := esc_len kk
    refine ⟨_, rfl, strN kk, rfl, ?_, _, rfl, ?_, ?_⟩
    · rw [strN_len]
      show kk.length + (kk.length + 1) * 2 ≤ _
      omega
    · show _ + (_ + 1) * 2 ≤ _
      omega
    · rw [repl_esc]
      refine ⟨_, _, rfl, rfl, ?_, _, _, rfl, rfl, ?_, ?_⟩
      · rw [strN_len]
        show 1 + (escK kk).length ≤ sizeLine
        exact Nat.le_trans (by omega : _ ≤ 300000) (by decide)
      · rw [q34, app_N, strN_len, strN_len, List.length_append]
        show 1 + (escK kk).length + 1 ≤ sizeLine
        exact Nat.le_trans (by omega : _ ≤ 300000) (by decide)
      · rw [q34, app_N, app_N]
        exact k
end
end G58.V

set_option Elab.async false
set_option linter.all false
set_option pp.maxSteps 2500
set_option maxRecDepth 100000
set_option maxHeartbeats 4000000
/-! The law's texts of values: values. -/
namespace G58.V
open PySem PySem.Spec PyProof.Rows L2 NumText TL StrLaws LamX
def spWri (K : PySem.W.Frag) (a : Ad) (n : Nat) : Sp := fun vs H Q _ => ∃ (x : V) (v : Val) (d : Nat), vs = [x] ∧ ValAt K a H v x ∧ d < n ∧ d ≤ 6 ∧ TnyV d v ∧ GdT v ∧ duV (normV v) = none ∧ ∀ H', Same H H' → Q (.str (strN (txV (normV v)))) H'
theorem str_int (i : Int) : Str.ofString (toString i) = strN (dcI i) := by
  refine TL.ext_tl ?_
  show (Str.ofString (toString i)).cps.toList = (strN (dcI i)).cps.toList
  rw [cps_strN]
  unfold dcI
  cases i with
  | ofNat m =>
    rw [if_neg (show ¬ (Int.ofNat m < 0) from Int.not_lt.mpr (Int.natCast_nonneg m))]
    exact PySem.W.KIN.signs_num m
  | negSucc m =>
    rw [if_pos (Int.negSucc_lt_zero m), signs_ofString]
    show ("-" ++ Nat.repr (m + 1)).toList.map Char.toNat = 45 :: dcN (m + 1)
    rw [String.toList_append, List.map_append, Nat.toList_repr]
    rfl
theorem zip_fs {α β : Type} : ∀ R : List (α × β), (R.map Prod.fst).zip (R.map Prod.snd) = R
  | [] => rfl
  | r :: R => by
    rw [List.map_cons, List.map_cons, List.zip_cons_cons, zip_fs R]
theorem log_20 {i : Int} (h : i.natAbs < 100000000000000000000) : i.natAbs.log2 < 1920 := by
  by_cases c : i.natAbs = 0
  · rw [c]
    decide
  · refine Nat.lt_of_lt_of_le ((Nat.log2_lt c).mpr (Nat.lt_of_lt_of_le h (show 100000000000000000000 ≤ 2 ^ 100 by decide))) (by decide)
theorem bnd6 {d : Nat} (h : d ≤ 6) : bnd d ≤ 500000 := by
  match d, h with
  | 0, _ => decide
  | 1, _ => decide
  | 2, _ => decide
  | 3, _ => decide
  | 4, _ => decide
  | 5, _ => decide
  | 6, _ => decide
theorem strs_le {ls : List (List Nat)} {b : Nat} (h : ∀ l ∈ ls, l.length ≤ b) : ((ls.map strN).map fun x : Str => x.length).sum ≤ ls.length * b := by
  induction ls with
  | nil => exact Nat.zero_le _
  | cons l r ih =>
    rw [List.map_cons, List.map_cons, List.sum_cons, strN_len, List.length_cons, Nat.succ_mul]
    have := ih fun m hm => h m (List.mem_cons_of_mem _ hm)
    have := h l (List.mem_cons_self ..)
    omega
/-- the texts between their brackets -/
theorem brack {o c : Nat} {zo zc : Str} {DL : Addr} {H1 : Hp} {Q : VK} {K : PySem.W.Frag} {ls : List (List Nat)} {b : Nat} (eo : zo = strN [o]) (ec : zc = strN [c]) (e1 : H1 DL = some (.lst ((ls.map strN).map V.str))) (hl : ls.length ≤ 3) (hb : ∀ l ∈ ls, l.length ≤ b) (hb2 : b ≤ 600000)
    (k : Q (.str (strN (o :: (txC ls ++ [c])))) H1) : ∃ a_1 p ys, V.str ("," : Str) = V.str a_1 ∧ [V.ref DL] = [V.ref p] ∧ (SqL K H1 p (ys.map V.str) ∨ SqT K H1 p (ys.map V.str)) ∧ (ys.map fun x : Str => x.length).sum + ys.length * a_1.length ≤ 16777216 ∧
      ∃ i j, V.str zo = V.str i ∧ V.str (Txt.join a_1 ys) = V.str j ∧ i.length + j.length ≤ sizeLine ∧ ∃ i2 j2, V.str (i ++ j) = V.str i2 ∧ V.str zc = V.str j2 ∧ i2.length + j2.length ≤ sizeLine ∧ Q (V.str (i2 ++ j2)) H1 := by
  have h1 := strs_le hb
  have h2 := Nat.mul_le_mul hl hb2
  have h3 := Nat.mul_le_mul_left ls.length hb2
  have h4 := txC_len_le hb
  have h5 := Nat.mul_le_mul hl (Nat.add_le_add_right hb2 1)
  have h6 := Nat.mul_le_mul_left ls.length (Nat.add_le_add_right hb2 1)
  have ej : Txt.join ("," : Str) (ls.map strN) = strN (txC ls) := by
    rw [show ("," : Str) = strN [44] from by decide +kernel, join_N, joinL_44]
  subst eo ec
  have sl : sizeLine = 16777216 := rfl
  refine ⟨_, DL, ls.map strN, rfl, rfl, .inl (.inl (.inl e1)), ?_, _, _, rfl, rfl, ?_, _, _, rfl, rfl, ?_, ?_⟩
  · rw [List.length_map]
    have : ("," : Str).length = 1 := by decide +kernel
    rw [this]
    have := Nat.mul_le_mul_left ls.length hb2
    omega
  · rw [ej, strN_len, strN_len, sl]
    show 1 + (txC ls).length ≤ _
    omega
  · rw [ej, app_N, strN_len, strN_len, List.length_append, sl]
    show 1 + (txC ls).length + 1 ≤ _
    omega
  · rw [ej, app_N, app_N]
    exact k
section
variable {P : Program} {w : World} {K : PySem.W.Frag} {mg : Str → Option Value} {base : Heap} {a : Ad}
theorem ko_t (T : Txt K mg a) (y : Wy) (t : String) (ht : t ∈ ["list", "dict", "bool", "int", "str"]) : PySem.W.kitOne K (.ref (y.cls a)) (.type t) = some false := by
  simp only [List.mem_cons, List.not_mem_nil, or_false] at ht
  rcases ht with rfl | rfl | rfl | rfl | rfl
  · cases y
    · exact T.koWide_list
    · exact T.koData_list
    · exact T.koUid_list
    · exact T.koReal_list
    · exact T.koDate_list
  · cases y
    · exact T.koWide_dict
    · exact T.koData_dict
    · exact T.koUid_dict
    · exact T.koReal_dict
    · exact T.koDate_dict
  · cases y
    · exact T.koWide_bool
    · exact T.koData_bool
    · exact T.koUid_bool
    · exact T.koReal_bool
    · exact T.koDate_bool
  · cases y
    · exact T.koWide_int
    · exact T.koData_int
    · exact T.koUid_int
    · exact T.koReal_int
    · exact T.koDate_int
  · cases y
    · exact T.koWide_str
    · exact T.koData_str
    · exact T.koUid_str
    · exact T.koReal_str
    · exact T.koDate_str
theorem kw_y (T : Txt K mg a) (y : Wy) : PySem.W.kitOne K (.ref (y.cls a)) (.ref a.cWide) = some (decide (y = .w)) := by
  cases y
  · exact T.kwWide
  · exact T.kwData
  · exact T.kwUid
  · exact T.kwReal
  · exact T.kwDate
theorem ku_y (T : Txt K mg a) (y : Wy) : PySem.W.kitOne K (.ref (y.cls a)) (.ref a.cUid) = some (decide (y = .u)) := by
  cases y
  · exact T.kuWide
  · exact T.kuData
  · exact T.kuUid
  · exact T.kuReal
  · exact T.kuDate
theorem kd_y (T : Txt K mg a) (y : Wy) : PySem.W.kitOne K (.ref (y.cls a)) (.ref a.cData) = some (decide (y = .d)) := by
  cases y
  · exact T.kdWide
  · exact T.kdData
  · exact T.kdUid
  · exact T.kdReal
  · exact T.kdDate
theorem kr_y (T : Txt K mg a) (y : Wy) : PySem.W.kitOne K (.ref (y.cls a)) (.ref a.cReal) = some (decide (y = .r)) := by
  cases y
  · exact T.krWide
  · exact T.krData
  · exact T.krUid
  · exact T.krReal
  · exact T.krDate
theorem scWri : FnScope ["_law_thing", "_law_letter", "_law_unit", "_law_one", "_law_key"] ["_law_thing"] (defScope sWri) := ⟨rfl, rfl, rfl, by decide +kernel, rfl, by decide +kernel, by decide +kernel⟩
theorem ok_wri (D : Df K a) (T : Txt K mg a) : ∀ n : Nat, FnOk P w K mg base CX0 (n + 2) a.fWri D.dWri ["_law_thing"] (spWri K a n)
  | 0 => ok_elim fun vs H Q E h => by
    obtain ⟨x, v, d, _, _, hd, _⟩ := h
    omega
  | n + 1 => by
    have GWri : FnOk P w K mg base CX0 (n + 2) a.fWri D.dWri ["_law_thing"] (spWri K a n) := ok_wri D T n
    have GHex : FnOk P w K mg base CX0 1 a.fHex D.dHex ["_law_some"] (spHex K) := ok_hex D T
    have GQuo : FnOk P w K mg base CX0 1 a.fQuo D.dQuo ["_law_word"] spQuo := ok_quo D T
    refine D.FWri.ok (k := n + 2) scWri (fun vs H Q E h => ?_) (fun cdv A outer s H vs Q E hr h => ?_)
    · obtain ⟨x, v, d, rfl, _⟩ := h
      rfl
    · obtain ⟨x, v, d, rfl, hV, hd, hd6, ht, hg, hdu, k⟩ := h
      have hr1 : Room 1 _ := hr.mono (by omega)
      have hud := hu_of hr
      refine ⟨_, (pss_cons (ps_if (PW.pt (pw_or (pt_cmpR op_isN (pv 0) pe_non (nomark _)) (pw_or1 (pt_val (pe_callB call_isi (by rfl) T.bisinstance (by decide +kernel) (pa_cons (pv 0) (pa_cons (pe_bltn (v := .ty "bool") rfl T.bbool (by decide +kernel) rfl) pa_nil))))))) (pss_one (ps_ret (pe_ifExp (pt_cmpR op_isN (pv 0) pe_non (nomark _)) pe_str (pe_m0 PySem.F.slot_str_lower PySem.F.type_str_lower mt_lower (pe_callTy call_str_bool (by rfl) T.bstr (by decide +kernel) (pa_cons (pv 0) pa_nil)))))) pss_nil) (pss_cons (ps_if (pt_val (pe_callB call_isi (by rfl) T.bisinstance (by decide +kernel) (pa_cons (pv 0) (pa_cons (pe_bltn (v := .ty "int") rfl T.bint (by decide +kernel) rfl) pa_nil)))) (pss_one (ps_ret (pe_callTy call_str_int (by rfl) T.bstr (by decide +kernel) (pa_cons (pv 0) pa_nil)))) pss_nil) (pss_cons (ps_if (pt_val (pe_callB call_isi (by rfl) T.bisinstance (by decide +kernel) (pa_cons (pv 0) (pa_cons (pe_bltn (v := .ty "str") rfl T.bstr (by decide +kernel) rfl) pa_nil)))) (pss_one (ps_ret (pe_call GQuo hr1 rfl T.gQuo D.FQuo.kp D.bQuo .nil pass0 (pa_cons (pv 0) pa_nil)))) pss_nil) (pss_cons (ps_if (pt_val (pe_callB call_isi (by rfl) T.bisinstance (by decide +kernel) (pa_cons (pv 0) (pa_cons (pe_glob (v := .ref a.cWide) rfl T.gcWide rfl) pa_nil)))) (pss_one (ps_ret (pe_op op_add_str pe_str (pe_join pe_str (pe_lc (own := [("_law_unit", 2)]) (g := (gName 2)) (tt := tYes) rfl scWri.nd (pi_tup (pe_fld (pv 0) rfl)) (blkOk_by (N := ["_law_thing", "_law_letter", "_law_unit", "_law_one", "_law_key"]) (sc := defScope sWri) (by decide +kernel)) (fun _ _ _ _ _ => (pg_name (i := 2) scWri.nd rfl (.inl rfl))) (fun _ _ _ _ _ => pts_nil) (fun _ _ _ _ _ => (pe_call GHex hr1 rfl T.gHex D.FHex.kp D.bHex .nil pass0 (pa_cons (pe_lst (pa_cons (pe_op op_fdiv (pv 2) pe_int) (pa_cons (pe_op op_mod (pe_callTy call_int1 (by rfl) T.bint (by decide +kernel) (pa_cons (pv 2) pa_nil)) pe_int) pa_nil))) pa_nil)))))))) pss_nil) (pss_cons (ps_if (pt_val (pe_callB call_isi (by rfl) T.bisinstance (by decide +kernel) (pa_cons (pv 0) (pa_cons (pe_glob (v := .ref a.cUid) rfl T.gcUid rfl) pa_nil)))) (pss_one (ps_ret (pe_op op_add_str pe_str (pe_callTy call_str_int (by rfl) T.bstr (by decide +kernel) (pa_cons (pe_fld (pv 0) rfl) pa_nil))))) pss_nil) (pss_cons (ps_if (pt_val (pe_callB call_isi (by rfl) T.bisinstance (by decide +kernel) (pa_cons (pv 0) (pa_cons (pe_bltn (v := .ty "list") rfl T.blist (by decide +kernel) rfl) pa_nil)))) (pss_one (ps_ret (pe_op op_add_str (pe_op op_add_str pe_str (pe_join pe_str (pe_lc (own := [("_law_one", 3)]) (g := (gName 3)) (tt := tYes) rfl scWri.nd (pi_list (pv 0)) (blkOk_by (N := ["_law_thing", "_law_letter", "_law_unit", "_law_one", "_law_key"]) (sc := defScope sWri) (by decide +kernel)) (fun _ _ _ _ _ => (pg_name (i := 3) scWri.nd rfl (.inl rfl))) (fun _ _ _ _ _ => pts_nil) (fun _ _ _ _ _ => (pe_call GWri hr rfl T.gWri D.FWri.kp D.bWri .nil pass0 (pa_cons (pv 3) pa_nil)))))) pe_str))) pss_nil) (pss_cons (ps_if (pt_val (pe_callB call_isi (by rfl) T.bisinstance (by decide +kernel) (pa_cons (pv 0) (pa_cons (pe_bltn (v := .ty "dict") rfl T.bdict (by decide +kernel) rfl) pa_nil)))) (pss_one (ps_ret (pe_op op_add_str (pe_op op_add_str pe_str (pe_join pe_str (pe_lc (own := [("_law_key", 4)]) (g := (gName 4)) (tt := tYes) rfl scWri.nd (pi_list (pe_callB (call_sortedDU rfl) (by rfl) T.bsorted (by decide +kernel) (pa_cons (pv 0) pa_nil))) (blkOk_by (N := ["_law_thing", "_law_letter", "_law_unit", "_law_one", "_law_key"]) (sc := defScope sWri) (by decide +kernel)) (fun _ _ _ _ _ => (pg_name (i := 4) scWri.nd rfl (.inl rfl))) (fun _ _ _ _ _ => pts_nil) (fun _ _ _ _ _ => (pe_op op_add_str (pe_op op_add_str (pe_call GQuo hr1 rfl T.gQuo D.FQuo.kp D.bQuo .nil pass0 (pa_cons (pv 4) pa_nil)) pe_str) (pe_call GWri hr rfl T.gWri D.FWri.kp D.bWri .nil pass0 (pa_cons (pe_dget hud (pv 0) (pv 4) (fun _ _ => rfl)) pa_nil))))))) pe_str))) pss_nil) (pss_cons (ps_set (i := 1) scWri.nd rfl (.inl rfl) (pe_ifExp (pt_val (pe_callB call_isi (by rfl) T.bisinstance (by decide +kernel) (pa_cons (pv 0) (pa_cons (pe_glob (v := .ref a.cData) rfl T.gcData rfl) pa_nil)))) pe_str (pe_ifExp (pt_val (pe_callB call_isi (by rfl) T.bisinstance (by decide +kernel) (pa_cons (pv 0) (pa_cons (pe_glob (v := .ref a.cReal) rfl T.gcReal rfl) pa_nil)))) pe_str pe_str))) (pss_one (ps_ret (pe_op op_add_str (pv 1) (pe_call GHex hr1 rfl T.gHex D.FHex.kp D.bHex .nil pass0 (pa_cons (pe_fld (pv 0) rfl) pa_nil))))))))))))), ?_⟩
      cases v with
      | odd => exact absurd ht tny_odd
      | tup xs =>
        unfold normV duV at hdu
        cases hdu
      | leaf l =>
        unfold ValAt at hV
        have k : ∀ H', Same H H' → Q (.str (strN (wrL l))) H' := by
          intro H' s
          have := k H' s
          unfold normV txV at this
          exact this
        unfold GdT at hg
        obtain ⟨hx, ho, _⟩ := hg
        have hsm := (tny_leaf.mp ht).2
        cases l with
        | non =>
          cases hV
          exact ⟨_, rfl, rfl, _, rfl, iteT (iteT ⟨_, rfl, rfl, _, rfl, iteT (k H (Same.refl H))⟩)⟩
        | bl b =>
          cases hV
          refine ⟨_, rfl, rfl, _, rfl, iteF ⟨_, rfl, .bl b, .ty "bool", _, _, true, rfl, .ty _, .base (.bl b), kit_ty (by decide +kernel), _, rfl, iteT ⟨_, rfl, rfl, _, rfl, iteF ⟨_, rfl, b, rfl, ⟨_, rfl⟩, _, rfl, rfl, ?_, ?_⟩⟩⟩⟩
          · cases b <;> decide +kernel
          · have e : Txt.lower (if b = true then "True" else "False") = strN (wrL (.bl b)) := by cases b <;> decide +kernel
            rw [e]
            exact k H (Same.refl H)
        | int i =>
          cases hV
          refine ⟨_, rfl, rfl, _, rfl, iteF ⟨_, rfl, .int i, .ty "bool", _, _, false, rfl, .ty _, .base (.int i), kit_ty (by decide +kernel), _, rfl, iteF ⟨_, rfl, .int i, .ty "int", _, _, true, rfl, .ty _, .base (.int i), kit_ty (by decide +kernel), _, rfl, iteT ⟨_, rfl, i, rfl, log_20 hx, ?_⟩⟩⟩⟩
          rw [str_int]
          exact k H (Same.refl H)
        | str z =>
          cases hV
          refine ⟨_, rfl, rfl, _, rfl, iteF ⟨_, rfl, .str z, .ty "bool", _, _, false, rfl, .ty _, .base (.str z), kit_ty (by decide +kernel), _, rfl, iteF ⟨_, rfl, .str z, .ty "int", _, _, false, rfl, .ty _, .base (.str z), kit_ty (by decide +kernel), _, rfl, iteF ⟨_, rfl, .str z, .ty "str", _, _, true, rfl, .ty _, .base (.str z), kit_ty (by decide +kernel), _, rfl, iteT ⟨_, rfl, z.cps.toList, by rw [strN_cps]; rfl, ?_, k H (Same.refl H)⟩⟩⟩⟩⟩
          have hsm : z.cps.size ≤ 100000 := hsm
          rw [Array.length_toList]
          exact hsm
        | thg y f =>
          obtain ⟨p, rfl, hT⟩ := hV
          have ty := th_ty T hT
          obtain ⟨dx, fv, hp, hf⟩ := hT
          refine ⟨_, rfl, rfl, _, rfl, iteF ⟨_, rfl, .ref p, .ty "bool", _, _, false, rfl, .ty _, ty, ko_t T y "bool" (by simp), _, rfl, iteF ⟨_, rfl, .ref p, .ty "int", _, _, false, rfl, .ty _, ty, ko_t T y "int" (by simp), _, rfl, iteF ⟨_, rfl, .ref p, .ty "str", _, _, false, rfl, .ty _, ty, ko_t T y "str" (by simp), _, rfl, iteF ⟨_, rfl, .ref p, .ref a.cWide, _, _, _, rfl, .own _, ty, kw_y T y, _, rfl, ?_⟩⟩⟩⟩⟩
          cases y with
          | w =>
            cases f with
            | num m => exact hx.elim
            | row ns =>
              obtain ⟨t, rfl, ht2⟩ := hf
              obtain ⟨hb, _⟩ : (∀ n ∈ ns, 0 ≤ n ∧ n ≤ 65535) ∧ ns ≠ [] := hx
              have hl : ns.length ≤ 1000 := hsm
              have hns : natsI ns = ns.map Int.toNat := rfl
              have k := k
              refine iteT ⟨⟨_, rfl⟩, _, rfl, p, a.cWide, dx, _, _, rfl, hp, T.clWide, T.nWide_units, rfl, t, rfl, ⟨_, ht2⟩, fun DL hDL => lc_it (walk_tup (K := K) (a := t) (xs := ns.map V.int)) (fun i H' => H' DL = some (.lst ((((natsI ns).take i).map fun u => strN (hexU u)).map V.str)) ∧ Same H H') ⟨by rw [List.take_zero]; exact upd_same, same_new (Same.refl H) hDL⟩ (fun _ _ _ q => Same.tup q.2 ht2) ?_ ?_⟩
              · rintro i y H1' H2 hi2 ⟨e1, s1⟩ ⟨rfl, hy⟩
                rw [List.getElem?_map] at hy
                obtain ⟨m, hm, rfl⟩ := Option.map_eq_some_iff.mp hy
                obtain ⟨m0, m1⟩ := hb m (List.mem_of_getElem? hm)
                obtain ⟨u, rfl⟩ := Int.eq_ofNat_of_zero_le m0
                refine ⟨rfl, ?_⟩
                dsimp only [tYes]
                refine iteT ⟨_, rfl, _, _, rfl, rfl, ⟨by decide, by decide⟩, _, rfl, .inl ⟨_, rfl, _, _, rfl, rfl, by show (0 : Int) < 256; decide, by show 2 ≤ sizeLine; decide, fun L hL => ⟨L, [((u : Nat) : Int) / 256, ((u : Nat) : Int) % 256], rfl, .inl (.inl (.inl upd_same)), ?_, by show 2 ≤ 1000; decide, fun H3 s3 => ?_⟩⟩⟩
                · intro n hn
                  rcases List.mem_cons.mp hn with rfl | hn
                  · omega
                  · rw [List.mem_singleton.mp hn]
                    omega
                have eu : (natsI [((u : Nat) : Int) / 256, ((u : Nat) : Int) % 256]).flatMap hexB = hexU u := by
                  show hexB (((u : Nat) : Int) / 256).toNat ++ (hexB (((u : Nat) : Int) % 256).toNat ++ []) = hexB (u / 256) ++ hexB (u % 256)
                  rw [List.append_nil, show (((u : Nat) : Int) / 256).toNat = u / 256 by omega, show (((u : Nat) : Int) % 256).toNat = u % 256 by omega]
                rw [eu]
                have s2 := (same_new (o := .lst [V.int (((u : Nat) : Int) / 256), V.int (((u : Nat) : Int) % 256)]) (Same.refl H2) hL).trans s3
                refine ⟨_, s2 _ _ e1, ?_, ?_, fun b o e => ?_⟩
                · rw [List.length_map, List.length_map, List.length_take]
                  have l1 : (natsI ns).length = ns.length := List.length_map ..
                  exact Nat.lt_of_le_of_lt (by omega : _ ≤ 1000) (by decide)
                · have : (natsI ns)[i]? = some u := by rw [List.getElem?_map, hm]; rfl
                  rw [upd_same, List.take_add_one, this, List.map_append, List.map_append]
                  rfl
                · rw [upd_ne (ne_of_none e hDL)]
                  exact s2 _ _ (s1 _ _ e)
              · rintro H2 ⟨e1, s1⟩
                have el1 : (ns.map V.int).length = (natsI ns).length := by rw [List.length_map, List.length_map]
                have l1 : (natsI ns).length = ns.length := List.length_map ..
                rw [el1, List.take_length] at e1
                have e2 : Txt.join ("" : Str) ((natsI ns).map fun u => strN (hexU u)) = strN ((natsI ns).flatMap hexU) := by
                  have := join_N [] ((natsI ns).map hexU)
                  rw [joinL_nil, List.map_map] at this
                  rw [List.flatMap_def]
                  exact this
                have lf := flat_len grpU (natsI ns)
                refine ⟨"", DL, (natsI ns).map fun u => strN (hexU u), rfl, rfl, .inl (.inl (.inl e1)), ?_, _, _, rfl, rfl, ?_, ?_⟩
                · have : ∀ us : List Nat, ((us.map fun u => strN (hexU u)).map fun x : Str => x.length).sum = 4 * us.length := by
                    intro us
                    induction us with
                    | nil => rfl
                    | cons u r ih =>
                      rw [List.map_cons, List.map_cons, List.sum_cons, ih, List.length_cons]
                      show 4 + 4 * r.length = _
                      omega
                  rw [this]
                  show 4 * (natsI ns).length + _ * 0 ≤ _
                  omega
                · rw [e2, strN_len, lf]
                  show 1 + _ ≤ 16777216
                  omega
                · rw [e2, show ("w" : Str) = strN [119] from by decide +kernel, app_N]
                  exact k H2 s1
          | u =>
            cases f with
            | row ns => exact hx.elim
            | num m =>
              cases (show fv = .int m from hf)
              obtain ⟨h0, h1⟩ : 0 ≤ m ∧ m < 100000000000000000000 := hx
              refine iteF ⟨_, rfl, .ref p, .ref a.cUid, _, _, true, rfl, .own _, ty, ku_y T .u, _, rfl, iteT ⟨_, rfl, p, a.cUid, dx, _, _, rfl, hp, T.clUid, T.nUid_number, rfl, m, rfl, log_20 (by omega), _, _, rfl, rfl, ?_, ?_⟩⟩
              · rw [str_int, strN_len]
                have := dc_len (n := m.natAbs) (by omega)
                unfold dcI
                rw [if_neg (by omega)]
                show 1 + _ ≤ 16777216
                omega
              · have e : strN [117] ++ strN (dcI m) = strN (wrL (.thg .u (.num m))) := by
                  rw [app_N]
                  unfold dcI
                  rw [if_neg (by omega), show m.natAbs = m.toNat by omega]
                  rfl
                rw [str_int, show ("u" : Str) = strN [117] from by decide +kernel, e]
                exact k H (Same.refl H)
          | d =>
            cases f with
            | num m => exact hx.elim
            | row ns =>
              obtain ⟨t, rfl, ht2⟩ := hf
              have hb : ∀ n ∈ ns, 0 ≤ n ∧ n ≤ 255 := hx
              have hl : ns.length ≤ 1000 := hsm
              refine iteF ⟨_, rfl, .ref p, .ref a.cUid, _, _, false, rfl, .own _, ty, ku_y T .d, _, rfl, iteF ⟨_, rfl, .ref p, .ty "list", _, _, false, rfl, .ty _, ty, ko_t T .d "list" (by simp), _, rfl, iteF ⟨_, rfl, .ref p, .ty "dict", _, _, false, rfl, .ty _, ty, ko_t T .d "dict" (by simp), _, rfl, iteF ⟨_, rfl, .ref p, .ref a.cData, _, _, true, rfl, .own _, ty, kd_y T .d, _, rfl, iteT ⟨_, rfl, _, rfl, p, a.cData, dx, _, _, rfl, hp, T.clData, T.nData_octets, rfl, t, ns, rfl, .inr ht2, hb, hl, fun H2 s2 => ⟨_, _, rfl, rfl, ?_, ?_⟩⟩⟩⟩⟩⟩
              · rw [strN_len, flat_len grpB, List.length_map]
                show 1 + _ ≤ 16777216
                omega
              · rw [show ("d" : Str) = strN [100] from by decide +kernel, app_N]
                exact k H2 s2
          | r =>
            cases f with
            | num m => exact hx.elim
            | row ns =>
              obtain ⟨t, rfl, ht2⟩ := hf
              have hb : ∀ n ∈ ns, 0 ≤ n ∧ n ≤ 255 := hx.1
              have hl : ns.length ≤ 1000 := hsm
              refine iteF ⟨_, rfl, .ref p, .ref a.cUid, _, _, false, rfl, .own _, ty, ku_y T .r, _, rfl, iteF ⟨_, rfl, .ref p, .ty "list", _, _, false, rfl, .ty _, ty, ko_t T .r "list" (by simp), _, rfl, iteF ⟨_, rfl, .ref p, .ty "dict", _, _, false, rfl, .ty _, ty, ko_t T .r "dict" (by simp), _, rfl, iteF ⟨_, rfl, .ref p, .ref a.cData, _, _, false, rfl, .own _, ty, kd_y T .r, _, rfl, iteF ⟨_, rfl, .ref p, .ref a.cReal, _, _, true, rfl, .own _, ty, kr_y T .r, _, rfl, iteT ⟨_, rfl, _, rfl, p, a.cReal, dx, _, _, rfl, hp, T.clReal, T.nReal_octets, rfl, t, ns, rfl, .inr ht2, hb, hl, fun H2 s2 => ⟨_, _, rfl, rfl, ?_, ?_⟩⟩⟩⟩⟩⟩⟩
              · rw [strN_len, flat_len grpB, List.length_map]
                show 1 + _ ≤ 16777216
                omega
              · rw [show ("r" : Str) = strN [114] from by decide +kernel, app_N]
                exact k H2 s2
          | t =>
            cases f with
            | num m => exact hx.elim
            | row ns =>
              obtain ⟨t, rfl, ht2⟩ := hf
              have hb : ∀ n ∈ ns, 0 ≤ n ∧ n ≤ 255 := hx.1
              have hl : ns.length ≤ 1000 := hsm
              refine iteF ⟨_, rfl, .ref p, .ref a.cUid, _, _, false, rfl, .own _, ty, ku_y T .t, _, rfl, iteF ⟨_, rfl, .ref p, .ty "list", _, _, false, rfl, .ty _, ty, ko_t T .t "list" (by simp), _, rfl, iteF ⟨_, rfl, .ref p, .ty "dict", _, _, false, rfl, .ty _, ty, ko_t T .t "dict" (by simp), _, rfl, iteF ⟨_, rfl, .ref p, .ref a.cData, _, _, false, rfl, .own _, ty, kd_y T .t, _, rfl, iteF ⟨_, rfl, .ref p, .ref a.cReal, _, _, false, rfl, .own _, ty, kr_y T .t, _, rfl, iteF ⟨_, rfl, _, rfl, p, a.cDate, dx, _, _, rfl, hp, T.clDate, T.nDate_octets, rfl, t, ns, rfl, .inr ht2, hb, hl, fun H2 s2 => ⟨_, _, rfl, rfl, ?_, ?_⟩⟩⟩⟩⟩⟩⟩
              · rw [strN_len, flat_len grpB, List.length_map]
                show 1 + _ ≤ 16777216
                omega
              · rw [show ("t" : Str) = strN [116] from by decide +kernel, app_N]
                exact k H2 s2
      | lst vs =>
        cases d with
        | zero => exact ht.elim
        | succ d =>
        unfold ValAt at hV
        obtain ⟨p, xs, rfl, hp, hvs⟩ := hV
        unfold GdT at hg
        have hg := GdTs_all.mp hg
        obtain ⟨hl3, ht⟩ := ht
        obtain ⟨hlen, hat⟩ := vals_at hvs
        unfold normV at hdu k
        unfold duV at hdu
        have hdu := duVs_none hdu
        rw [normVs_map] at hdu k
        have ek : txV (.lst (vs.map normV)) = 91 :: (txC (vs.map fun v => txV (normV v)) ++ [93]) := by
          rw [txV, txVs_map, List.map_map]
          rfl
        rw [ek] at k
        refine ⟨_, rfl, rfl, _, rfl, iteF ⟨_, rfl, .ref p, .ty "bool", _, _, false, rfl, .ty _, .base (.lst hp), kit_ty (by decide +kernel), _, rfl, iteF ⟨_, rfl, .ref p, .ty "int", _, _, false, rfl, .ty _, .base (.lst hp), kit_ty (by decide +kernel), _, rfl, iteF ⟨_, rfl, .ref p, .ty "str", _, _, false, rfl, .ty _, .base (.lst hp), kit_ty (by decide +kernel), _, rfl, iteF ⟨_, rfl, .ref p, .ref a.cWide, _, _, false, rfl, .own _, .base (.lst hp), T.kw_list, _, rfl, iteF ⟨_, rfl, .ref p, .ref a.cUid, _, _, false, rfl, .own _, .base (.lst hp), T.ku_list, _, rfl, iteF ⟨_, rfl, .ref p, .ty "list", _, _, true, rfl, .ty _, .base (.lst hp), kit_ty (by decide +kernel), _, rfl, iteT ⟨⟨_, rfl⟩, _, rfl, p, rfl, ⟨_, .inl (.inl hp)⟩, fun DL hDL => lc_it (walk_list (K := K) (a := p) (xs := xs)) (fun i H1 => H1 DL = some (.lst ((((vs.take i).map fun v => txV (normV v)).map strN).map V.str)) ∧ Same H H1) ⟨by rw [List.take_zero]; exact upd_same, same_new (Same.refl H) hDL⟩ (fun _ _ _ q => .inl (.inl (q.2 _ _ hp))) ?_ ?_⟩⟩⟩⟩⟩⟩⟩⟩
        · rintro i y H1' H2 hi2 ⟨e1, s1⟩ ⟨rfl, hy⟩
          have eb : vs[i]? = some (vs[i]'(by omega)) := List.getElem?_eq_getElem _
          generalize vs[i]'(by omega) = u at eb
          have hu := List.mem_of_getElem? eb
          refine ⟨rfl, ?_⟩
          dsimp only [tYes]
          refine iteT ⟨_, rfl, y, u, d, rfl, ValAt.same s1 _ _ (hat i u y eb hy), by omega, by omega, ht u hu, hg u hu, hdu _ (List.mem_map.mpr ⟨u, hu, rfl⟩), fun H3 s3 => ?_⟩
          refine ⟨_, s3 _ _ e1, ?_, ?_, fun b o e => ?_⟩
          · rw [List.length_map, List.length_map, List.length_map, List.length_take]
            exact Nat.lt_of_le_of_lt (by omega : _ ≤ 3) (by decide)
          · rw [upd_same, List.take_add_one, eb, List.map_append, List.map_append, List.map_append]
            rfl
          · rw [upd_ne (ne_of_none e hDL)]
            exact s3 _ _ (s1 _ _ e)
        · rintro H2 ⟨e1, s1⟩
          rw [hlen, List.take_length] at e1
          exact brack (b := bnd d) (by decide +kernel) (by decide +kernel) e1 (by rw [List.length_map]; exact hl3) (fun l hl => by
            obtain ⟨v, hv, rfl⟩ := List.mem_map.mp hl
            exact tx_len (tny_norm (ht v hv) fun _ _ _ => trivial)) (Nat.le_trans (bnd6 (by omega)) (by decide)) (k H2 s1)
      | dic ks vs =>
        cases d with
        | zero => exact ht.elim
        | succ d =>
        unfold ValAt at hV
        obtain ⟨p, xs, ys0, rfl, hp, hkl, hnd, rfl, hvs⟩ := hV
        unfold GdT at hg
        obtain ⟨hlg, _, hpl, hg⟩ := hg
        have hg := GdTs_all.mp hg
        obtain ⟨hk3, hl3, hk20, ht⟩ := ht
        obtain ⟨hlen, hat⟩ := vals_at hvs
        have hm : ks.length = (normVs vs).length := by rw [normVs_len]; exact hlg
        have hasc := srt_asc hm hnd
        have hfst := srt_fst hm
        have hrow : ∀ (i : Nat) (r : Str × Val), (srtK (ks.zip (normVs vs)))[i]? = some r → ∃ j u x, ks[j]? = some r.1 ∧ vs[j]? = some u ∧ ys0[j]? = some x ∧ r.2 = normV u := fun i r hi => by
          obtain ⟨j, g1, g2⟩ := zip_memI ((srtK_perm _).mem_iff.mp (List.mem_of_getElem? hi))
          obtain ⟨u, g3, g4⟩ := nm_of g2
          have lj := (List.getElem?_eq_some_iff.mp g3).1
          exact ⟨j, u, _, g1, g3, List.getElem?_eq_getElem (by omega), g4.symm⟩
        unfold normV at hdu k
        unfold duV at hdu
        have hdu := duKs_none (by rw [List.length_map, List.length_map]) hdu
        have ek : txV (.dic ((srtK (ks.zip (normVs vs))).map Prod.fst) ((srtK (ks.zip (normVs vs))).map Prod.snd)) = 123 :: (txC ((srtK (ks.zip (normVs vs))).map fun r => mbr r.1 (txV r.2)) ++ [125]) := by
          rw [txV, txVs_map, zip_mbr, zip_fs]
        rw [ek] at k
        have hR3 : (srtK (ks.zip (normVs vs))).length ≤ 3 := by
          rw [(srtK_perm _).length_eq, List.length_zip]
          omega
        generalize srtK (ks.zip (normVs vs)) = R at hasc hfst hrow hdu k hR3
        have ekv : ((ks.map (Sum.inr : Str → Key)).zip ys0).map Prod.fst = ks.map Sum.inr := by
          rw [List.map_fst_zip]
          rw [List.length_map]
          omega
        have vkv : ∀ (j : Nat) (z : Str) (x : V), ks[j]? = some z → ys0[j]? = some x → valV ((ks.map (Sum.inr : Str → Key)).zip ys0) (Sum.inr z) = some x := fun j z x h1 h2 => zip_val hnd h1 h2
        generalize (ks.map (Sum.inr : Str → Key)).zip ys0 = kvs at hp ekv vkv
        refine ⟨_, rfl, rfl, _, rfl, iteF ⟨_, rfl, .ref p, .ty "bool", _, _, false, rfl, .ty _, .base (.dK hp), kit_ty (by decide +kernel), _, rfl, iteF ⟨_, rfl, .ref p, .ty "int", _, _, false, rfl, .ty _, .base (.dK hp), kit_ty (by decide +kernel), _, rfl, iteF ⟨_, rfl, .ref p, .ty "str", _, _, false, rfl, .ty _, .base (.dK hp), kit_ty (by decide +kernel), _, rfl, iteF ⟨_, rfl, .ref p, .ref a.cWide, _, _, false, rfl, .own _, .base (.dK hp), T.kw_dict, _, rfl, iteF ⟨_, rfl, .ref p, .ref a.cUid, _, _, false, rfl, .own _, .base (.dK hp), T.ku_dict, _, rfl, iteF ⟨_, rfl, .ref p, .ty "list", _, _, false, rfl, .ty _, .base (.dK hp), kit_ty (by decide +kernel), _, rfl, iteF ⟨_, rfl, .ref p, .ty "dict", _, _, true, rfl, .ty _, .base (.dK hp), kit_ty (by decide +kernel), _, rfl, iteT ⟨⟨_, rfl⟩, _, rfl, p, kvs, ks, rfl, .inl hp, ekv, Nat.le_trans hk3 (by decide), fun ys LA hpm hpw hLA => ?_⟩⟩⟩⟩⟩⟩⟩⟩⟩
        have sL := same_new (o := .lst (ys.map V.str)) (Same.refl H) hLA
        have eL : (upd H LA (.lst (ys.map V.str))) LA = some (.lst (ys.map V.str)) := upd_same
        generalize upd H LA (.lst (ys.map V.str)) = H3 at sL eL ⊢
        have esy : ys = R.map Prod.fst := sorted_uniq (hpm.trans hfst.symm) hpw hasc
        subst esy
        refine ⟨LA, rfl, ⟨_, .inl (.inl eL)⟩, fun DL hDL => lc_it (walk_list (K := K) (a := LA) (xs := (R.map Prod.fst).map V.str)) (fun i H1 => H1 DL = some (.lst ((((R.take i).map fun r => mbr r.1 (txV r.2)).map strN).map V.str)) ∧ Same H3 H1) ⟨by rw [List.take_zero]; exact upd_same, same_new (Same.refl H3) hDL⟩ (fun _ _ _ q => .inl (.inl (q.2 _ _ eL))) ?_ ?_⟩
        · rintro i y H1' H2 hi2 ⟨e1, s1⟩ ⟨rfl, hy⟩
          rw [List.getElem?_map, List.getElem?_map] at hy
          obtain ⟨z, hz, rfl⟩ := Option.map_eq_some_iff.mp hy
          obtain ⟨r, hr', rfl⟩ := Option.map_eq_some_iff.mp hz
          obtain ⟨j, u, x, g1, g2, g3, g4⟩ := hrow i r hr'
          have hu := List.mem_of_getElem? g2
          have hz20 := hk20 _ (List.mem_of_getElem? g1)
          have hzl : r.1.cps.toList.length = r.1.cps.size := Array.length_toList
          have sl : sizeLine = 16777216 := rfl
          have lq := quo_len r.1.cps.toList
          refine ⟨rfl, ?_⟩
          dsimp only [tYes]
          refine iteT ⟨_, rfl, r.1.cps.toList, by rw [strN_cps]; rfl, by omega, _, _, rfl, rfl, ?_, _, rfl, _, rfl, p, x, rfl, ?_, x, u, d, rfl, ValAt.same (sL.trans s1) _ _ (hat j u x g2 g3), by omega, by omega, ht u hu, hg u hu, ?_, fun H4 s4 => ?_⟩
          · rw [strN_len, sl]
            show _ + 1 ≤ _
            omega
          · rw [← vkv j _ x g1 g3]
            exact DGet.k (k := Sum.inr r.1) (s1 _ _ (sL _ _ hp))
          · rw [← g4]
            exact hdu _ (List.mem_map.mpr ⟨r, List.mem_of_getElem? hr', rfl⟩)
          have lt := tx_len (tny_norm (ht u hu) fun _ _ _ => trivial)
          have lb := bnd6 (d := d) (by omega)
          refine ⟨_, _, rfl, rfl, ?_, _, s4 _ _ e1, ?_, ?_, fun b o e => ?_⟩
          · rw [show (":" : Str) = strN [58] from by decide +kernel, app_N, strN_len, strN_len, List.length_append, sl]
            show _ + 1 + _ ≤ _
            omega
          · rw [List.length_map, List.length_map, List.length_map, List.length_take]
            exact Nat.lt_of_le_of_lt (by omega : _ ≤ 3) (by decide)
          · rw [upd_same, List.take_add_one, hr', List.map_append, List.map_append, List.map_append, show (":" : Str) = strN [58] from by decide +kernel, app_N, app_N, ← g4]
            show _ = some (HO.lst (_ ++ [V.str (strN (quo r.1.cps.toList ++ 58 :: txV r.2))]))
            rw [List.append_assoc]
            rfl
          · rw [upd_ne (ne_of_none e hDL)]
            exact s4 _ _ (s1 _ _ e)
        · rintro H2 ⟨e1, s1⟩
          have er : ((R.map Prod.fst).map V.str).length = R.length := by rw [List.length_map, List.length_map]
          rw [er, List.take_length] at e1
          refine brack (b := bnd d + 43) (by decide +kernel) (by decide +kernel) e1 (by rw [List.length_map]; exact hR3) (fun l hl => ?_) (Nat.le_trans (Nat.add_le_add_right (bnd6 (by omega)) 43) (by decide)) (k H2 (sL.trans s1))
          obtain ⟨r, hr', rfl⟩ := List.mem_map.mp hl
          obtain ⟨i, hi⟩ := List.getElem?_of_mem hr'
          obtain ⟨j, u, x, g1, g2, g3, g4⟩ := hrow i r hi
          rw [g4]
          exact mbr_len (hk20 _ (List.mem_of_getElem? g1)) (tx_len (tny_norm (ht u (List.mem_of_getElem? g2)) fun _ _ _ => trivial))
end
end G58.V

set_option Elab.async false
set_option linter.all false
set_option pp.maxSteps 2500
set_option maxRecDepth 100000
set_option maxHeartbeats 4000000
/-! Drawn trees. -/
namespace G58.V
open PySem PySem.Spec PyProof.Rows L2 NumText TL StrLaws LamX
theorem nw_butG {H H1 H2 : Hp} {S : Addr} {o1 : HO} (hx : H S ≠ none) (h1 : H1 S = some o1) (hh : heldO o1 = true) (s : But S H1 H2) : Same (nw H H1) (nw H H2) := fun b o e => by
  obtain ⟨g1, g2⟩ := nw_some e
  refine nw_mk (s _ _ g1 ?_) g2
  rintro rfl
  rw [h1] at g1
  cases g1
  rcases g2 with g2 | g2
  · exact hx g2
  · rw [hh] at g2
    cases g2
theorem nwd_butG {H H1 H2 : Hp} {S y : Addr} {o1 : HO} (hx : H S ≠ none) (h1 : H1 S = some o1) (hh : heldO o1 = true) (s : But S H1 H2) : Same (nw H (del H1 y)) (nw H (del H2 y)) := fun b o e => by
  obtain ⟨g1, g2⟩ := nw_some e
  by_cases c : b = y
  · rw [c, del_same] at g1
    cases g1
  · rw [del_ne c] at g1
    refine nw_mk (del_at (s _ _ g1 ?_) c) g2
    rintro rfl
    rw [h1] at g1
    cases g1
    rcases g2 with g2 | g2
    · exact hx g2
    · rw [hh] at g2
      cases g2
theorem SrcAt.lst {H : Hp} {S : Addr} (h : SrcAt H S) : ∃ o, H S = some o ∧ heldO o = true := by
  obtain ⟨x, y, z, h⟩ := h
  exact ⟨_, h, rfl⟩
theorem Gr.src {H H1 : Hp} {S : Addr} (b : But S H H1) (h : SrcAt H1 S) : Gr H H1 := fun y e => by
  by_cases c : y = S
  · rw [c] at e
    exact absurd e h.ne
  · cases q : H y with
    | none => rfl
    | some o => rw [b _ _ q c] at e; cases e
theorem nw_del {H H' : Hp} {S : Addr} (hS : SrcAt H S) (hS' : SrcAt H' S) : Same (nw H H') (del H' S) := fun b o e => by
  obtain ⟨g1, g2⟩ := nw_some e
  refine del_at g1 ?_
  rintro rfl
  obtain ⟨o1, h1, h2⟩ := hS'.lst
  rw [h1] at g1
  cases g1
  rcases g2 with g2 | g2
  · exact hS.ne g2
  · rw [h2] at g2
    cases g2
theorem src_upd {H : Hp} {S p : Addr} {o : HO} (h : SrcAt H S) (n : p ≠ S) : SrcAt (L2.upd H p o) S := by
  obtain ⟨x, y, z, q⟩ := h
  exact ⟨x, y, z, by rw [upd_ne n.symm]; exact q⟩
theorem But.new {S y : Addr} {H H1 : Hp} {o : HO} (s : But S H H1) (hy : H y = none) : But S H (L2.upd H1 y o) := fun b u h n => by
  rw [upd_ne (ne_of_none h hy)]
  exact s _ _ h n
def spUnf : Sp := fun vs H Q _ => ∃ (S : Addr), vs = [.ref S] ∧ SrcAt H S ∧ ∀ (z : Str) (H' : Hp), (∃ l ∈ unfL, wrL l = z.cps.toList) → SrcAt H' S → But S H H' → Q (.str z) H'
def spTre (K : PySem.W.Frag) (a : Ad) (n : Nat) : Sp := fun vs H Q _ => ∃ (S : Addr) (d : Nat) (r : Int), vs = [.ref S, .int ((d : Nat) : Int), .int r] ∧ SrcAt H S ∧ d < n ∧ d ≤ 6 ∧ 0 < r ∧ r ≤ 18446744073709551616 ∧
  ∀ (y : V) (t : Val) (H' : Hp), ValAt K a (nw H H') t y → GdT t → TnyV d t → SrcAt H' S → But S H H' → Q y H'
theorem tx_of {l : Lf} (h1 : okL l = true) (h2 : goodL l) (h3 : tinyL l) (h4 : smallL l) : (TxL l ∧ okL l = true ∧ uvL l = .leaf l) ∧ (wrL l).length ≤ 500 := by
  cases l with
  | non => exact ⟨⟨trivial, h1, rfl⟩, by decide⟩
  | bl b => exact ⟨⟨trivial, h1, rfl⟩, by cases b <;> decide⟩
  | int i =>
    have h1' : (decide (-9223372036854775808 ≤ i) && decide (i ≤ 18446744073709551615)) = true := h1
    have q : -9223372036854775808 ≤ i ∧ i ≤ 18446744073709551615 := by simpa using h1'
    refine ⟨⟨show i.natAbs < 100000000000000000000 by omega, h1, rfl⟩, ?_⟩
    have := dc_len (n := i.natAbs) (by omega)
    show (dcI i).length ≤ 500
    unfold dcI
    split
    · rw [List.length_cons]
      omega
    · omega
  | str z =>
    refine ⟨⟨trivial, h1, rfl⟩, ?_⟩
    have h3 : z.cps.size ≤ 20 := h3
    have := quo_len z.cps.toList
    have e : z.cps.toList.length = z.cps.size := Array.length_toList
    show (quo z.cps.toList).length ≤ 500
    omega
  | thg y f =>
    have rng : ∀ {ns : List Int} {hi : Int}, (ns.map V.int).all (isIn 0 hi) = true → ∀ n ∈ ns, 0 ≤ n ∧ n ≤ hi := fun {ns hi} h n hn => by
      have := List.all_eq_true.mp h (.int n) (List.mem_map.mpr ⟨n, hn, rfl⟩)
      have this : (decide (0 ≤ n) && decide (n ≤ hi)) = true := this
      simpa using this
    cases f with
    | num m =>
      cases y with
      | u =>
        have h2 : (decide (0 ≤ m) && decide (m ≤ 18446744073709551615)) = true := h2
        have q : 0 ≤ m ∧ m ≤ 18446744073709551615 := by simpa using h2
        refine ⟨⟨⟨q.1, by omega⟩, h1, ?_⟩, ?_⟩
        · show (if m ≤ 18446744073709551615 then _ else _) = _
          rw [if_pos q.2]
        · have := dc_len (n := m.toNat) (by omega)
          show (117 :: dcN m.toNat).length ≤ 500
          rw [List.length_cons]
          omega
      | w => cases h2
      | d => cases h2
      | r => cases h2
      | t => cases h2
    | row ns =>
      have h3 : ns.length ≤ 100 := h3
      have hl : (natsI ns).length = ns.length := List.length_map ..
      cases y with
      | u => cases h2
      | w =>
        have h2 : ((ns.map V.int).all (isIn 0 65535) && !((ns.map V.int).all plainV)) = true := h2
        rw [Bool.and_eq_true] at h2
        have q := rng h2.1
        have hp : ns.all plainI = false := by
          have := h2.2
          rw [plain_I] at this
          simpa using this
        have hne : ns ≠ [] := fun z => by rw [z] at hp; cases hp
        have hpl : (natsI ns).all plainC = false := by
          rw [← plain_all]
          obtain ⟨q1, _⟩ := nats_ints (m := 65535) q
          show (intsL (natsI ns)).all plainI = false
          rw [q1]
          exact hp
        refine ⟨⟨⟨q, hne⟩, h1, ?_⟩, ?_⟩
        · show (if (natsI ns).all plainC = true then _ else _) = _
          rw [hpl]
          rfl
        · show (119 :: (natsI ns).flatMap hexU).length ≤ 500
          rw [List.length_cons, flat_len grpU]
          omega
      | d =>
        have q := rng h2
        refine ⟨⟨q, h1, rfl⟩, ?_⟩
        show (100 :: (natsI ns).flatMap hexB).length ≤ 500
        rw [List.length_cons, flat_len grpB]
        omega
      | r =>
        have h2 : ((ns.map V.int).all (isIn 0 255) && (decide ((ns.map V.int).length = 4) || decide ((ns.map V.int).length = 8))) = true := h2
        rw [Bool.and_eq_true, List.length_map] at h2
        have q := rng h2.1
        refine ⟨⟨⟨q, by simpa using h2.2⟩, h1, rfl⟩, ?_⟩
        show (114 :: (natsI ns).flatMap hexB).length ≤ 500
        rw [List.length_cons, flat_len grpB]
        omega
      | t =>
        have h2 : ((ns.map V.int).all (isIn 0 255) && decide ((ns.map V.int).length = 8)) = true := h2
        rw [Bool.and_eq_true, List.length_map] at h2
        have q := rng h2.1
        refine ⟨⟨⟨q, by simpa using h2.2⟩, h1, rfl⟩, ?_⟩
        show (116 :: (natsI ns).flatMap hexB).length ≤ 500
        rw [List.length_cons, flat_len grpB]
        omega
theorem vals_set {K : PySem.W.Frag} {a : Ad} {H : Hp} : ∀ {vs : List Val} {xs : List V} {v : Val} {y : V} {j : Nat}, ValsAt K a H vs xs → ValAt K a H v y → ValsAt K a H (vs.set j v) (xs.set j y)
  | [], xs, v, y, j, h, h2 => by
    unfold ValsAt at h
    subst h
    exact vals_nil
  | b :: r, xs, v, y, j, h, h2 => by
    unfold ValsAt at h
    obtain ⟨z, zs, rfl, h3, h4⟩ := h
    cases j with
    | zero => exact vals_cons h2 h4
    | succ j => exact vals_cons h3 (vals_set h4 h2)
/-- a put into a dictionary -/
theorem putK_any {k : Str} {y : V} : ∀ {ks : List Str} {xs : List V}, ks.Nodup → ks.length = xs.length → ∃ j, (k ∉ ks ∧ putK (kvT ks xs) (Sum.inr k) y = kvT (ks ++ [k]) (xs ++ [y])) ∨ (k ∈ ks ∧ putK (kvT ks xs) (Sum.inr k) y = kvT ks (xs.set j y)) := by
  intro ks xs hn hl
  by_cases c : k ∈ ks
  · obtain ⟨j, hj⟩ := List.getElem?_of_mem c
    refine ⟨j, .inr ⟨c, ?_⟩⟩
    unfold putK
    have hm : (Sum.inr k : Key) ∈ ks.map Sum.inr := List.mem_map.mpr ⟨k, c, rfl⟩
    rw [if_pos]
    · clear c hm
      induction ks generalizing xs j with
      | nil => rw [List.getElem?_nil] at hj; cases hj
      | cons z ks ih =>
        cases xs with
        | nil => cases hl
        | cons x xs =>
          obtain ⟨n1, n2⟩ := List.nodup_cons.mp hn
          cases j with
          | zero =>
            cases hj
            show (if (Sum.inr k : Key) = Sum.inr k then (Sum.inr k, y) else (Sum.inr k, x)) :: (kvT ks xs).map _ = (Sum.inr k, y) :: kvT ks xs
            rw [if_pos rfl]
            congr 1
            have : ∀ kv ∈ kvT ks xs, (fun kv : Key × V => if kv.1 = Sum.inr k then (kv.1, y) else kv) kv = id kv := fun kv hkv => by
              have h3 := (List.of_mem_zip (show (kv.1, kv.2) ∈ _ from hkv)).1
              obtain ⟨z, hz, e⟩ := List.mem_map.mp h3
              show (if kv.1 = Sum.inr k then (kv.1, y) else kv) = kv
              rw [if_neg]
              rw [← e]
              intro q
              exact n1 (Sum.inr.inj q ▸ hz)
            rw [List.map_congr_left this, List.map_id]
          | succ j =>
            have hz : k ∈ ks := List.mem_of_getElem? (show ks[j]? = some k from hj)
            show (if (Sum.inr z : Key) = Sum.inr k then (Sum.inr z, y) else (Sum.inr z, x)) :: (kvT ks xs).map _ = (Sum.inr z, x) :: kvT ks (xs.set j y)
            rw [if_neg (fun q => n1 (by rw [Sum.inr.inj q]; exact hz)), ih n2 (Nat.succ.inj hl) j hj]
    · obtain ⟨i, hi⟩ := List.getElem?_of_mem c
      have il := (List.getElem?_eq_some_iff.mp hi).1
      have : (Sum.inr k, xs[i]'(by omega)) ∈ kvT ks xs := List.mem_of_getElem? (i := i) (List.getElem?_zip_eq_some.mpr ⟨by rw [List.getElem?_map, hi]; rfl, List.getElem?_eq_getElem _⟩)
      exact List.any_eq_true.mpr ⟨_, this, decide_eq_true rfl⟩
  · exact ⟨0, .inl ⟨c, putK_zip c hl⟩⟩
section
variable {P : Program} {w : World} {K : PySem.W.Frag} {mg : Str → Option Value} {base : Heap} {a : Ad}
theorem scUnf : FnScope ["_law_source_here", "_law_some"] ["_law_source_here"] (defScope sUnf) := ⟨rfl, rfl, rfl, by decide +kernel, rfl, by decide +kernel, by decide +kernel⟩
theorem ok_unf (D : Df K a) (T : Txt K mg a) : FnOk P w K mg base CX0 3 a.fUnf D.dUnf ["_law_source_here"] spUnf := by
  have GPik : FnOk P w K mg base CX0 2 a.fPik D.dPik ["_law_source_here", "_law_items"] spPik := ok_pik D T
  refine D.FUnf.ok scUnf (fun vs H Q E h => ?_) (fun cdv A outer s H vs Q E hr h => ?_)
  · obtain ⟨S, rfl, _⟩ := h
    rfl
  · obtain ⟨S, rfl, hS, k⟩ := h
    refine ⟨_, (pss_cons (ps_set (i := 1) scUnf.nd rfl (.inl rfl) (pe_lst (pa_cons pe_str (pa_cons (pe_op op_add_str pe_str (pe_op op_mulS pe_str pe_int)) (pa_cons pe_str (pa_cons pe_str (pa_cons (pe_op op_mulS pe_str pe_int) pa_nil))))))) (pss_cons (ps_set (i := 1) scUnf.nd rfl (.inl rfl) (pe_op op_cat (pv 1) (pe_lst (pa_cons pe_str (pa_cons pe_str (pa_cons pe_str (pa_cons (pe_op op_add_str pe_str (pe_op op_mulS pe_str pe_int)) (pa_cons (pe_op op_add_str pe_str (pe_op op_mulS pe_str pe_int)) pa_nil)))))))) (pss_one (ps_ret (pe_call GPik hr rfl T.gPik D.FPik.kp D.bPik .nil pass0 (pa_cons (pv 0) (pa_cons (pe_op op_cat (pv 1) (pe_lst (pa_cons pe_str (pa_cons pe_str (pa_cons (pe_op op_add_str pe_str (pe_op op_mulS pe_str pe_int)) pa_nil))))) pa_nil))))))), ?_⟩
    have m20 : MulOk "9" 20 := ⟨by decide, fun _ _ => by decide +kernel, fun _ _ => by decide +kernel⟩
    have m19 : MulOk "0" 19 := ⟨by decide, fun _ _ => by decide +kernel, fun _ _ => by decide +kernel⟩
    have m5 : MulOk "005a" 5 := ⟨by decide, fun _ _ => by decide +kernel, fun _ _ => by decide +kernel⟩
    refine ⟨_, _, rfl, rfl, m20, _, _, rfl, rfl, by decide +kernel, _, _, rfl, rfl, m20, by show 5 ≤ sizeLine; decide, fun L1 hL1 => ?_⟩
    obtain ⟨s1, e1⟩ := new_at (.lst [.str "u18446744073709551616", .str ("u" ++ Txt.mul "9" 20), .str "18446744073709551616", .str "-9223372036854775809", .str (Txt.mul "9" 20)]) hL1
    refine ⟨_, rfl, _, _, rfl, rfl, m20, _, _, rfl, rfl, by decide +kernel, _, _, rfl, rfl, m19, _, _, rfl, rfl, by decide +kernel, by show 5 ≤ sizeLine; decide, fun L2 hL2 => ?_⟩
    obtain ⟨s2, e2⟩ := new_at (.lst [.str "w0041", .str "w00200020007e", .str "w0061", .str ("-" ++ Txt.mul "9" 20), .str ("u2" ++ Txt.mul "0" 19)]) hL2
    refine catV (s2 _ _ e1) e2 (by show 5 + 5 ≤ _; decide) fun L3 H3 hL3 s3 e3 => ?_
    have s03 := (s1.trans s2).trans s3
    refine ⟨_, rfl, _, rfl, _, _, rfl, rfl, m5, _, _, rfl, rfl, by decide +kernel, by show 3 ≤ sizeLine; decide, fun L4 hL4 => ?_⟩
    obtain ⟨s4, e4⟩ := new_at (.lst [.str "-18446744073709551615", .str "w0026", .str ("w" ++ Txt.mul "005a" 5)]) hL4
    refine catV (s4 _ _ e3) e4 (by show 10 + 3 ≤ _; decide) fun L5 H5 hL5 s5 e5 => ?_
    have s05 := s03.trans (s4.trans s5)
    have hS5 := src_same hS s05
    have nL5 : L5 ≠ S := fun z => by
      obtain ⟨y1, y2, y3, h⟩ := hS5
      rw [← z, e5] at h
      cases h
    refine ⟨S, L5, _, rfl, hS5, e5, nL5, by show 0 < 13; decide, by show 13 < 1000; decide, fun j x H6 hx hS6 b6 _ => ?_⟩
    obtain ⟨z, rfl, hz⟩ : ∃ z : Str, x = .str z ∧ ∃ l ∈ unfL, wrL l = z.cps.toList := by
      have := List.mem_of_getElem? hx
      simp only [List.mem_append, List.mem_cons, List.not_mem_nil, or_false] at this
      rcases this with ((rfl | rfl | rfl | rfl | rfl) | rfl | rfl | rfl | rfl | rfl) | rfl | rfl | rfl
      · exact ⟨_, rfl, .thg .u (.num 18446744073709551616), by simp [unfL], by decide +kernel⟩
      · exact ⟨_, rfl, .thg .u (.num 99999999999999999999), by simp [unfL], by decide +kernel⟩
      · exact ⟨_, rfl, .int 18446744073709551616, by simp [unfL], by decide +kernel⟩
      · exact ⟨_, rfl, .int (-9223372036854775809), by simp [unfL], by decide +kernel⟩
      · exact ⟨_, rfl, .int 99999999999999999999, by simp [unfL], by decide +kernel⟩
      · exact ⟨_, rfl, .thg .w (.row [65]), by simp [unfL], by decide +kernel⟩
      · exact ⟨_, rfl, .thg .w (.row [32, 32, 126]), by simp [unfL], by decide +kernel⟩
      · exact ⟨_, rfl, .thg .w (.row [97]), by simp [unfL], by decide +kernel⟩
      · exact ⟨_, rfl, .int (-99999999999999999999), by simp [unfL], by decide +kernel⟩
      · exact ⟨_, rfl, .thg .u (.num 20000000000000000000), by simp [unfL], by decide +kernel⟩
      · exact ⟨_, rfl, .int (-18446744073709551615), by simp [unfL], by decide +kernel⟩
      · exact ⟨_, rfl, .thg .w (.row [38]), by simp [unfL], by decide +kernel⟩
      · exact ⟨_, rfl, .thg .w (.row [90, 90, 90, 90, 90]), by simp [unfL], by decide +kernel⟩
    exact k z H6 hz hS6 ((Same.but s05).trans b6)
theorem scTre : FnScope ["_law_source_here", "_law_deep", "_law_rare", "_law_way", "_law_k", "_law_found"] ["_law_source_here", "_law_deep", "_law_rare"] (defScope sTre) := ⟨rfl, rfl, rfl, by decide +kernel, rfl, by decide +kernel, by decide +kernel⟩
theorem ok_tre (D : Df K a) (T : Txt K mg a) : ∀ n : Nat, FnOk P w K mg base CX0 (n + 8) a.fTre D.dTre ["_law_source_here", "_law_deep", "_law_rare"] (spTre K a n)
  | 0 => ok_elim fun vs H Q E h => by
    obtain ⟨S, d, r, _, _, hd, _⟩ := h
    omega
  | n + 1 => by
    have GTre : FnOk P w K mg base CX0 (n + 8) a.fTre D.dTre ["_law_source_here", "_law_deep", "_law_rare"] (spTre K a n) := ok_tre D T n
    have GDrw : FnOk P w K mg base CX0 1 a.fDrw D.dDrw ["_law_source_here", "_law_many"] spDrw := ok_drw D T
    have GPik : FnOk P w K mg base CX0 2 a.fPik D.dPik ["_law_source_here", "_law_items"] spPik := ok_pik D T
    have GUnf : FnOk P w K mg base CX0 3 a.fUnf D.dUnf ["_law_source_here"] spUnf := ok_unf D T
    have GLea : FnOk P w K mg base CX0 7 a.fLea D.dLea ["_law_source_here"] (spLea K a) := ok_lea D T
    refine D.FTre.ok (k := n + 8) scTre (fun vs H Q E h => ?_) (fun cdv A outer s H vs Q E hr h => ?_)
    · obtain ⟨S, d, r, rfl, _⟩ := h
      rfl
    · obtain ⟨S, d, r, rfl, hS, hd, hd6, hr0, hr1', k⟩ := h
      have hr7 : Room 7 _ := hr.mono (by omega)
      have hr3 : Room 3 _ := hr.mono (by omega)
      have hr2 : Room 2 _ := hr.mono (by omega)
      have hr1 : Room 1 _ := hr.mono (by omega)
      have hud := hu_of hr
      refine ⟨_, (pss_cons (ps_if (pt_cmpR op_eq (pe_call GDrw hr1 rfl T.gDrw D.FDrw.kp D.bDrw .nil pass0 (pa_cons (pv 0) (pa_cons (pv 2) pa_nil))) pe_int (nomark _)) (pss_one (ps_ret (pe_tup (pa_cons pe_str (pa_cons (pe_call GUnf hr3 rfl T.gUnf D.FUnf.kp D.bUnf .nil pass0 (pa_cons (pv 0) pa_nil)) pa_nil))))) pss_nil) (pss_cons (ps_set (i := 3) scTre.nd rfl (.inl rfl) (pe_call GDrw hr1 rfl T.gDrw D.FDrw.kp D.bDrw .nil pass0 (pa_cons (pv 0) (pa_cons pe_int pa_nil)))) (pss_cons (ps_if (PW.pt (pw_or (pt_cmpR op_eq (pv 1) pe_int (nomark _)) (pw_or1 (pt_cmpR op_eq (pv 3) pe_int (nomark _))))) (pss_one (ps_ret (pe_call GLea hr7 rfl T.gLea D.FLea.kp D.bLea .nil pass0 (pa_cons (pv 0) pa_nil)))) pss_nil) (pss_cons (ps_if (pt_cmpR op_eq (pv 3) pe_int (nomark _)) (pss_one (ps_ret (pe_lc (own := [("_law_k", 4)]) (g := (gName 4)) (tt := tYes) rfl scTre.nd (pi_range1 (by rfl) T.brange (pa_cons (pe_call GDrw hr1 rfl T.gDrw D.FDrw.kp D.bDrw .nil pass0 (pa_cons (pv 0) (pa_cons pe_int pa_nil))) pa_nil)) (blkOk_by (N := ["_law_source_here", "_law_deep", "_law_rare", "_law_way", "_law_k", "_law_found"]) (sc := defScope sTre) (by decide +kernel)) (fun _ _ _ _ _ => (pg_name (i := 4) scTre.nd rfl (.inl rfl))) (fun _ _ _ _ _ => pts_nil) (fun _ _ _ _ _ => (pe_call GTre hr rfl T.gTre D.FTre.kp D.bTre .nil pass0 (pa_cons (pv 0) (pa_cons (pe_op op_sub (pv 1) pe_int) (pa_cons (pv 2) pa_nil)))))))) pss_nil) (pss_cons (ps_set (i := 5) scTre.nd rfl (.inl rfl) pe_dnewK) (pss_cons (ps_for PassesOwn.never rfl (pi_range1 (by rfl) T.brange (pa_cons (pe_call GDrw hr1 rfl T.gDrw D.FDrw.kp D.bDrw .nil pass0 (pa_cons (pv 0) (pa_cons pe_int pa_nil))) pa_nil)) (pg_name (i := 4) scTre.nd rfl (.inl rfl)) (pss_one (ps_dput hud (pv 5) (pe_call GPik hr2 rfl T.gPik D.FPik.kp D.bPik .nil pass0 (pa_cons (pv 0) (pa_cons (pe_lst (pa_cons pe_str (pa_cons pe_str (pa_cons pe_str (pa_cons pe_str (pa_cons pe_str (pa_cons pe_str (pa_cons pe_str (pa_cons pe_str (pa_cons pe_str pa_nil)))))))))) pa_nil))) (pe_call GTre hr rfl T.gTre D.FTre.kp D.bTre .nil pass0 (pa_cons (pv 0) (pa_cons (pe_op op_sub (pv 1) pe_int) (pa_cons (pv 2) pa_nil)))) rfl))) (pss_one (ps_ret (pv 5))))))))), ?_⟩
      refine ⟨_, rfl, _, rfl, S, r, rfl, hS, hr0, hr1', fun q H1 q0 q1 hS1 b1 _ => ⟨rfl, _, rfl, ?_⟩⟩
      by_cases c : q = 0
      · rw [decide_eq_true (congrArg V.int c)]
        refine iteT ⟨_, rfl, S, rfl, hS1, fun z H2 hz hS2 b2 => ⟨by show 2 ≤ sizeLine; decide, fun tp htp => ?_⟩⟩
        obtain ⟨s3, e3⟩ := new_at (.tup [.str "text", .str z]) htp
        obtain ⟨l, hl, el⟩ := hz
        refine k _ (.tup [.str "text", .str z]) _ ?_ ?_ ?_ (src_same hS2 s3) ((b1.trans b2).trans (Same.but s3))
        · unfold ValAt
          exact ⟨tp, rfl, .inl (.inl (nw_mk e3 (.inr rfl)))⟩
        · unfold GdT
          exact ⟨_, z, l, rfl, hl, el⟩
        · refine tny_tup.mpr ?_
          show z.cps.toList.length ≤ 500
          rw [← el]
          have : ∀ l ∈ unfL, (wrL l).length ≤ 500 := by
            intro l hl
            simp only [unfL, List.mem_cons, List.not_mem_nil, or_false] at hl
            rcases hl with rfl | rfl | rfl | rfl | rfl | rfl | rfl | rfl | rfl | rfl | rfl | rfl | rfl <;> decide +kernel
          exact this l hl
      rw [decide_eq_false fun z => c (V.int.inj z)]
      refine iteF ⟨_, rfl, S, 4, rfl, hS1, by decide, by decide, fun m H2 m0 m1 hS2 b2 _ => ?_⟩
      have b12 := b1.trans b2
      have leaf : ∀ R : VK, (∀ y H', Q y H' → R y H') → spLea K a [.ref S] H2 R E0 := fun R hR => ⟨S, rfl, hS2, fun v l H3 hL h1 h2 h3 h4 hS3 b3 => hR _ _ (k v (.leaf l) H3 (val_leaf (LfAt.nw hL)) (by unfold GdT; exact (tx_of h1 h3 h4 h2).1) (tny_leaf.mpr ⟨(tx_of h1 h3 h4 h2).2, h2⟩) hS3 (b12.trans b3))⟩
      refine ⟨_, rfl, rfl, _, rfl, ?_⟩
      by_cases c0 : d = 0
      · rw [decide_eq_true (show V.int ((d : Nat) : Int) = V.int 0 by rw [c0]; rfl)]
        exact iteT (iteT ⟨_, rfl, leaf Q fun _ _ h => h⟩)
      rw [decide_eq_false (fun z : V.int ((d : Nat) : Int) = V.int 0 => c0 (by have := V.int.inj z; omega))]
      refine iteF ⟨_, rfl, rfl, _, rfl, ?_⟩
      by_cases c1 : m = 0
      · rw [decide_eq_true (congrArg V.int c1)]
        exact iteT ⟨_, rfl, leaf Q fun _ _ h => h⟩
      rw [decide_eq_false fun z => c1 (V.int.inj z)]
      obtain ⟨e, rfl⟩ : ∃ e, d = e + 1 := ⟨d - 1, by omega⟩
      have ed : (((e + 1 : Nat) : Int) - 1) = ((e : Nat) : Int) := by omega
      refine iteF ⟨_, rfl, rfl, _, rfl, ?_⟩
      by_cases c2 : m = 1
      · rw [decide_eq_true (congrArg V.int c2)]
        refine iteT ⟨_, rfl, S, 4, rfl, hS2, by decide, by decide, fun u H3 u0 u1 hS3 b3 _ => ⟨u, rfl, by omega, by omega, fun DL hDL => ?_⟩⟩
        have b13 := b12.trans b3
        have nL := src_ne hS3 hDL
        have g3 : Gr H H3 := Gr.src b13 hS3
        have DLn : H DL = none := g3 _ hDL
        refine lc_it walk_range (fun i H' => ∃ (ys : List V) (ts : List Val), ys.length = i ∧ ts.length = i ∧ H' DL = some (.lst ys) ∧ ValsAt K a (nw H (del H' DL)) ts ys ∧ (∀ t ∈ ts, GdT t ∧ TnyV e t) ∧ SrcAt H' S ∧ But S H H')
          ⟨[], [], rfl, rfl, upd_same, vals_nil, (fun _ z => nomatch z), src_upd hS3 nL, b13.new DLn⟩ (fun _ _ _ _ => True.intro) ?_ ?_
        · rintro i y H4' H4 hi ⟨ys, ts, ly, lt, eL, hV, ht, hS4, b4⟩ ⟨rfl, rfl⟩
          have g4 : Gr H H4 := Gr.src b4 hS4
          refine ⟨rfl, ?_⟩
          dsimp only [tYes]
          refine iteT ⟨_, rfl, _, rfl, _, _, rfl, rfl, _, rfl, S, e, r, by show [V.ref S, V.int (((e + 1 : Nat) : Int) - 1), V.int r] = _; rw [ed], hS4, by omega, by omega, hr0, hr1', fun y t H5 hV5 hg5 ht5 hS5 b5 => ?_⟩
          obtain ⟨o4, h4, hh4⟩ := hS4.lst
          have eL5 := b5 _ _ eL nL
          refine ⟨_, eL5, Nat.lt_of_lt_of_le (by omega : ys.length < 200) (by decide), ys ++ [y], ts ++ [t], by rw [List.length_append, ly]; rfl, by rw [List.length_append, lt]; rfl, upd_same, ?_, ?_, src_upd hS5 nL, (b4.trans b5).new DLn⟩
          · rw [nwd_upd]
            refine vals_snoc (ValsAt.same (nwd_butG hS.ne h4 hh4 b5) _ _ hV) (ValAt.same (nwd_gr g4 ?_ eL5 rfl) _ _ hV5)
            rw [eL]
            exact fun z => nomatch z
          · intro t' ht'
            rcases List.mem_append.mp ht' with q | q
            · exact ht t' q
            · rw [List.mem_singleton.mp q]
              exact ⟨hg5, ht5⟩
        · rintro H4 ⟨ys, ts, ly, lt, eL, hV, ht, hS4, b4⟩
          refine k _ (.lst ts) H4 (val_lst (nw_mk eL (.inl DLn)) (ValsAt.same nwd_sub _ _ hV)) ?_ ⟨by omega, fun t h => (ht t h).2⟩ hS4 b4
          unfold GdT
          exact GdTs_all.mpr fun t h => (ht t h).1
      rw [decide_eq_false fun z => c2 (V.int.inj z)]
      refine iteF fun DL hDL => ?_
      have nL := src_ne hS2 hDL
      have g2 : Gr H H2 := Gr.src b12 hS2
      have DLn : H DL = none := g2 _ hDL
      have hS3 := src_upd (o := .dK []) hS2 nL
      have b3 : But S H (upd H2 DL (.dK [])) := b12.new DLn
      have eL0 : (upd H2 DL (.dK [])) DL = some (.dK (kvT [] [])) := upd_same
      generalize upd H2 DL (.dK []) = H3 at hS3 b3 eL0 ⊢
      refine ⟨_, rfl, S, 4, rfl, hS3, by decide, by decide, fun u H4 u0 u1 hS4 b4 _ => ⟨u, rfl, by omega, by omega, ?_⟩⟩
      refine for_it walk_range (fun i st H' => ∃ (z : Option V) (ks : List Str) (ys : List V) (ts : List Val), st = [some (.ref S), some (.int ((e + 1 : Nat) : Int)), some (.int r), some (.int m), z, some (.ref DL)] ∧ ks.length = ys.length ∧ ts.length = ys.length ∧ ks.length ≤ i ∧ ks.Nodup ∧ (∀ q ∈ ks, q.cps.toList.all plainC = true ∧ q.cps.size ≤ 20) ∧ H' DL = some (.dK (kvT ks ys)) ∧ ValsAt K a (nw H (del H' DL)) ts ys ∧ (∀ t ∈ ts, GdT t ∧ TnyV e t) ∧ SrcAt H' S ∧ But S H H')
        ⟨_, [], [], [], rfl, rfl, rfl, Nat.zero_le _, List.nodup_nil, (fun _ z => nomatch z), b4 _ _ eL0 nL, vals_nil, (fun _ z => nomatch z), hS4, b3.trans b4⟩ (fun _ _ _ _ _ => True.intro) ?_ ?_
      · rintro i y st H5' H5 hi ⟨z, ks, ys, ts, rfl, lk, lt, li, hn, hp, eL, hV, ht, hS5, b5⟩ ⟨rfl, rfl⟩
        have hi : i < u.toNat := hi
        have g5 : Gr H H5 := Gr.src b5 hS5
        refine ⟨_, rfl, _, rfl, _, _, rfl, rfl, _, rfl, S, e, r, by show [V.ref S, V.int (((e + 1 : Nat) : Int) - 1), V.int r] = _; rw [ed], hS5, by omega, by omega, hr0, hr1', fun y t H6 hV6 hg6 ht6 hS6 b6 => ?_⟩
        obtain ⟨o5, h5, hh5⟩ := hS5.lst
        have eL6 := b6 _ _ eL nL
        refine ⟨_, rfl, _, rfl, by show 9 ≤ sizeLine; decide, fun L hL => pickL (E := E0) hS6 hL (by show 0 < 9; decide) (by show 9 < 1000; decide) fun j x H7 hx hS7 b7 => ?_⟩
        obtain ⟨kk, rfl, hkp⟩ : ∃ kk : Str, x = .str kk ∧ (kk.cps.toList.all plainC = true ∧ kk.cps.size ≤ 20) := by
          have := List.mem_of_getElem? hx
          simp only [List.mem_cons, List.not_mem_nil, or_false] at this
          rcases this with rfl | rfl | rfl | rfl | rfl | rfl | rfl | rfl | rfl <;> exact ⟨_, rfl, by decide +kernel⟩
        have eL7 := b7 _ _ eL6 nL
        obtain ⟨o6, h6, hh6⟩ := hS6.lst
        have b67 := b6.trans b7
        refine ⟨DL, _, rfl, DPut.k (k := Sum.inr kk) eL7 ?_, ?_⟩
        · rw [kvT_len lk]
          exact Nat.lt_of_lt_of_le (by omega : _ < 200) (by decide)
        have hV7 : ValsAt K a (nw H (del H7 DL)) ts ys := ValsAt.same (nwd_butG hS.ne h5 hh5 b67) _ _ hV
        have hV67 : ValAt K a (nw H (del H7 DL)) t y := by
          refine ValAt.same (nwd_butG hS.ne h6 hh6 b7) _ _ (ValAt.same (nwd_gr g5 ?_ eL6 rfl) _ _ hV6)
          rw [eL]
          exact fun z => nomatch z
        obtain ⟨jj, hput⟩ := putK_any (k := kk) (y := y) hn lk
        rcases hput with ⟨nk, ep⟩ | ⟨nk, ep⟩
        · rw [ep]
          refine ⟨_, ks ++ [kk], ys ++ [y], ts ++ [t], rfl, by rw [List.length_append, List.length_append, lk]; rfl, by rw [List.length_append, List.length_append, lt]; rfl, by rw [List.length_append]; show _ + 1 ≤ _; omega, ?_, ?_, upd_same, ?_, ?_, src_upd hS7 nL, (b5.trans b67).new DLn⟩
          · refine List.nodup_append.mpr ⟨hn, by simp, fun q hq r hr2 z => ?_⟩
            rw [List.mem_singleton.mp hr2] at z
            exact nk (z ▸ hq)
          · intro q hq
            rcases List.mem_append.mp hq with q1 | q1
            · exact hp q q1
            · rw [List.mem_singleton.mp q1]
              exact hkp
          · rw [nwd_upd]
            exact vals_snoc hV7 hV67
          · intro t' ht'
            rcases List.mem_append.mp ht' with q | q
            · exact ht t' q
            · rw [List.mem_singleton.mp q]
              exact ⟨hg6, ht6⟩
        · rw [ep]
          refine ⟨_, ks, ys.set jj y, ts.set jj t, rfl, by rw [List.length_set]; exact lk, by rw [List.length_set, List.length_set]; exact lt, by omega, hn, hp, upd_same, ?_, ?_, src_upd hS7 nL, (b5.trans b67).new DLn⟩
          · rw [nwd_upd]
            exact vals_set hV7 hV67
          · intro t' ht'
            rcases List.mem_or_eq_of_mem_set ht' with q | q
            · exact ht t' q
            · rw [q]
              exact ⟨hg6, ht6⟩
      · rintro st H5 ⟨z, ks, ys, ts, rfl, lk, lt, li, hn, hp, eL, hV, ht, hS5, b5⟩
        refine ⟨_, rfl, k _ (.dic ks ts) H5 (val_dic (nw_mk eL (.inl DLn)) lk hn (ValsAt.same nwd_sub _ _ hV)) ?_ ⟨by omega, by omega, fun q hq => (hp q hq).2, fun t h => (ht t h).2⟩ hS5 b5⟩
        unfold GdT
        exact ⟨by omega, hn, fun q hq => (hp q hq).1, GdTs_all.mpr fun t h => (ht t h).1⟩
end
end G58.V

set_option Elab.async false
set_option linter.all false
set_option pp.maxSteps 2500
set_option maxRecDepth 100000
set_option maxHeartbeats 4000000
/-! Texts of trees, keys in any order. -/
namespace G58.V
open PySem PySem.Spec PyProof.Rows L2 NumText TL StrLaws LamX
def spTxx (K : PySem.W.Frag) (a : Ad) (n : Nat) : Sp := fun vs H Q _ => ∃ (S : Addr) (x : V) (t : Val) (d : Nat), vs = [.ref S, x] ∧ SrcAt H S ∧ ValAt K a (del H S) t x ∧ d < n ∧ d ≤ 6 ∧ TnyV d t ∧ GdT t ∧
  ∀ (t' : Val) (H' : Hp), normV t' = normV t → GdT t' → TnyV d t' → SrcAt H' S → But S H H' → Q (.str (strN (txV t'))) H'
theorem er_perm {α : Type} : ∀ {l : List α} {r : Nat} {y : α}, l[r]? = some y → (y :: l.eraseIdx r).Perm l
  | [], r, y, h => by rw [List.getElem?_nil] at h; cases h
  | z :: l, 0, y, h => by
    cases h
    exact List.Perm.refl _
  | z :: l, r + 1, y, h => by
    have ih := er_perm (l := l) (r := r) (y := y) h
    show (y :: z :: l.eraseIdx r).Perm (z :: l)
    exact (List.Perm.swap z y _).trans (ih.cons z)
theorem er_map {α β : Type} {f : α → β} : ∀ (l : List α) (r : Nat), (l.map f).eraseIdx r = (l.eraseIdx r).map f
  | [], r => rfl
  | z :: l, 0 => rfl
  | z :: l, r + 1 => by
    show f z :: (l.map f).eraseIdx r = f z :: (l.eraseIdx r).map f
    rw [er_map l r]
theorem dic_norm {ks : List Str} {vs : List Val} {rs : List (Str × Val)} (hl : ks.length = vs.length) (hn : ks.Nodup) (hp : (rs.map Prod.fst).Perm ks) (hr : ∀ r ∈ rs, ∃ (j : Nat) (u : Val), ks[j]? = some r.1 ∧ vs[j]? = some u ∧ normV r.2 = normV u) :
    normV (.dic (rs.map Prod.fst) (rs.map Prod.snd)) = normV (.dic ks vs) := by
  have n1 := hp.nodup_iff.mpr hn
  refine (norm_dic (by rw [List.length_map, List.length_map]) hl n1 hn).mpr ⟨hp, fun i j z b c h1 h2 h3 h4 => ?_⟩
  rw [List.getElem?_map] at h1 h2
  obtain ⟨r, hi, rfl⟩ := Option.map_eq_some_iff.mp h1
  rw [hi] at h2
  have e2 : r.2 = b := Option.some.inj h2
  obtain ⟨j', u, g1, g2, g3⟩ := hr r (List.mem_of_getElem? hi)
  have ej : j' = j := by
    obtain ⟨l1, z1⟩ := List.getElem?_eq_some_iff.mp g1
    obtain ⟨l2, z2⟩ := List.getElem?_eq_some_iff.mp h3
    exact (List.getElem_inj hn).mp (z1.trans z2.symm)
  subst ej
  rw [h4] at g2
  cases g2
  rw [← e2]
  exact g3
theorem lst_norm {vs us : List Val} (h : us.map normV = vs.map normV) : normV (.lst us) = normV (.lst vs) := by
  rw [normV, normV, normVs_map, normVs_map, h]
section
variable {P : Program} {w : World} {K : PySem.W.Frag} {mg : Str → Option Value} {base : Heap} {a : Ad}
theorem ty_tup (T : Txt K mg a) {H : Hp} {l : Lf} {v : V} (h : LfAt K a H l v) : ∃ t, TyX K H v t ∧ PySem.W.kitOne K t (.type "tuple") = some false ∧ PySem.W.kitOne K t (.type "list") = some false ∧ PySem.W.kitOne K t (.type "dict") = some false := by
  cases l with
  | non => cases h; exact ⟨_, .base .non, kit_ty (by decide +kernel), kit_ty (by decide +kernel), kit_ty (by decide +kernel)⟩
  | bl b => cases h; exact ⟨_, .base (.bl b), kit_ty (by decide +kernel), kit_ty (by decide +kernel), kit_ty (by decide +kernel)⟩
  | int i => cases h; exact ⟨_, .base (.int i), kit_ty (by decide +kernel), kit_ty (by decide +kernel), kit_ty (by decide +kernel)⟩
  | str z => cases h; exact ⟨_, .base (.str z), kit_ty (by decide +kernel), kit_ty (by decide +kernel), kit_ty (by decide +kernel)⟩
  | thg y f =>
    obtain ⟨p, rfl, h⟩ := h
    refine ⟨_, th_ty T h, ?_, ko_t T y "list" (by simp), ko_t T y "dict" (by simp)⟩
    cases y
    · exact T.koWide_tuple
    · exact T.koData_tuple
    · exact T.koUid_tuple
    · exact T.koReal_tuple
    · exact T.koDate_tuple
theorem scTxx : FnScope ["_law_source_here", "_law_thing", "_law_left", "_law_shows", "_law_key", "_law_one"] ["_law_source_here", "_law_thing"] (defScope sTxx) := ⟨rfl, rfl, rfl, by decide +kernel, rfl, by decide +kernel, by decide +kernel⟩
theorem ok_txx (D : Df K a) (T : Txt K mg a) : ∀ n : Nat, FnOk P w K mg base CX0 (n + 10) a.fTxx D.dTxx ["_law_source_here", "_law_thing"] (spTxx K a n)
  | 0 => ok_elim fun vs H Q E h => by
    obtain ⟨S, x, t, d, _, _, _, hd, _⟩ := h
    omega
  | n + 1 => by
    have GTxx : FnOk P w K mg base CX0 (n + 10) a.fTxx D.dTxx ["_law_source_here", "_law_thing"] (spTxx K a n) := ok_txx D T n
    have GDrw : FnOk P w K mg base CX0 1 a.fDrw D.dDrw ["_law_source_here", "_law_many"] spDrw := ok_drw D T
    have GQuo : FnOk P w K mg base CX0 1 a.fQuo D.dQuo ["_law_word"] spQuo := ok_quo D T
    have GWri : FnOk P w K mg base CX0 9 a.fWri D.dWri ["_law_thing"] (spWri K a 7) := ok_wri D T 7
    refine D.FTxx.ok (k := n + 10) scTxx (fun vs H Q E h => ?_) (fun cdv A outer s H vs Q E hr h => ?_)
    · obtain ⟨S, x, t, d, rfl, _⟩ := h
      rfl
    · obtain ⟨S, x, t, d, rfl, hS, hV, hd, hd6, ht, hg, k⟩ := h
      have hrw : Room 9 _ := hr.mono (by omega)
      have hr1 : Room 1 _ := hr.mono (by omega)
      have hud := hu_of hr
      refine ⟨_, (pss_cons (ps_if (pt_val (pe_callB call_isi (by rfl) T.bisinstance (by decide +kernel) (pa_cons (pv 1) (pa_cons (pe_bltn (v := .ty "tuple") rfl T.btuple (by decide +kernel) rfl) pa_nil)))) (pss_one (ps_ret (pe_ix ix_tup (pv 1) pe_int (fun _ _ => rfl)))) pss_nil) (pss_cons (ps_if (pt_val (pe_callB call_isi (by rfl) T.bisinstance (by decide +kernel) (pa_cons (pv 1) (pa_cons (pe_bltn (v := .ty "list") rfl T.blist (by decide +kernel) rfl) pa_nil)))) (pss_one (ps_ret (pe_op op_add_str (pe_op op_add_str pe_str (pe_join pe_str (pe_lc (own := [("_law_one", 5)]) (g := (gName 5)) (tt := tYes) rfl scTxx.nd (pi_list (pv 1)) (blkOk_by (N := ["_law_source_here", "_law_thing", "_law_left", "_law_shows", "_law_key", "_law_one"]) (sc := defScope sTxx) (by decide +kernel)) (fun _ _ _ _ _ => (pg_name (i := 5) scTxx.nd rfl (.inl rfl))) (fun _ _ _ _ _ => pts_nil) (fun _ _ _ _ _ => (pe_call GTxx hr rfl T.gTxx D.FTxx.kp D.bTxx .nil pass0 (pa_cons (pv 0) (pa_cons (pv 5) pa_nil))))))) pe_str))) pss_nil) (pss_cons (ps_if (pt_val (pe_callB call_isi (by rfl) T.bisinstance (by decide +kernel) (pa_cons (pv 1) (pa_cons (pe_bltn (v := .ty "dict") rfl T.bdict (by decide +kernel) rfl) pa_nil)))) (pss_cons (ps_par (i := 2) (j := 3) rfl scTxx.nd rfl rfl (by decide) rfl rfl (pa_cons (pe_callTy (call_listD rfl) (by rfl) T.blist (by decide +kernel) (pa_cons (pv 1) pa_nil)) (pa_cons (pe_lst pa_nil) pa_nil)) rfl) (pss_cons (ps_while PassesOwn.never (pt_cmpR (op_neNil hr.units0) (pv 2) (pe_lst pa_nil) (nomark _)) (pss_cons (ps_set (i := 4) scTxx.nd rfl (.inl rfl) (pe_bm PySem.F.plainAttrs_list PySem.F.slot_list_pop PySem.F.type_list_pop mt_popAt (pv 2) (pa_cons (pe_call GDrw hr1 rfl T.gDrw D.FDrw.kp D.bDrw .nil pass0 (pa_cons (pv 0) (pa_cons (pe_callB call_len_seq (by rfl) T.blen PySem.boot_len (pa_cons (pv 2) pa_nil)) pa_nil))) pa_nil))) (pss_one (ps_expr (pe_bm PySem.F.plainAttrs_list PySem.F.slot_list_append PySem.F.type_list_append mt_append (pv 3) (pa_cons (pe_op op_add_str (pe_op op_add_str (pe_call GQuo hr1 rfl T.gQuo D.FQuo.kp D.bQuo .nil pass0 (pa_cons (pv 4) pa_nil)) pe_str) (pe_call GTxx hr rfl T.gTxx D.FTxx.kp D.bTxx .nil pass0 (pa_cons (pv 0) (pa_cons (pe_dget hud (pv 1) (pv 4) (fun _ _ => rfl)) pa_nil)))) pa_nil)))))) (pss_one (ps_ret (pe_op op_add_str (pe_op op_add_str pe_str (pe_join pe_str (pv 3))) pe_str))))) pss_nil) (pss_one (ps_ret (pe_call GWri hrw rfl T.gWri D.FWri.kp D.bWri .nil pass0 (pa_cons (pv 1) pa_nil))))))), ?_⟩
      have sl : sizeLine = 16777216 := rfl
      cases t with
      | odd => exact absurd ht tny_odd
      | tup xs =>
        have hV0 := hV
        unfold ValAt at hV
        obtain ⟨p, rfl, hp⟩ := hV
        have hp := Same.tup del_sub hp
        have hg0 := hg
        unfold GdT at hg
        obtain ⟨u, z, l, rfl, hl, el⟩ := hg
        refine ⟨_, rfl, .ref p, .ty "tuple", _, _, true, rfl, .ty _, sqT_ty hp, kit_ty (by decide +kernel), _, rfl, iteT ⟨_, rfl, p, [u, .str z], 1, .str z, rfl, rfl, hp, rfl, ?_⟩⟩
        have := k (.tup [u, .str z]) H rfl hg0 ht hS (But.refl S H)
        unfold txV at this
        rw [show strN (tupT [u, .str z]) = z from strN_cps z] at this
        exact this
      | leaf l =>
        have hV1 := hV
        unfold ValAt at hV
        have hV := LfAt.same del_sub hV
        obtain ⟨t, ty, k0, k1, k2⟩ := ty_tup T hV
        refine ⟨_, rfl, x, .ty "tuple", t, _, false, rfl, .ty _, ty, k0, _, rfl, iteF ⟨_, rfl, x, .ty "list", t, _, false, rfl, .ty _, ty, k1, _, rfl, iteF ⟨_, rfl, x, .ty "dict", t, _, false, rfl, .ty _, ty, k2, _, rfl, iteF ⟨_, rfl, x, .leaf l, d, rfl, val_leaf hV, by omega, hd6, ht, hg, by unfold normV duV; rfl, fun H2 s2 => ?_⟩⟩⟩⟩
        exact k (normV (.leaf l)) H2 (by unfold normV; rfl) (by unfold normV; exact hg) (by unfold normV; exact ht) (src_same hS s2) (Same.but s2)
      | lst vs =>
        cases d with
        | zero => exact ht.elim
        | succ d =>
        have hV0 := hV
        unfold ValAt at hV
        obtain ⟨p, xs, rfl, hp, hvs⟩ := hV
        have nS : p ≠ S := fun z => by rw [z, del_same] at hp; cases hp
        have hp := del_sub _ _ hp
        unfold GdT at hg
        have hg := GdTs_all.mp hg
        obtain ⟨hl3, ht⟩ := ht
        obtain ⟨hlen, hat⟩ := vals_at hvs
        refine ⟨_, rfl, .ref p, .ty "tuple", _, _, false, rfl, .ty _, .base (.lst hp), kit_ty (by decide +kernel), _, rfl, iteF ⟨_, rfl, .ref p, .ty "list", _, _, true, rfl, .ty _, .base (.lst hp), kit_ty (by decide +kernel), _, rfl, iteT ⟨⟨_, rfl⟩, _, rfl, p, rfl, ⟨_, .inl (.inl hp)⟩, fun DL hDL => ?_⟩⟩⟩
        have nL := src_ne hS hDL
        have nLp : DL ≠ p := fun z => by rw [z, hp] at hDL; cases hDL
        refine lc_it (walk_list (K := K) (a := p) (xs := xs)) (fun i H1 => ∃ us : List Val, us.length = i ∧ us.map normV = (vs.take i).map normV ∧ (∀ u ∈ us, GdT u ∧ TnyV d u) ∧ H1 DL = some (.lst (((us.map txV).map strN).map V.str)) ∧ SrcAt H1 S ∧ But S H H1)
          ⟨[], rfl, rfl, (fun _ z => nomatch z), upd_same, src_upd hS nL, (But.refl S H).new hDL⟩ (fun i H1 _ q => by
            obtain ⟨_, _, _, _, _, _, b⟩ := q
            exact .inl (.inl (b _ _ hp nS))) ?_ ?_
        · rintro i y H1' H2 hi2 ⟨us, lu, eu, hu, eL, hS2, b2⟩ ⟨rfl, hy⟩
          have eb : vs[i]? = some (vs[i]'(by omega)) := List.getElem?_eq_getElem _
          generalize vs[i]'(by omega) = u at eb
          have hum := List.mem_of_getElem? eb
          refine ⟨rfl, ?_⟩
          dsimp only [tYes]
          refine iteT ⟨_, rfl, _, rfl, S, y, u, d, rfl, hS2, ValAt.same b2.del _ _ (hat i u y eb hy), by omega, by omega, ht u hum, hg u hum, fun u' H3 en hgu htu hS3 b3 => ?_⟩
          refine ⟨_, b3 _ _ eL nL, ?_, us ++ [u'], by rw [List.length_append, lu]; rfl, ?_, ?_, ?_, src_upd hS3 nL, (b2.trans b3).new hDL⟩
          · rw [List.length_map, List.length_map, List.length_map]
            exact Nat.lt_of_lt_of_le (by omega : _ < 100) (by decide)
          · rw [List.map_append, List.take_add_one, eb, List.map_append, eu]
            show _ ++ [normV u'] = _ ++ [normV u]
            rw [en]
          · intro v hv
            rcases List.mem_append.mp hv with q | q
            · exact hu v q
            · rw [List.mem_singleton.mp q]
              exact ⟨hgu, htu⟩
          · rw [upd_same, List.map_append, List.map_append, List.map_append]
            rfl
        · rintro H2 ⟨us, lu, eu, hu, eL, hS2, b2⟩
          rw [hlen, List.take_length] at eu
          have ek : txV (.lst us) = 91 :: (txC (us.map txV) ++ [93]) := by rw [txV, txVs_map]
          refine brack (o := 91) (c := 93) (b := bnd d) (by decide +kernel) (by decide +kernel) eL (by rw [List.length_map]; omega) (fun l hl => ?_) (Nat.le_trans (bnd6 (by omega)) (by decide)) ?_
          · obtain ⟨v, hv, rfl⟩ := List.mem_map.mp hl
            exact tx_len (hu v hv).2
          · rw [← ek]
            refine k _ H2 (lst_norm eu) ?_ ⟨by omega, fun v hv => (hu v hv).2⟩ hS2 b2
            unfold GdT
            exact GdTs_all.mpr fun v hv => (hu v hv).1
      | dic ks vs =>
        cases d with
        | zero => exact ht.elim
        | succ d =>
        unfold ValAt at hV
        obtain ⟨p, xs, ys0, rfl, hp, hkl, hnd, rfl, hvs⟩ := hV
        have nS : p ≠ S := fun z => by rw [z, del_same] at hp; cases hp
        have hp := del_sub _ _ hp
        unfold GdT at hg
        obtain ⟨hlg, _, hpl, hg⟩ := hg
        have hg := GdTs_all.mp hg
        obtain ⟨hk3, hl3, hk20, ht⟩ := ht
        obtain ⟨hlen, hat⟩ := vals_at hvs
        have vkv : ∀ (j : Nat) (z : Str) (x : V), ks[j]? = some z → ys0[j]? = some x → valV ((ks.map (Sum.inr : Str → Key)).zip ys0) (Sum.inr z) = some x := fun j z x h1 h2 => zip_val hnd h1 h2
        have ekv : ((ks.map (Sum.inr : Str → Key)).zip ys0).map (fun kv => kV kv.1) = ks.map V.str := by
          have : ((ks.map (Sum.inr : Str → Key)).zip ys0).map Prod.fst = ks.map Sum.inr := by
            rw [List.map_fst_zip]
            rw [List.length_map]
            omega
          have e2 : ((ks.map (Sum.inr : Str → Key)).zip ys0).map (fun kv => kV kv.1) = (((ks.map (Sum.inr : Str → Key)).zip ys0).map Prod.fst).map kV := by rw [List.map_map]; rfl
          rw [e2, this, List.map_map]
          rfl
        generalize (ks.map (Sum.inr : Str → Key)).zip ys0 = kvs at hp vkv ekv
        refine ⟨_, rfl, .ref p, .ty "tuple", _, _, false, rfl, .ty _, .base (.dK hp), kit_ty (by decide +kernel), _, rfl, iteF ⟨_, rfl, .ref p, .ty "list", _, _, false, rfl, .ty _, .base (.dK hp), kit_ty (by decide +kernel), _, rfl, iteF ⟨_, rfl, .ref p, .ty "dict", _, _, true, rfl, .ty _, .base (.dK hp), kit_ty (by decide +kernel), _, rfl, iteT ⟨_, rfl, p, kvs, rfl, .inl hp, fun L1 hL1 => ⟨by show 0 ≤ sizeLine; decide, fun M2 hL2 => ⟨_, _, rfl, ?_⟩⟩⟩⟩⟩⟩
        rw [ekv] at hL2 ⊢
        have n1S := src_ne hS hL1
        have b1 : But S H (upd H L1 (.lst (ks.map V.str))) := (But.refl S H).new hL1
        have hS1 := src_upd (o := .lst (ks.map V.str)) hS n1S
        have e11 : (upd H L1 (.lst (ks.map V.str))) L1 = some (.lst (ks.map V.str)) := upd_same
        generalize upd H L1 (.lst (ks.map V.str)) = H1 at b1 hS1 e11 hL2 ⊢
        have n2S := src_ne hS1 hL2
        have n21 : M2 ≠ L1 := fun z => by rw [z, e11] at hL2; cases hL2
        have L2n : H M2 = none := by
          cases q : H M2 with
          | none => rfl
          | some o => rw [b1 _ _ q n2S] at hL2; cases hL2
        have b2 : But S H (upd H1 M2 (.lst [])) := b1.new L2n
        have hS2 := src_upd (o := .lst []) hS1 n2S
        have e21 : (upd H1 M2 (.lst [])) L1 = some (.lst (ks.map V.str)) := by rw [upd_ne n21.symm]; exact e11
        have e22 : (upd H1 M2 (.lst [])) M2 = some (.lst []) := upd_same
        change (tSeq _ _) _ _ (upd H1 M2 (.lst []))
        generalize upd H1 M2 (.lst []) = H2 at b2 hS2 e21 e22 ⊢
        let I : Nat → L2.St → Hp → Prop := fun m st H' => ∃ (u4 u5 : Option V) (left : List Str) (rs : List (Str × Val)), st = [some (.ref S), some (.ref p), some (.ref L1), some (.ref M2), u4, u5] ∧ left.length = m ∧ (left ++ rs.map Prod.fst).Perm ks ∧
          (∀ r ∈ rs, GdT r.2 ∧ TnyV d r.2 ∧ ∃ (j : Nat) (u : Val), ks[j]? = some r.1 ∧ vs[j]? = some u ∧ normV r.2 = normV u) ∧ H' L1 = some (.lst (left.map V.str)) ∧ H' M2 = some (.lst (((rs.map fun r => mbr r.1 (txV r.2)).map strN).map V.str)) ∧ SrcAt H' S ∧ But S H H'
        refine ⟨I, ⟨ks.length, _, _, ks, [], rfl, rfl, by rw [List.map_nil, List.append_nil], (fun _ z => nomatch z), e21, e22, hS2, b2⟩, ?_⟩
        rintro m st H3 ⟨u4, u5, left, rs, rfl, hll, hpm, hrs, eL1, eL2, hS3, b3⟩
        have hpl2 := hpm.length_eq
        rw [List.length_append, List.length_map] at hpl2
        refine ⟨_, rfl, by show 0 ≤ sizeLine; decide, fun q hq => ?_⟩
        have s4 := same_new (o := .lst []) (Same.refl H3) hq
        refine ⟨L1, q, left.map V.str, rfl, rfl, .inl (.inl (s4 _ _ eL1)), .inl (.inl upd_same), _, rfl, ?_⟩
        replace eL1 := s4 _ _ eL1
        replace eL2 := s4 _ _ eL2
        replace hS3 := src_same hS3 s4
        replace b3 : But S H (upd H3 q (.lst [])) := b3.same s4
        generalize upd H3 q (.lst []) = H4 at eL1 eL2 hS3 b3 ⊢
        cases left with
        | nil =>
          refine iteF ?_
          have hpm : (rs.map Prod.fst).Perm ks := hpm
          have ek : txV (.dic (rs.map Prod.fst) (rs.map Prod.snd)) = 123 :: (txC (rs.map fun r => mbr r.1 (txV r.2)) ++ [125]) := by rw [txV, txVs_map, zip_mbr, zip_fs]
          have hkr : ∀ r ∈ rs, r.1 ∈ ks := fun r hr => hpm.mem_iff.mp (List.mem_map.mpr ⟨r, hr, rfl⟩)
          refine ⟨⟨_, rfl⟩, _, rfl, ?_⟩
          refine brack (o := 123) (c := 125) (b := bnd d + 43) (by decide +kernel) (by decide +kernel) eL2 (by rw [List.length_map]; simp only [List.length_nil] at hpl2; omega) (fun l hl => ?_) (Nat.le_trans (Nat.add_le_add_right (bnd6 (by omega)) 43) (by decide)) ?_
          · obtain ⟨r, hr', rfl⟩ := List.mem_map.mp hl
            exact mbr_len (hk20 _ (hkr r hr')) (tx_len (hrs r hr').2.1)
          · rw [← ek]
            refine k _ H4 (dic_norm hlg hnd hpm fun r hr => (hrs r hr).2.2) ?_ ⟨?_, ?_, fun q hq => hk20 q (hpm.mem_iff.mp hq), fun v hv => ?_⟩ hS3 b3
            · unfold GdT
              refine ⟨by rw [List.length_map, List.length_map], hpm.nodup_iff.mpr hnd, fun q hq => hpl q (hpm.mem_iff.mp hq), GdTs_all.mpr fun v hv => ?_⟩
              obtain ⟨r, hr, rfl⟩ := List.mem_map.mp hv
              exact (hrs r hr).1
            · rw [List.length_map]
              simp only [List.length_nil] at hpl2
              omega
            · rw [List.length_map]
              simp only [List.length_nil] at hpl2
              omega
            · obtain ⟨r, hr, rfl⟩ := List.mem_map.mp hv
              exact (hrs r hr).2.1
        | cons z0 lr =>
          refine iteT ⟨fun st H' => ∃ m', m' < m ∧ I m' st H', fun _ _ q => q, ?_⟩
          generalize hle : z0 :: lr = left at *
          have lpos : 0 < left.length := by rw [← hle]; exact Nat.succ_pos _
          refine ⟨_, rfl, .inl ⟨rfl, _, .inl (.inl eL1)⟩, _, rfl, _, rfl, L1, _, rfl, .inl (.inl (.inl eL1)), S, ((left.map V.str).length : Nat), rfl, hS3, by rw [List.length_map]; omega, by rw [List.length_map]; omega, fun r H5 r0 r1 hS5 b5 _ => ?_⟩
          rw [List.length_map] at r1
          obtain ⟨rn, rfl⟩ := Int.eq_ofNat_of_zero_le r0
          have hr' : rn < left.length := by omega
          have hz : left[rn]? = some left[rn] := List.getElem?_eq_getElem hr'
          generalize left[rn] = z at hz
          have hpe := er_perm hz
          have eL15 := b5 _ _ eL1 n1S
          have eL25 := b5 _ _ eL2 n2S
          refine ⟨L1, left.map V.str, _, rn, .str z, rfl, rfl, eL15, by omega, by omega, ?_, by rw [List.getElem?_map, hz]; rfl, ?_⟩
          · rw [List.length_map]
            unfold seqIndex?
            have c1 : ¬ (((rn : Nat) : Int) < 0) := by omega
            simp only [c1, if_false]
            have c2 : (0 : Int) ≤ ((rn : Nat) : Int) ∧ ((rn : Nat) : Int) < ((left.length : Nat) : Int) := ⟨by omega, by omega⟩
            simp [c2]
          have ee : (left.map V.str).eraseIdx rn = (left.eraseIdx rn).map V.str := er_map ..
          rw [ee]
          have hS6 := src_upd (o := .lst ((left.eraseIdx rn).map V.str)) hS5 n1S
          have b6 : But S H (upd H5 L1 (.lst ((left.eraseIdx rn).map V.str))) := (b3.trans b5).new hL1
          have e61 : (upd H5 L1 (.lst ((left.eraseIdx rn).map V.str))) L1 = some (.lst ((left.eraseIdx rn).map V.str)) := upd_same
          have e62 : (upd H5 L1 (.lst ((left.eraseIdx rn).map V.str))) M2 = some (.lst (((rs.map fun r => mbr r.1 (txV r.2)).map strN).map V.str)) := by rw [upd_ne n21]; exact eL25
          generalize upd H5 L1 (.lst ((left.eraseIdx rn).map V.str)) = H6 at hS6 b6 e61 e62 ⊢
          have hzk : z ∈ ks := hpm.mem_iff.mp (List.mem_append_left _ (List.mem_of_getElem? hz))
          obtain ⟨j, hj⟩ := List.getElem?_of_mem hzk
          have lj := (List.getElem?_eq_some_iff.mp hj).1
          have eb : vs[j]? = some (vs[j]'(by omega)) := List.getElem?_eq_getElem _
          generalize vs[j]'(by omega) = u at eb
          have ex : ys0[j]? = some (ys0[j]'(by omega)) := List.getElem?_eq_getElem _
          generalize ys0[j]'(by omega) = y at ex
          have hum := List.mem_of_getElem? eb
          have hz20 := hk20 _ hzk
          have hzl : z.cps.toList.length = z.cps.size := Array.length_toList
          have lq := quo_len z.cps.toList
          refine ⟨_, rfl, .inl ⟨rfl, _, .inl (.inl e62)⟩, _, rfl, z.cps.toList, by rw [strN_cps]; rfl, by omega, _, _, rfl, rfl, ?_, _, rfl, _, rfl, _, rfl, p, y, rfl, ?_, S, y, u, d, rfl, hS6, ValAt.same b6.del _ _ (hat j u y eb ex), by omega, by omega, ht u hum, hg u hum, fun u' H7 en hgu htu hS7 b7 => ?_⟩
          · rw [strN_len, sl]
            show _ + 1 ≤ _
            omega
          · rw [← vkv j _ y hj ex]
            exact DGet.k (k := Sum.inr z) (b6 _ _ hp nS)
          have lt := tx_len htu
          have lb := bnd6 (d := d) (by omega)
          have e72 := b7 _ _ e62 n2S
          refine ⟨_, _, rfl, rfl, ?_, M2, _, _, rfl, rfl, e72, ?_, left.length - 1, by omega, _, _, left.eraseIdx rn, rs ++ [(z, u')], rfl, ?_, ?_, ?_, ?_, ?_, src_upd hS7 n2S, (b6.trans b7).new L2n⟩
          · rw [show (":" : Str) = strN [58] from by decide +kernel, app_N, strN_len, strN_len, List.length_append, sl]
            show _ + 1 + _ ≤ _
            omega
          · rw [List.length_map, List.length_map, List.length_map]
            exact Nat.lt_of_lt_of_le (by omega : _ < 100) (by decide)
          · have := hpe.length_eq
            rw [List.length_cons] at this
            omega
          · rw [List.map_append]
            refine List.Perm.trans ?_ hpm
            show (left.eraseIdx rn ++ (rs.map Prod.fst ++ [z])).Perm _
            rw [← List.append_assoc]
            exact (List.perm_append_singleton z _).trans (hpe.append_right _)
          · intro r hr
            rcases List.mem_append.mp hr with q | q
            · exact hrs r q
            · rw [List.mem_singleton.mp q]
              exact ⟨hgu, htu, j, u, hj, eb, en⟩
          · rw [upd_ne n21.symm]
            exact b7 _ _ e61 n1S
          · rw [upd_same, List.map_append, List.map_append, List.map_append, show (":" : Str) = strN [58] from by decide +kernel, app_N, app_N]
            show some (HO.lst (_ ++ [V.str (strN (quo z.cps.toList ++ [58] ++ txV u'))])) = some (HO.lst (_ ++ [V.str (strN (quo z.cps.toList ++ 58 :: txV u'))]))
            rw [List.append_assoc]
            rfl
end
end G58.V

set_option Elab.async false
set_option linter.all false
set_option pp.maxSteps 2500
set_option maxRecDepth 100000
set_option maxHeartbeats 4000000
/-! The path of the first part that is no value, by the law. -/
namespace G58.V
open PySem PySem.Spec PyProof.Rows L2 NumText TL StrLaws LamX
/-- what waits: a tuple of a way and a part -/
structure StE where
  tp : Addr
  ws : Addr
  ps : List PStep
  t : Val
  y : V
def StE.ok (K : PySem.W.Frag) (a : Ad) (H0 H : Hp) (e : StE) : Prop := H e.tp = some (.tup [.ref e.ws, e.y]) ∧ SqT K H e.ws (e.ps.map stepV) ∧ ValAt K a H0 e.t e.y ∧ TnyV 6 e.t ∧ GdT e.t ∧ e.ps.length + depthV e.t ≤ 6
def duS : List StE → Option (List PStep)
  | [] => none
  | e :: r => match duV (normV e.t) with
    | some p => some (e.ps ++ p)
    | none => duS r
def mS : List StE → Nat
  | [] => 0
  | e :: r => partsV (normV e.t) + mS r
theorem mS_app : ∀ a b : List StE, mS (a ++ b) = mS a + mS b
  | [], b => by
    show mS b = 0 + mS b
    omega
  | e :: a, b => by
    show partsV (normV e.t) + mS (a ++ b) = partsV (normV e.t) + mS a + mS b
    rw [mS_app a b]
    omega
theorem mS_parts : ∀ es : List StE, mS es = partsVs (es.map fun e => normV e.t)
  | [] => by
    show 0 = partsVs []
    unfold partsVs
    rfl
  | e :: r => by
    show partsV (normV e.t) + mS r = partsVs (normV e.t :: r.map fun e => normV e.t)
    unfold partsVs
    rw [mS_parts r]
theorem parts_pos (v : Val) : 1 ≤ partsV v := by
  cases v <;> (unfold partsV; omega)
theorem len_mS : ∀ es : List StE, es.length ≤ mS es
  | [] => Nat.zero_le _
  | e :: r => by
    have := len_mS r
    have h1 := parts_pos (normV e.t)
    show r.length + 1 ≤ partsV (normV e.t) + mS r
    omega
theorem tny_up : ∀ {d : Nat} {v : Val}, TnyV d v → ∀ e, d ≤ e → TnyV e v
  | d, .leaf l, h, e, _ => tny_leaf.mpr (tny_leaf.mp h)
  | d, .tup xs, h, e, _ => tny_tup.mpr (tny_tup.mp h)
  | d, .odd, h, e, _ => absurd h tny_odd
  | 0, .lst vs, h, e, _ => False.elim h
  | 0, .dic ks vs, h, e, _ => False.elim h
  | d + 1, .lst vs, h, 0, he => absurd he (by omega)
  | d + 1, .dic ks vs, h, 0, he => absurd he (by omega)
  | d + 1, .lst vs, h, e + 1, he => ⟨h.1, fun v hv => tny_up (h.2 v hv) e (by omega)⟩
  | d + 1, .dic ks vs, h, e + 1, he => ⟨h.1, h.2.1, h.2.2.1, fun v hv => tny_up (h.2.2.2 v hv) e (by omega)⟩
def pbd : Nat → Nat
  | 0 => 1
  | d + 1 => 1 + 3 * pbd d
theorem pbd_pos (d : Nat) : 1 ≤ pbd d := by cases d <;> (unfold pbd; omega)
theorem partsVs_le {b : Nat} : ∀ {vs : List Val}, (∀ v ∈ vs, partsV v ≤ b) → partsVs vs ≤ vs.length * b
  | [], _ => by unfold partsVs; exact Nat.zero_le _
  | v :: r, h => by
    unfold partsVs
    have := partsVs_le (vs := r) fun u hu => h u (List.mem_cons_of_mem _ hu)
    have := h v (List.mem_cons_self ..)
    rw [List.length_cons, Nat.succ_mul]
    omega
theorem tny_parts : ∀ {d : Nat} {v : Val}, TnyV d v → partsV v ≤ pbd d
  | d, .leaf l, h => by unfold partsV; exact pbd_pos d
  | d, .tup xs, h => by unfold partsV; exact pbd_pos d
  | d, .odd, h => absurd h tny_odd
  | 0, .lst vs, h => False.elim h
  | 0, .dic ks vs, h => False.elim h
  | d + 1, .lst vs, h => by
    unfold partsV pbd
    have h1 := partsVs_le fun v hv => tny_parts (h.2 v hv)
    have h2 := Nat.mul_le_mul_right (pbd d) h.1
    omega
  | d + 1, .dic ks vs, h => by
    unfold partsV pbd
    have h1 := partsVs_le fun v hv => tny_parts (h.2.2.2 v hv)
    have h2 := Nat.mul_le_mul_right (pbd d) h.2.1
    omega
theorem tny_kids {v : Val} (h : TnyV 6 v) : ∀ u ∈ kidsV v, TnyV 6 u := fun u hu => by
  cases v with
  | leaf l => cases hu
  | tup l => cases hu
  | odd => cases hu
  | lst vs => exact tny_up (h.2 u hu) 6 (by decide)
  | dic ks vs => exact tny_up (h.2.2.2 u hu) 6 (by decide)
theorem duS_vs {rest : List StE} {ps : List PStep} : ∀ {es : List StE} {i : Nat}, (∀ (j : Nat) (e : StE), es[j]? = some e → e.ps = ps ++ [.inl ((i + j : Nat) : Int)]) → duS (es ++ rest) = match duVs i (es.map fun e => normV e.t) with
    | some p => some (ps ++ p)
    | none => duS rest
  | [], i, h => by
    show duS rest = match duVs i [] with | some p => some (ps ++ p) | none => duS rest
    unfold duVs
    rfl
  | e :: es, i, h => by
    show (match duV (normV e.t) with | some p => some (e.ps ++ p) | none => duS (es ++ rest)) = match duVs i (normV e.t :: es.map fun e => normV e.t) with | some p => some (ps ++ p) | none => duS rest
    unfold duVs
    cases hd : duV (normV e.t) with
    | some p =>
      have := h 0 e rfl
      rw [this]
      show some (ps ++ [.inl ((i + 0 : Nat) : Int)] ++ p) = some (ps ++ (.inl ((i : Nat) : Int) :: p))
      rw [List.append_assoc]
      rfl
    | none =>
      exact duS_vs (i := i + 1) fun j e' hj => by
        have := h (j + 1) e' hj
        rw [this]
        congr 4
        omega
theorem duS_ks {rest : List StE} {ps : List PStep} : ∀ {es : List StE} {ks : List Str}, ks.length = es.length → (∀ (j : Nat) (e : StE) (k : Str), es[j]? = some e → ks[j]? = some k → e.ps = ps ++ [.inr k]) → duS (es ++ rest) = match duKs ks (es.map fun e => normV e.t) with
    | some p => some (ps ++ p)
    | none => duS rest
  | [], ks, hl, h => by
    show duS rest = match duKs ks [] with | some p => some (ps ++ p) | none => duS rest
    unfold duKs
    rfl
  | e :: es, [], hl, h => by cases hl
  | e :: es, k :: ks, hl, h => by
    show (match duV (normV e.t) with | some p => some (e.ps ++ p) | none => duS (es ++ rest)) = match duKs (k :: ks) (normV e.t :: es.map fun e => normV e.t) with | some p => some (ps ++ p) | none => duS rest
    unfold duKs
    cases hd : duV (normV e.t) with
    | some p =>
      have := h 0 e k rfl rfl
      rw [this]
      show some (ps ++ [.inr k] ++ p) = some (ps ++ (.inr k :: p))
      rw [List.append_assoc]
      rfl
    | none => exact duS_ks (Nat.succ.inj hl) fun j e' k' hj hk => h (j + 1) e' k' hj hk
theorem sqT_updL {K : PySem.W.Frag} {H : Hp} {w L : Addr} {xs ys : List V} {o : HO} (h : SqT K H w xs) (hL : H L = some (.lst ys)) : SqT K (upd H L o) w xs := by
  rcases h with (h | ⟨u, h⟩) | h
  · exact .inl (.inl (by rw [upd_ne (fun z => by rw [z, hL] at h; cases h)]; exact h))
  · exact .inl (.inr ⟨u, by rw [upd_ne (fun z => by rw [z, hL] at h; cases h)]; exact h⟩)
  · exact .inr h
theorem ste_same {K : PySem.W.Frag} {a : Ad} {H0 H H' : Hp} {e : StE} (h : e.ok K a H0 H) (s : Same H H') : e.ok K a H0 H' := ⟨s _ _ h.1, Same.tup s h.2.1, h.2.2⟩
theorem ste_upd {K : PySem.W.Frag} {a : Ad} {H0 H : Hp} {e : StE} {L : Addr} {ys : List V} {o : HO} (h : e.ok K a H0 H) (hL : H L = some (.lst ys)) : e.ok K a H0 (L2.upd H L o) :=
  ⟨by rw [upd_ne (fun z => by have := h.1; rw [z, hL] at this; cases this)]; exact h.1, sqT_updL h.2.1 hL, h.2.2⟩
def spDue (K : PySem.W.Frag) (a : Ad) : Sp := fun vs H Q _ => ∃ (x : V) (t : Val), vs = [x] ∧ ValAt K a H t x ∧ TnyV 6 t ∧ GdT t ∧ (duV (normV t) = none → ∀ H', Same H H' → Q .non H') ∧ (∀ p, duV (normV t) = some p → ∀ q H', Same H H' → SqT K H' q (p.map stepV) → Q (.ref q) H')
section
variable {P : Program} {w : World} {K : PySem.W.Frag} {mg : Str → Option Value} {base : Heap} {a : Ad}
theorem scDue : FnScope ["_law_thing", "_law_left", "_law_way", "_law_one", "_law_k", "_law_key"] ["_law_thing"] (defScope sDue) := ⟨rfl, rfl, rfl, by decide +kernel, rfl, by decide +kernel, by decide +kernel⟩
theorem ok_due (D : Df K a) (T : Txt K mg a) : FnOk P w K mg base CX0 1 a.fDue D.dDue ["_law_thing"] (spDue K a) := by
  refine D.FDue.ok scDue (fun vs H Q E h => ?_) (fun cdv A outer s H vs Q E hr h => ?_)
  · obtain ⟨x, t, rfl, _⟩ := h
    rfl
  · obtain ⟨x, t, rfl, hV, ht, hg, k1, k2⟩ := h
    have hud := hu_of hr
    refine ⟨_, (pss_cons (ps_set (i := 1) scDue.nd rfl (.inl rfl) (pe_lst (pa_cons (pe_tup (pa_cons (pe_tup pa_nil) (pa_cons (pv 0) pa_nil))) pa_nil))) (pss_cons (ps_while PassesOwn.never (pt_cmpR (op_neNil hr.units0) (pv 1) (pe_lst pa_nil) (nomark _)) (pss_cons (ps_asg (pe_bm0 PySem.F.plainAttrs_list PySem.F.slot_list_pop PySem.F.type_list_pop mt_pop (pv 1)) (pg_tup rfl (pgs_cons (pg_name (i := 2) scDue.nd rfl (.inr rfl)) (pgs_cons (pg_name (i := 3) scDue.nd rfl (.inr rfl)) pgs_nil)))) (pss_cons (ps_if (pt_val (pe_callB call_isi (by rfl) T.bisinstance (by decide +kernel) (pa_cons (pv 3) (pa_cons (pe_bltn (v := .ty "tuple") rfl T.btuple (by decide +kernel) rfl) pa_nil)))) (pss_one (ps_ret (pv 2))) pss_nil) (pss_one (ps_if (pt_val (pe_callB call_isi (by rfl) T.bisinstance (by decide +kernel) (pa_cons (pv 3) (pa_cons (pe_bltn (v := .ty "list") rfl T.blist (by decide +kernel) rfl) pa_nil)))) (pss_one (ps_expr (pe_bm PySem.F.plainAttrs_list PySem.F.slot_list_extend PySem.F.type_list_extend mt_extend (pv 1) (pa_cons (pe_lc (te := tTup (tCons (tOp (rCatA K) (tVar 2) (tTup (tCons (tVar 4) tNil))) (tCons (tOp (rIxL K) (tVar 3) (tVar 4)) tNil))) (own := [("_law_k", 4)]) (g := (gName 4)) (tt := tYes) rfl scDue.nd (pi_range3 (by rfl) T.brange (pa_cons (pe_op op_sub (pe_callB call_len_seq (by rfl) T.blen PySem.boot_len (pa_cons (pv 3) pa_nil)) pe_int) (pa_cons (pe_un un_neg pe_int) (pa_cons (pe_un un_neg pe_int) pa_nil)))) (blkOk_by (N := ["_law_thing", "_law_left", "_law_way", "_law_one", "_law_k", "_law_key"]) (sc := defScope sDue) (by decide +kernel)) (fun _ _ _ _ _ => (pg_name (i := 4) scDue.nd rfl (.inl rfl))) (fun _ _ _ _ _ => pts_nil) (fun _ _ _ _ _ => (pe_tup (pa_cons (pe_op op_catA (pv 2) (pe_tup (pa_cons (pv 4) pa_nil))) (pa_cons (pe_ix ix_list (pv 3) (pv 4) (fun _ _ => rfl)) pa_nil))))) pa_nil)))) (pss_one (ps_if (pt_val (pe_callB call_isi (by rfl) T.bisinstance (by decide +kernel) (pa_cons (pv 3) (pa_cons (pe_bltn (v := .ty "dict") rfl T.bdict (by decide +kernel) rfl) pa_nil)))) (pss_one (ps_expr (pe_bm PySem.F.plainAttrs_list PySem.F.slot_list_extend PySem.F.type_list_extend mt_extend (pv 1) (pa_cons (pe_lc (te := tTup (tCons (tOp (rCatA K) (tVar 2) (tTup (tCons (tVar 5) tNil))) (tCons (tDGet (tVar 3) (tVar 5)) tNil))) (own := [("_law_key", 5)]) (g := (gName 5)) (tt := tYes) rfl scDue.nd (pi_list (pe_revL (pe_callB (call_sortedDU rfl) (by rfl) T.bsorted (by decide +kernel) (pa_cons (pv 3) pa_nil)))) (blkOk_by (N := ["_law_thing", "_law_left", "_law_way", "_law_one", "_law_k", "_law_key"]) (sc := defScope sDue) (by decide +kernel)) (fun _ _ _ _ _ => (pg_name (i := 5) scDue.nd rfl (.inl rfl))) (fun _ _ _ _ _ => pts_nil) (fun _ _ _ _ _ => (pe_tup (pa_cons (pe_op op_catA (pv 2) (pe_tup (pa_cons (pv 5) pa_nil))) (pa_cons (pe_dget hud (pv 3) (pv 5) (fun _ _ => rfl)) pa_nil))))) pa_nil)))) pss_nil))))))) (pss_one (ps_ret pe_non)))), ?_⟩
    have sl : sizeLine = 16777216 := rfl
    refine ⟨by show 0 ≤ sizeLine; decide, fun w0 hw0 => ⟨_, rfl, by show 2 ≤ sizeLine; decide, fun t0 ht0 => ⟨by show 1 ≤ sizeLine; decide, fun L hL => ?_⟩⟩⟩
    obtain ⟨s1, e1⟩ := new_at (.tup []) hw0
    obtain ⟨s2, e2⟩ := new_at (.tup [V.ref w0, x]) ht0
    obtain ⟨s3, e3⟩ := new_at (.lst [V.ref t0]) hL
    have s03 := s1.trans (s2.trans s3)
    have Ln : H L = none := by
      cases q : H L with
      | none => rfl
      | some o => rw [s2 _ _ (s1 _ _ q)] at hL; cases hL
    let I : Nat → L2.St → Hp → Prop := fun m st H' => ∃ (u2 u3 u4 u5 : Option V) (es : List StE), st = [some x, some (.ref L), u2, u3, u4, u5] ∧ mS es = m ∧ mS es ≤ 5000 ∧ H' L = some (.lst ((es.map fun e => V.ref e.tp).reverse)) ∧ (∀ e ∈ es, e.ok K a H H') ∧ duS es = duV (normV t) ∧ Same H H'
    refine ⟨I, ⟨partsV (normV t), _, _, _, _, [⟨t0, w0, [], t, x⟩], rfl, rfl, ?_, e3, ?_, ?_, s03⟩, ?_⟩
    · show partsV (normV t) + 0 ≤ 5000
      have := tny_parts (tny_norm ht fun _ _ _ => trivial)
      have e6 : pbd 6 = 1093 := by decide
      omega
    · intro e he
      rw [List.mem_singleton.mp he]
      exact ⟨s3 _ _ e2, .inl (.inl (s3 _ _ (s2 _ _ e1))), hV, ht, hg, by show 0 + depthV t ≤ 6; have := tny_depth ht; omega⟩
    · show (match duV (normV t) with | some p => some ([] ++ p) | none => none) = _
      cases duV (normV t) <;> rfl
    rintro m st H1 ⟨u2, u3, u4, u5, es, rfl, hm, hm5, eL, hok, hdu, sH⟩
    refine ⟨_, rfl, by show 0 ≤ sizeLine; decide, fun q hq => ?_⟩
    have s4 := same_new (o := .lst []) (Same.refl H1) hq
    refine ⟨L, q, _, rfl, rfl, .inl (.inl (s4 _ _ eL)), .inl (.inl upd_same), _, rfl, ?_⟩
    replace eL := s4 _ _ eL
    replace hok : ∀ e ∈ es, e.ok K a H (upd H1 q (.lst [])) := fun e he => ste_same (hok e he) s4
    replace sH := sH.trans s4
    generalize upd H1 q (.lst []) = H2 at eL hok sH ⊢
    cases es with
    | nil => exact iteF (k1 hdu.symm H2 sH)
    | cons e es =>
      have hle : ((e :: es).map fun e => V.ref e.tp).reverse = (es.map fun e => V.ref e.tp).reverse ++ [V.ref e.tp] := by rw [List.map_cons, List.reverse_cons]
      rw [hle] at eL ⊢
      have hne : ((es.map fun e => V.ref e.tp).reverse ++ [V.ref e.tp]).isEmpty = false := by simp
      rw [hne]
      refine iteT ⟨fun st H' => ∃ m', m' < m ∧ I m' st H', fun _ _ q => q, ?_⟩
      obtain ⟨ok1, ok2, ok3, ok4, ok5, ok6⟩ := hok e (List.mem_cons_self ..)
      have hes : ∀ e' ∈ es, e'.ok K a H H2 := fun e' he => hok e' (List.mem_cons_of_mem _ he)
      refine ⟨_, rfl, .inl ⟨rfl, _, .inl (.inl eL)⟩, L, _, V.ref e.tp, rfl, rfl, eL, by simp, ?_⟩
      rw [List.dropLast_concat]
      have eL3 : (upd H2 L (.lst ((es.map fun e => V.ref e.tp).reverse))) L = some (.lst ((es.map fun e => V.ref e.tp).reverse)) := upd_same
      have ok1' : (upd H2 L (.lst ((es.map fun e => V.ref e.tp).reverse))) e.tp = some (.tup [.ref e.ws, e.y]) := by
        rw [upd_ne (fun z => by rw [z, eL] at ok1; cases ok1)]
        exact ok1
      have ok2' : SqT K (upd H2 L (.lst ((es.map fun e => V.ref e.tp).reverse))) e.ws (e.ps.map stepV) := sqT_updL ok2 eL
      have hes' : ∀ e' ∈ es, e'.ok K a H (upd H2 L (.lst ((es.map fun e => V.ref e.tp).reverse))) := fun e' he => ste_upd (hes e' he) eL
      have sH3 : Same H (upd H2 L (.lst ((es.map fun e => V.ref e.tp).reverse))) := fun b o h => by
        rw [upd_ne (ne_of_none h Ln)]
        exact sH _ _ h
      generalize upd H2 L (.lst ((es.map fun e => V.ref e.tp).reverse)) = H3 at eL3 ok1' ok2' hes' sH3 ⊢
      refine ⟨e.tp, _, rfl, .inl (.inl ok1'), rfl, _, _, rfl, _, _, rfl, rfl, ?_⟩
      have hmm : mS (e :: es) = partsV (normV e.t) + mS es := rfl
      have hd2 : (match duV (normV e.t) with | some p => some (e.ps ++ p) | none => duS es) = duV (normV t) := hdu
      obtain ⟨tp, ws, ps, t1, y⟩ := e
      dsimp only at ok1' ok2' ok3 ok4 ok5 ok6 hmm hd2 ⊢
      have ok3' := ValAt.same sH3 _ _ ok3
      cases t1 with
      | odd => exact absurd ok4 tny_odd
      | tup xs =>
        unfold ValAt at ok3'
        obtain ⟨p, rfl, hp⟩ := ok3'
        refine ⟨_, rfl, .ref p, .ty "tuple", _, _, true, rfl, .ty _, sqT_ty hp, kit_ty (by decide +kernel), _, rfl, iteT ⟨_, rfl, ?_⟩⟩
        have e0 : duV (normV (.tup xs)) = some [] := by
          unfold normV duV
          rfl
        rw [e0] at hd2
        refine k2 (ps ++ []) hd2.symm ws H3 sH3 ?_
        rw [List.append_nil]
        exact ok2'
      | leaf l =>
        unfold ValAt at ok3'
        obtain ⟨tt, ty, q0, q1, q2⟩ := ty_tup T ok3'
        refine ⟨_, rfl, y, .ty "tuple", tt, _, false, rfl, .ty _, ty, q0, _, rfl, iteF ⟨_, rfl, y, .ty "list", tt, _, false, rfl, .ty _, ty, q1, _, rfl, iteF ⟨_, rfl, y, .ty "dict", tt, _, false, rfl, .ty _, ty, q2, _, rfl, iteF ?_⟩⟩⟩
        have e0 : duV (normV (.leaf l)) = none := by
          unfold normV duV
          rfl
        rw [e0] at hd2
        have pp := parts_pos (normV (.leaf l))
        exact ⟨mS es, by omega, _, _, _, _, es, rfl, rfl, by omega, eL3, hes', hd2, sH3⟩
      | lst vs =>
        unfold ValAt at ok3'
        obtain ⟨p, xs, rfl, hp, hvs⟩ := ok3'
        unfold ValAt at ok3
        obtain ⟨p0, xs0, ep0, hp0, hvs0⟩ := ok3
        cases ep0
        have exs : xs0 = xs := by
          have := sH3 _ _ hp0
          rw [hp] at this
          cases this
          rfl
        subst exs
        obtain ⟨hlen, hat⟩ := vals_at hvs0
        have hl3 := ok4.1
        have nL : L ≠ p := fun z => by rw [← z, Ln] at hp0; cases hp0
        refine ⟨_, rfl, .ref p, .ty "tuple", _, _, false, rfl, .ty _, .base (.lst hp), kit_ty (by decide +kernel), _, rfl, iteF ⟨_, rfl, .ref p, .ty "list", _, _, true, rfl, .ty _, .base (.lst hp), kit_ty (by decide +kernel), _, rfl, iteT ?_⟩⟩
        refine ⟨_, rfl, .inl ⟨rfl, _, .inl (.inl eL3)⟩, _, rfl, p, _, rfl, .inl (.inl (.inl hp)), _, _, rfl, rfl, _, rfl, _, rfl, ?_⟩
        have sl : sizeLine = 16777216 := rfl
        have hg' := ok5
        unfold GdT at hg'
        have hg' := GdTs_all.mp hg'
        refine ⟨((xs0.length : Nat) : Int) - 1, -1, -1, xs0.length, rfl, ?_, fun DL hDL => ?_⟩
        · have r := RgC.neg (i := ((xs0.length : Nat) : Int) - 1) (j := -1) (by omega) (by omega) (by decide) (by decide)
          have e : (((xs0.length : Nat) : Int) - 1 - (-1)).toNat = xs0.length := by omega
          rw [e] at r
          exact r
        have nDL : L ≠ DL := fun z => by rw [← z, eL3] at hDL; cases hDL
        refine lc_it walk_rangeC (fun i Hc => ∃ rs : List StE, rs.length = i ∧ Hc DL = some (.lst ((rs.map fun e => V.ref e.tp).reverse)) ∧ (∀ e ∈ rs, e.ok K a H Hc) ∧ (∀ (j : Nat) (e : StE), rs[j]? = some e → vs[vs.length - i + j]? = some e.t ∧ e.ps = ps ++ [.inl ((vs.length - i + j : Nat) : Int)]) ∧ Same H3 Hc)
          ⟨[], rfl, upd_same, (fun _ z => nomatch z), (fun _ _ z => by rw [List.getElem?_nil] at z; cases z), same_new (Same.refl H3) hDL⟩ (fun _ _ _ _ => trivial) ?_ ?_
        · rintro i y H1' H4 hi2 ⟨rs, rl, eD, rok, rat, s4⟩ ⟨rfl, hy⟩
          have eb : vs[vs.length - (i + 1)]? = some (vs[vs.length - (i + 1)]'(by omega)) := List.getElem?_eq_getElem _
          generalize vs[vs.length - (i + 1)]'(by omega) = u at eb
          have hu := List.mem_of_getElem? eb
          obtain ⟨yu, hyu⟩ : ∃ yu, xs0[vs.length - (i + 1)]? = some yu := ⟨_, List.getElem?_eq_getElem (by omega)⟩
          have ei : ((xs0.length : Nat) : Int) - 1 + ((i : Nat) : Int) * (-1) = ((vs.length - (i + 1) : Nat) : Int) := by omega
          have hy2 := hy.trans (congrArg V.int ei)
          subst hy2
          refine ⟨rfl, ?_⟩
          dsimp only [tYes]
          refine iteT ⟨_, rfl, ⟨_, rfl, by show 1 ≤ sizeLine; decide, fun r hr2 => ?_⟩⟩
          have s5 := same_new (o := .tup [V.int ((vs.length - (i + 1) : Nat) : Int)]) (Same.refl H4) hr2
          have du := depth_at eb
          have dd : depthV (.lst vs) = depthVs vs := by
            rw [depthV]
          refine catA1 (Same.tup (s4.trans s5) ok2') upd_same (Nat.le_trans (by rw [List.length_map]; omega : _ ≤ 1001) (by decide)) fun t5 H5 s6 h6 => ?_
          have s46 := s4.trans (s5.trans s6)
          refine ⟨_, rfl, _, rfl, p, xs0, _, yu, rfl, rfl, .inl (.inl (s46 _ _ hp)), by rw [atI_nat]; exact hyu, by show 2 ≤ sizeLine; decide, fun t6 ht6 => ?_⟩
          have s7 := same_new (o := .tup [V.ref t5, yu]) (Same.refl H5) ht6
          have e7 : (upd H5 t6 (.tup [V.ref t5, yu])) t6 = some (.tup [V.ref t5, yu]) := upd_same
          have s47 := (s5.trans s6).trans s7
          generalize upd H5 t6 (.tup [V.ref t5, yu]) = H6 at s7 e7 s47 ⊢
          have eD6 := s47 _ _ eD
          refine ⟨_, eD6, ?_, ⟨t6, t5, ps ++ [.inl ((vs.length - (i + 1) : Nat) : Int)], u, yu⟩ :: rs, by rw [List.length_cons, rl], ?_, ?_, ?_, ?_⟩
          · rw [List.length_reverse, List.length_map, rl]
            exact Nat.lt_of_le_of_lt (by omega : _ ≤ 3) (by decide)
          · rw [upd_same, List.map_cons, List.reverse_cons]
          · intro e he
            refine ste_upd ?_ eD6
            rcases List.mem_cons.mp he with rfl | he
            · refine ⟨e7, Same.tup s7 ?_, hat _ u yu eb hyu, tny_up (ok4.2 u hu) 6 (by decide), hg' u hu, ?_⟩
              · rw [List.map_append]
                exact h6
              · show (ps ++ [_]).length + depthV u ≤ 6
                rw [List.length_append, List.length_singleton]
                omega
            · exact ste_same (rok e he) s47
          · intro j e he
            cases j with
            | zero =>
              cases he
              exact ⟨eb, rfl⟩
            | succ j =>
              have := rat j e he
              have ej : vs.length - (i + 1) + (j + 1) = vs.length - i + j := by omega
              rw [ej]
              exact this
          · intro b o e
            rw [upd_ne (ne_of_none e hDL)]
            exact s47 _ _ (s4 _ _ e)
        · rintro H4 ⟨rs, rl, eD, rok, rat, s4⟩
          have er : rs.map (fun e => normV e.t) = normVs vs := by
            rw [normVs_map]
            refine List.ext_getElem? fun j => ?_
            rw [List.getElem?_map, List.getElem?_map]
            cases q : rs[j]? with
            | none =>
              have := List.getElem?_eq_none_iff.mp q
              rw [List.getElem?_eq_none (by omega : vs.length ≤ j)]
              rfl
            | some e =>
              have := (rat j e q).1
              rw [show vs.length - xs0.length + j = j by omega] at this
              rw [this]
              rfl
          have em : mS (rs ++ es) = partsVs (normVs vs) + mS es := by rw [mS_app, mS_parts rs, er]
          have ep : partsV (normV (.lst vs)) = 1 + partsVs (normVs vs) := by rw [normV, partsV]
          have l1 := len_mS es
          refine ⟨L, DL, _, _, rfl, rfl, s4 _ _ eL3, eD, ?_, mS (rs ++ es), by omega, _, _, _, _, rs ++ es, rfl, rfl, by omega, ?_, ?_, ?_, ?_⟩
          · rw [List.length_reverse, List.length_map, List.length_reverse, List.length_map, rl]
            exact Nat.le_trans (by omega : _ ≤ 5003) (by decide)
          · rw [upd_same, List.map_append, List.reverse_append]
          · intro e he
            rcases List.mem_append.mp he with he | he
            · exact ste_upd (rok e he) (s4 _ _ eL3)
            · exact ste_upd (ste_same (hes' e he) s4) (s4 _ _ eL3)
          · rw [duS_vs (ps := ps) (i := 0) fun j e he => ?_, er]
            · rw [← hd2]
              have : duV (normV (.lst vs)) = duVs 0 (normVs vs) := by rw [normV, duV]
              rw [this]
            · have := (rat j e he).2
              rw [show vs.length - xs0.length + j = 0 + j by omega] at this
              exact this
          · intro b o h
            rw [upd_ne (ne_of_none h Ln)]
            exact s4 _ _ (sH3 _ _ h)
      | dic ks vs =>
        unfold ValAt at ok3'
        obtain ⟨p, xs, ys0, rfl, hp, hkl, hnd, rfl, hvs⟩ := ok3'
        unfold ValAt at ok3
        obtain ⟨p0, xs1, ys1, ep0, hp0, hkl1, hnd1, rfl, hvs1⟩ := ok3
        cases ep0
        have nL : L ≠ p := fun z => by rw [← z, Ln] at hp0; cases hp0
        have hg' := ok5
        unfold GdT at hg'
        obtain ⟨hlg, _, hpl, hg'⟩ := hg'
        have hg' := GdTs_all.mp hg'
        obtain ⟨hk3, hl3, hk20, ht'⟩ := ok4
        have exs : ys1 = ys0 := by
          have e := sH3 _ _ hp0
          rw [hp] at e
          injection e with e
          injection e with e
          have l1 : (ks.map (Sum.inr : Str → Key)).length = ks.length := List.length_map ..
          have e2 := congrArg (List.map Prod.snd) e
          rw [List.map_snd_zip (by have := (vals_at hvs).1; omega), List.map_snd_zip (by have := (vals_at hvs1).1; omega)] at e2
          exact e2.symm
        subst exs
        obtain ⟨hlen, hat⟩ := vals_at hvs1
        have hm : ks.length = (normVs vs).length := by rw [normVs_len]; exact hlg
        have hasc := srt_asc hm hnd
        have hfst := srt_fst hm
        have hrow : ∀ (i : Nat) (r : Str × Val), (srtK (ks.zip (normVs vs)))[i]? = some r → ∃ j u x, ks[j]? = some r.1 ∧ vs[j]? = some u ∧ ys1[j]? = some x ∧ r.2 = normV u := fun i r hi => by
          obtain ⟨j, g1, g2⟩ := zip_memI ((srtK_perm _).mem_iff.mp (List.mem_of_getElem? hi))
          obtain ⟨u, g3, g4⟩ := nm_of g2
          have lj := (List.getElem?_eq_some_iff.mp g3).1
          exact ⟨j, u, _, g1, g3, List.getElem?_eq_getElem (by omega), g4.symm⟩
        have hR3 : (srtK (ks.zip (normVs vs))).length ≤ 3 := by
          rw [(srtK_perm _).length_eq, List.length_zip]
          omega
        have eN : normV (.dic ks vs) = .dic ((srtK (ks.zip (normVs vs))).map Prod.fst) ((srtK (ks.zip (normVs vs))).map Prod.snd) := by rw [normV]
        rw [eN] at hd2 hmm
        generalize srtK (ks.zip (normVs vs)) = R at hasc hfst hrow hd2 hmm hR3
        have ekv : ((ks.map (Sum.inr : Str → Key)).zip ys1).map Prod.fst = ks.map Sum.inr := by
          rw [List.map_fst_zip]
          rw [List.length_map]
          omega
        have vkv : ∀ (j : Nat) (z : Str) (x : V), ks[j]? = some z → ys1[j]? = some x → valV ((ks.map (Sum.inr : Str → Key)).zip ys1) (Sum.inr z) = some x := fun j z x h1 h2 => zip_val hnd h1 h2
        generalize (ks.map (Sum.inr : Str → Key)).zip ys1 = kvs at hp ekv vkv
        refine ⟨_, rfl, .ref p, .ty "tuple", _, _, false, rfl, .ty _, .base (.dK hp), kit_ty (by decide +kernel), _, rfl, iteF ⟨_, rfl, .ref p, .ty "list", _, _, false, rfl, .ty _, .base (.dK hp), kit_ty (by decide +kernel), _, rfl, iteF ⟨_, rfl, .ref p, .ty "dict", _, _, true, rfl, .ty _, .base (.dK hp), kit_ty (by decide +kernel), _, rfl, iteT ?_⟩⟩⟩
        refine ⟨_, rfl, .inl ⟨rfl, _, .inl (.inl eL3)⟩, _, rfl, p, kvs, ks, rfl, .inl hp, ekv, Nat.le_trans hk3 (by decide), fun ys LA hpm hpw hLA => ?_⟩
        have sA := same_new (o := .lst (ys.map V.str)) (Same.refl H3) hLA
        have eA : (upd H3 LA (.lst (ys.map V.str))) LA = some (.lst (ys.map V.str)) := upd_same
        have nLA : L ≠ LA := fun z => by rw [← z, eL3] at hLA; cases hLA
        generalize upd H3 LA (.lst (ys.map V.str)) = H3a at sA eA ⊢
        have esy : ys = R.map Prod.fst := sorted_uniq (hpm.trans hfst.symm) hpw hasc
        subst esy
        refine ⟨LA, _, rfl, .inl (.inl eA), fun LB hLB => ?_⟩
        have sB := same_new (o := .lst ((R.map Prod.fst).map V.str).reverse) sA hLB
        have eB : (upd H3a LB (.lst ((R.map Prod.fst).map V.str).reverse)) LB = some (.lst ((R.map Prod.fst).map V.str).reverse) := upd_same
        generalize upd H3a LB (.lst ((R.map Prod.fst).map V.str).reverse) = H3b at sB eB ⊢
        refine ⟨LB, rfl, ⟨_, .inl (.inl eB)⟩, fun DL hDL => ?_⟩
        refine lc_it (walk_list (K := K) (a := LB) (xs := ((R.map Prod.fst).map V.str).reverse)) (fun i Hc => ∃ rs : List StE, rs.length = i ∧ Hc DL = some (.lst ((rs.map fun e => V.ref e.tp).reverse)) ∧ (∀ e ∈ rs, e.ok K a H Hc) ∧ (∀ (j : Nat) (e : StE), rs[j]? = some e → ∃ r, R[R.length - i + j]? = some r ∧ normV e.t = r.2 ∧ e.ps = ps ++ [.inr r.1]) ∧ Same H3b Hc)
          ⟨[], rfl, upd_same, (fun _ z => nomatch z), (fun _ _ z => by rw [List.getElem?_nil] at z; cases z), same_new (Same.refl H3b) hDL⟩ (fun _ _ _ q => by
            obtain ⟨_, _, _, _, _, q⟩ := q
            exact .inl (.inl (q _ _ eB))) ?_ ?_
        · rintro i y H1' H4 hi2 ⟨rs, rl, eD, rok, rat, s4⟩ ⟨rfl, hy⟩
          rw [List.length_reverse, List.length_map, List.length_map] at hi2
          rw [List.getElem?_reverse (by rw [List.length_map, List.length_map]; exact hi2), List.length_map, List.length_map, List.getElem?_map, List.getElem?_map] at hy
          obtain ⟨z, hz, rfl⟩ := Option.map_eq_some_iff.mp hy
          obtain ⟨r, hr', rfl⟩ := Option.map_eq_some_iff.mp hz
          obtain ⟨j, u, x, g1, g2, g3, g4⟩ := hrow _ r hr'
          have hu := List.mem_of_getElem? g2
          refine ⟨rfl, ?_⟩
          dsimp only [tYes]
          refine iteT ⟨_, rfl, ⟨_, rfl, by show 1 ≤ sizeLine; decide, fun r2 hr2 => ?_⟩⟩
          have s5 := same_new (o := .tup [V.str r.1]) (Same.refl H4) hr2
          have du := depth_at g2
          have dd : depthV (.dic ks vs) = depthVs vs := by
            rw [depthV]
          have sb4 := sB.trans s4
          refine catA1 (Same.tup (sb4.trans s5) ok2') upd_same (Nat.le_trans (by rw [List.length_map]; omega : _ ≤ 1001) (by decide)) fun t5 H5 s6 h6 => ?_
          have s46 := sb4.trans (s5.trans s6)
          refine ⟨_, rfl, _, rfl, p, x, rfl, ?_, by show 2 ≤ sizeLine; decide, fun t6 ht6 => ?_⟩
          · rw [← vkv j _ x g1 g3]
            exact DGet.k (k := Sum.inr r.1) (s46 _ _ hp)
          have s7 := same_new (o := .tup [V.ref t5, x]) (Same.refl H5) ht6
          have e7 : (upd H5 t6 (.tup [V.ref t5, x])) t6 = some (.tup [V.ref t5, x]) := upd_same
          have s47 := (s5.trans s6).trans s7
          generalize upd H5 t6 (.tup [V.ref t5, x]) = H6 at s7 e7 s47 ⊢
          have eD6 := s47 _ _ eD
          refine ⟨_, eD6, ?_, ⟨t6, t5, ps ++ [.inr r.1], u, x⟩ :: rs, by rw [List.length_cons, rl], ?_, ?_, ?_, ?_⟩
          · rw [List.length_reverse, List.length_map, rl]
            exact Nat.lt_of_le_of_lt (by omega : _ ≤ 3) (by decide)
          · rw [upd_same, List.map_cons, List.reverse_cons]
          · intro e he
            refine ste_upd ?_ eD6
            rcases List.mem_cons.mp he with rfl | he
            · refine ⟨e7, Same.tup s7 ?_, hat j u x g2 g3, tny_up (ht' u hu) 6 (by decide), hg' u hu, ?_⟩
              · rw [List.map_append]
                exact h6
              · show (ps ++ [_]).length + depthV u ≤ 6
                rw [List.length_append, List.length_singleton]
                omega
            · exact ste_same (rok e he) s47
          · intro j' e he
            cases j' with
            | zero =>
              cases he
              exact ⟨r, by rw [← hr']; congr 1; omega, g4.symm, rfl⟩
            | succ j' =>
              have := rat j' e he
              have ej : R.length - (i + 1) + (j' + 1) = R.length - i + j' := by omega
              rw [ej]
              exact this
          · intro b o e
            rw [upd_ne (ne_of_none e hDL)]
            exact s47 _ _ (s4 _ _ e)
        · rintro H4 ⟨rs, rl, eD, rok, rat, s4⟩
          rw [List.length_reverse, List.length_map, List.length_map] at rl rat
          have er : rs.map (fun e => normV e.t) = R.map Prod.snd := by
            refine List.ext_getElem? fun j => ?_
            rw [List.getElem?_map, List.getElem?_map]
            cases q : rs[j]? with
            | none =>
              have := List.getElem?_eq_none_iff.mp q
              rw [List.getElem?_eq_none (by omega : R.length ≤ j)]
              rfl
            | some e =>
              obtain ⟨r, g1, g2, g3⟩ := rat j e q
              rw [show R.length - R.length + j = j by omega] at g1
              rw [g1]
              show some (normV e.t) = some r.2
              rw [g2]
          have em : mS (rs ++ es) = partsVs (R.map Prod.snd) + mS es := by rw [mS_app, mS_parts rs, er]
          have ep : partsV (.dic (R.map Prod.fst) (R.map Prod.snd)) = 1 + partsVs (R.map Prod.snd) := by rw [partsV]
          have l1 := len_mS es
          have sb4 := sB.trans s4
          refine ⟨L, DL, _, _, rfl, rfl, sb4 _ _ eL3, eD, ?_, mS (rs ++ es), by omega, _, _, _, _, rs ++ es, rfl, rfl, by omega, ?_, ?_, ?_, ?_⟩
          · rw [List.length_reverse, List.length_map, List.length_reverse, List.length_map, rl]
            exact Nat.le_trans (by omega : _ ≤ 5003) (by decide)
          · rw [upd_same, List.map_append, List.reverse_append]
          · intro e he
            rcases List.mem_append.mp he with he | he
            · exact ste_upd (rok e he) (sb4 _ _ eL3)
            · exact ste_upd (ste_same (hes' e he) sb4) (sb4 _ _ eL3)
          · rw [duS_ks (ps := ps) (ks := R.map Prod.fst) (by rw [List.length_map]; exact rl.symm) fun j e k he hk => ?_, er]
            · rw [← hd2]
              have : duV (.dic (R.map Prod.fst) (R.map Prod.snd)) = duKs (R.map Prod.fst) (R.map Prod.snd) := by rw [duV]
              rw [this]
            · obtain ⟨r, g1, g2, g3⟩ := rat j e he
              rw [show R.length - R.length + j = j by omega] at g1
              rw [List.getElem?_map, g1] at hk
              cases hk
              exact g3
          · intro b o h
            rw [upd_ne (ne_of_none h Ln)]
            exact sb4 _ _ (sH3 _ _ h)
end
end G58.V

set_option Elab.async false
set_option linter.all false
set_option maxRecDepth 100000
set_option maxHeartbeats 4000000
/-! Plain: what is told, and how long it may be. -/
namespace G58.V
open PySem PySem.Spec PyProof.Rows L2 NumText TL
theorem hexL_lt : ∀ c ∈ hexL, c < 1000 := by decide
theorem plain_lt {c : Nat} (h : plainC c = true) : c < 1000 := by
  unfold plainC at h
  simp only [Bool.and_eq_true, decide_eq_true_eq] at h
  omega
theorem quo_sm {k : List Nat} (h : ∀ c ∈ k, c < 1000) : ∀ c ∈ quo k, c < 1000 := fun c hc => by
  rcases List.mem_cons.mp hc with rfl | hc
  · decide
  rcases List.mem_append.mp hc with hc | hc
  · obtain ⟨d, hd, h2⟩ := List.mem_flatMap.mp hc
    unfold esc1 at h2
    split at h2
    · simp only [List.mem_cons, List.not_mem_nil, or_false] at h2
      rcases h2 with rfl | rfl
      · decide
      · exact h _ hd
    · rw [List.mem_singleton.mp h2]
      exact h _ hd
  · rw [List.mem_singleton.mp hc]
    decide
theorem dcN_sm (n : Nat) : ∀ c ∈ dcN n, c < 1000 := fun c hc => by
  have := dc_dgt n c hc
  unfold dgt at this
  simp only [Bool.and_eq_true, decide_eq_true_eq] at this
  omega
theorem dcI_sm (i : Int) : ∀ c ∈ dcI i, c < 1000 := fun c hc => by
  unfold dcI at hc
  split at hc
  · rcases List.mem_cons.mp hc with rfl | hc
    · decide
    · exact dcN_sm _ c hc
  · exact dcN_sm _ c hc
theorem hexB_sm {ns : List Int} (h : ∀ n ∈ ns, 0 ≤ n ∧ n ≤ 255) : ∀ c ∈ (natsI ns).flatMap hexB, c < 1000 := fun c hc => by
  obtain ⟨u, hu, h2⟩ := List.mem_flatMap.mp hc
  obtain ⟨n, hn, rfl⟩ := List.mem_map.mp hu
  have := h n hn
  exact hexL_lt c (hexB_mem (by omega) c h2)
theorem hexU_sm {ns : List Int} (h : ∀ n ∈ ns, 0 ≤ n ∧ n ≤ 65535) : ∀ c ∈ (natsI ns).flatMap hexU, c < 1000 := fun c hc => by
  obtain ⟨u, hu, h2⟩ := List.mem_flatMap.mp hc
  obtain ⟨n, hn, rfl⟩ := List.mem_map.mp hu
  have := h n hn
  exact hexL_lt c (hexU_mem (by omega) c h2)
theorem cons_sm {a : Nat} {l : List Nat} (ha : a < 1000) (h : ∀ c ∈ l, c < 1000) : ∀ c ∈ a :: l, c < 1000 := fun c hc => by
  rcases List.mem_cons.mp hc with rfl | hc
  · exact ha
  · exact h c hc
theorem wrL_sm {l : Lf} (h1 : TxL l) (h2 : okL l = true) : ∀ c ∈ wrL l, c < 1000 := by
  cases l with
  | non => decide
  | bl b => cases b <;> decide
  | int i => exact dcI_sm i
  | str z => exact quo_sm fun c hc => plain_lt (List.all_eq_true.mp h2 c hc)
  | thg y f =>
    cases y <;> cases f
    all_goals try exact h1.elim
    · exact cons_sm (by decide) (hexU_sm h1.1)
    · exact cons_sm (by decide) (hexB_sm h1)
    · exact cons_sm (by decide) (dcN_sm _)
    · exact cons_sm (by decide) (hexB_sm h1.1)
    · exact cons_sm (by decide) (hexB_sm h1.1)
theorem unf_sm : ∀ l ∈ unfL, ∀ c ∈ wrL l, c < 1000 := by
  intro l hl
  have tx := unf_tx l hl
  have : okL l = true ∨ ∃ i, l = .int i := by
    simp only [unfL, List.mem_cons, List.not_mem_nil, or_false] at hl
    rcases hl with rfl | rfl | rfl | rfl | rfl | rfl | rfl | rfl | rfl | rfl | rfl | rfl | rfl
    all_goals first | exact .inl rfl | exact .inr ⟨_, rfl⟩
  rcases this with h | ⟨i, rfl⟩
  · exact wrL_sm tx h
  · exact dcI_sm i
theorem txC_sm {ls : List (List Nat)} (h : ∀ l ∈ ls, ∀ c ∈ l, c < 1000) : ∀ c ∈ txC ls, c < 1000 := by
  cases ls with
  | nil => exact fun c hc => nomatch hc
  | cons l r =>
    intro c hc
    rcases List.mem_append.mp hc with hc | hc
    · exact h l (List.mem_cons_self ..) c hc
    · obtain ⟨m, hm, h2⟩ := List.mem_flatMap.mp hc
      exact cons_sm (by decide) (h m (List.mem_cons_of_mem _ hm)) c h2
theorem snoc_sm {l : List Nat} {a : Nat} (h : ∀ c ∈ l, c < 1000) (ha : a < 1000) : ∀ c ∈ l ++ [a], c < 1000 := fun c hc => by
  rcases List.mem_append.mp hc with hc | hc
  · exact h c hc
  · rw [List.mem_singleton.mp hc]
    exact ha
theorem gd_sm : ∀ (n : Nat) (t : Val), depthV t < n → GdT t → ∀ c ∈ txV t, c < 1000
  | 0, t, hd, _ => absurd hd (Nat.not_lt_zero _)
  | n + 1, t, hd, hg => by
    cases t with
    | leaf l =>
      unfold GdT at hg
      unfold txV
      exact wrL_sm hg.1 hg.2.1
    | tup xs =>
      unfold GdT at hg
      obtain ⟨l, hl, e, _⟩ := uvT_of hg
      unfold txV
      rw [e]
      exact unf_sm l hl
    | odd =>
      unfold GdT at hg
      exact hg.elim
    | lst vs =>
      unfold GdT at hg
      unfold depthV at hd
      unfold txV
      rw [txVs_map]
      refine cons_sm (by decide) (snoc_sm (txC_sm fun l hl => ?_) (by decide))
      obtain ⟨v, hv, rfl⟩ := List.mem_map.mp hl
      exact gd_sm n v (by have := depth_mem hv; omega) (GdTs_all.mp hg v hv)
    | dic ks vs =>
      unfold GdT at hg
      unfold depthV at hd
      obtain ⟨hl, hn, hp, hg⟩ := hg
      unfold txV
      rw [txVs_map, zip_mbr]
      refine cons_sm (by decide) (snoc_sm (txC_sm fun l hl => ?_) (by decide))
      obtain ⟨r, hr, rfl⟩ := List.mem_map.mp hl
      obtain ⟨i, h1, h2⟩ := zip_memI hr
      have hv := List.mem_of_getElem? h2
      have hk := hp _ (List.mem_of_getElem? h1)
      intro c hc
      rcases List.mem_append.mp hc with hc | hc
      · exact quo_sm (fun c hc => plain_lt (List.all_eq_true.mp hk c hc)) c hc
      · exact cons_sm (by decide) (gd_sm n r.2 (by have := depth_mem hv; omega) (GdTs_all.mp hg _ hv)) c hc
theorem gd_norm : ∀ (n : Nat) (t : Val), depthV t < n → GdT t → GdT (normV t)
  | 0, t, hd, _ => absurd hd (Nat.not_lt_zero _)
  | n + 1, t, hd, hg => by
    cases t with
    | leaf l => unfold normV; exact hg
    | tup xs => unfold normV; exact hg
    | odd => unfold normV; exact hg
    | lst vs =>
      unfold GdT at hg
      unfold depthV at hd
      unfold normV GdT
      refine GdTs_all.mpr fun u hu => ?_
      rw [normVs_map] at hu
      obtain ⟨v, hv, rfl⟩ := List.mem_map.mp hu
      exact gd_norm n v (by have := depth_mem hv; omega) (GdTs_all.mp hg v hv)
    | dic ks vs =>
      unfold GdT at hg
      unfold depthV at hd
      obtain ⟨hl, hn, hp, hg⟩ := hg
      have hm : ks.length = (normVs vs).length := by rw [normVs_len]; exact hl
      have hfst := srt_fst hm
      unfold normV GdT
      refine ⟨by rw [List.length_map, List.length_map], hfst.nodup_iff.mpr hn, fun k hk => hp k (hfst.mem_iff.mp hk), GdTs_all.mpr fun u hu => ?_⟩
      obtain ⟨r, hr, rfl⟩ := List.mem_map.mp hu
      obtain ⟨i, h1, h2⟩ := zip_memI ((srtK_perm _).mem_iff.mp hr)
      obtain ⟨v, hv, e⟩ := nm_of h2
      have hv := List.mem_of_getElem? hv
      rw [← e]
      exact gd_norm n v (by have := depth_mem hv; omega) (GdTs_all.mp hg v hv)
/-! ### the path -/
def stepOk : PStep → Prop
  | .inl i => i.natAbs < 1000
  | .inr z => z.cps.size ≤ 20 ∧ ∀ c ∈ z.cps.toList, c < 1000
theorem du_ok : ∀ {d : Nat} {v : Val} {p : List PStep}, TnyV d v → GdT v → duV v = some p → p.length ≤ d ∧ ∀ s ∈ p, stepOk s
  | d, .leaf l, p, _, _, h => by
    unfold duV at h
    cases h
  | d, .tup xs, p, _, _, h => by
    unfold duV at h
    cases h
    exact ⟨Nat.zero_le _, fun _ q => nomatch q⟩
  | d, .odd, p, h, _, _ => absurd h tny_odd
  | 0, .lst vs, p, h, _, _ => False.elim h
  | 0, .dic ks vs, p, h, _, _ => False.elim h
  | d + 1, .lst vs, p, ht, hg, h => by
    unfold duV at h
    unfold GdT at hg
    obtain ⟨j, v, q, h1, h2, rfl, _⟩ := duVs_some h
    have hv := List.mem_of_getElem? h1
    have lj := (List.getElem?_eq_some_iff.mp h1).1
    obtain ⟨g1, g2⟩ := du_ok (ht.2 v hv) (GdTs_all.mp hg v hv) h2
    refine ⟨Nat.succ_le_succ g1, fun s hs => ?_⟩
    rcases List.mem_cons.mp hs with rfl | hs
    · have := ht.1
      show (((0 + j : Nat) : Int)).natAbs < 1000
      omega
    · exact g2 s hs
  | d + 1, .dic ks vs, p, ht, hg, h => by
    unfold duV at h
    unfold GdT at hg
    obtain ⟨j, k, v, q, h0, h1, h2, rfl, _⟩ := duKs_some h
    have hv := List.mem_of_getElem? h1
    have hk := List.mem_of_getElem? h0
    obtain ⟨g1, g2⟩ := du_ok (ht.2.2.2 v hv) (GdTs_all.mp hg.2.2.2 v hv) h2
    refine ⟨Nat.succ_le_succ g1, fun s hs => ?_⟩
    rcases List.mem_cons.mp hs with rfl | hs
    · exact ⟨ht.2.2.1 k hk, fun c hc => plain_lt (List.all_eq_true.mp (hg.2.2.1 k hk) c hc)⟩
    · exact g2 s hs
/-! ### what is told as data -/
def stepD : PStep → PyData
  | .inl i => .int i
  | .inr z => .str z
def toldD (l : List Nat) : PyData := .tuple [.str "told", .str (strN l)]
def noneD (p : List PStep) : PyData := .tuple [.str "none", .tuple (p.map stepD)]
theorem dpall_step {K : PySem.W.Frag} {H : Hp} : ∀ p : List PStep, DpAll K H (p.map stepV) (p.map stepD)
  | [] => .nil
  | .inl i :: t => .cons (.int _) (dpall_step t)
  | .inr k :: t => .cons (.str _) (dpall_step t)
theorem dp_told {K : PySem.W.Frag} {H : Hp} {t : Addr} {l : List Nat} (h : H t = some (.tup [V.str "told", .str (strN l)])) : Dp K H (.ref t) (toldD l) :=
  .tup (.inl (.inl h)) (.cons (.str _) (.cons (.str _) .nil))
theorem dp_none {K : PySem.W.Frag} {H : Hp} {t u : Addr} {p : List PStep} (h : H t = some (.tup [V.str "none", .ref u])) (g : SqT K H u (p.map stepV)) : Dp K H (.ref t) (noneD p) :=
  .tup (.inl (.inl h)) (.cons (.str _) (.cons (.tup g (dpall_step p)) .nil))
theorem shown_lit (z : Str) (h : (PySem.reprText z).length ≤ 60) : (PyData.shown (.str z)).length ≤ 60 := by
  rw [PyData.shown]
  exact h
theorem told_show {l : List Nat} (hl : l.length ≤ 600000) (hs : ∀ c ∈ l, c < 1000) : (toldD l).showable = true ∧ (toldD l).hasDict = false ∧ (toldD l).depth ≤ 60 ∧ (toldD l).shown.length ≤ sizeLine := by
  have st : (PyData.shown (.str ("told" : Str))).length ≤ 60 := by
    rw [PyData.shown]
    decide +kernel
  have sl : (PyData.shown (.str (strN l))).length ≤ 10 * l.length + 2 := by
    rw [PyData.shown]
    have := PySem.StrLaws.reprText_len (strN l) (fun c hc => by
      rw [cps_strN] at hc
      exact Nat.lt_trans (hs c hc) (by decide))
    rw [strN_len] at this
    exact this
  unfold toldD
  refine ⟨?_, ?_, by show max 0 (max 0 0) + 1 ≤ 60; decide, ?_⟩
  · rw [PyData.showable, PyData.showableAll, PyData.showableAll, PyData.showableAll, PyData.showable, PyData.showable]
    rfl
  · rw [PyData.hasDict, PyData.hasDictAll, PyData.hasDictAll, PyData.hasDictAll, PyData.hasDict, PyData.hasDict]
    rfl
  · rw [PyData.shown]
    have := tupleText_len_le (PyData.shownAll [.str "told", .str (strN l)])
    rw [PyData.shownAll, PyData.shownAll, PyData.shownAll, List.map_cons, List.map_cons, List.map_nil, List.sum_cons, List.sum_cons, List.sum_nil] at this
    rw [PyData.shownAll, PyData.shownAll, PyData.shownAll]
    refine Nat.le_trans this (Nat.le_trans (?_ : _ ≤ 7000000) (by decide))
    show _ + (_ + 0) + 2 * 2 + 3 ≤ 7000000
    omega
theorem shown_step {s : PStep} (h : stepOk s) : (stepD s).shown.length ≤ 250 := by
  cases s with
  | inl i =>
    show (PyData.shown (.int i)).length ≤ 250
    rw [PyData.shown]
    have h' : i.natAbs < 1000 := h
    have e := int_text_length_le10 (a := i) (k := 20) (by decide) (by have h10 : 10 ^ 20 = 100000000000000000000 := by decide
                                                                      omega)
    show (Str.ofString (toString i)).length ≤ 250
    rw [PySem.ofString_length]
    exact Nat.le_trans e (by decide)
  | inr z =>
    show (PyData.shown (.str z)).length ≤ 250
    rw [PyData.shown]
    have h' : z.cps.size ≤ 20 ∧ ∀ c ∈ z.cps.toList, c < 1000 := h
    have := PySem.StrLaws.reprText_len z (fun c hc => Nat.lt_trans (h'.2 c hc) (by decide))
    have e : z.length = z.cps.size := rfl
    omega
theorem shown_steps : ∀ p : List PStep, (∀ s ∈ p, stepOk s) → PyData.showableAll (p.map stepD) = true ∧ PyData.hasDictAll (p.map stepD) = false ∧ (PyData.shownAll (p.map stepD)).length = p.length ∧ ((PyData.shownAll (p.map stepD)).map (·.length)).sum ≤ 250 * p.length ∧ PyData.depthAll (p.map stepD) = 0
  | [], _ => by
    refine ⟨?_, ?_, ?_, ?_, rfl⟩
    · rw [List.map_nil, PyData.showableAll]
    · rw [List.map_nil, PyData.hasDictAll]
    · rw [List.map_nil, PyData.shownAll]; rfl
    · rw [List.map_nil, PyData.shownAll]; exact Nat.le_refl _
  | s :: t, h => by
    obtain ⟨h1, h2, h3, h4, h5⟩ := shown_steps t fun y hy => h y (List.mem_cons_of_mem _ hy)
    have hs := h s (List.mem_cons_self ..)
    have ls := shown_step hs
    rw [List.map_cons, PyData.showableAll, PyData.hasDictAll, PyData.shownAll, h1, h2]
    refine ⟨?_, ?_, ?_, ?_, ?_⟩
    · rw [Bool.and_true]
      cases s with
      | inl i =>
        show PyData.showable (.int i) = true
        have h' : i.natAbs < 1000 := hs
        rw [PyData.showable]
        exact decide_eq_true (log_20 (by omega))
      | inr k => show PyData.showable (.str k) = true; rw [PyData.showable]
    · rw [Bool.or_false]
      cases s with
      | inl n => show PyData.hasDict (.int n) = false; rw [PyData.hasDict]
      | inr k => show PyData.hasDict (.str k) = false; rw [PyData.hasDict]
    · rw [List.length_cons, List.length_cons, h3]
    · rw [List.map_cons, List.sum_cons, List.length_cons]
      omega
    · cases s <;> (show max 0 (PyData.depthAll (t.map stepD)) = 0; rw [h5]; rfl)
theorem none_show {p : List PStep} (hl : p.length ≤ 100) (hs : ∀ s ∈ p, stepOk s) : (noneD p).showable = true ∧ (noneD p).hasDict = false ∧ (noneD p).depth ≤ 60 ∧ (noneD p).shown.length ≤ sizeLine := by
  have st : (PyData.shown (.str ("none" : Str))).length ≤ 60 := by
    rw [PyData.shown]
    decide +kernel
  obtain ⟨h1, h2, h3, h4, h5⟩ := shown_steps p hs
  unfold noneD
  refine ⟨?_, ?_, ?_, ?_⟩
  · rw [PyData.showable, PyData.showableAll, PyData.showableAll, PyData.showableAll, PyData.showable, PyData.showable, h1]
    rfl
  · rw [PyData.hasDict, PyData.hasDictAll, PyData.hasDictAll, PyData.hasDictAll, PyData.hasDict, PyData.hasDict, h2]
    rfl
  · have : PyData.depth (.tuple [.str "none", .tuple (p.map stepD)]) = max 0 (max (PyData.depthAll (p.map stepD) + 1) 0) + 1 := rfl
    rw [this, h5]
    decide
  · have in1 : (PyData.shown (.tuple (p.map stepD))).length ≤ 30000 := by
      rw [PyData.shown]
      have := tupleText_len_le (PyData.shownAll (p.map stepD))
      omega
    rw [PyData.shown]
    have := tupleText_len_le (PyData.shownAll [.str "none", .tuple (p.map stepD)])
    rw [PyData.shownAll, PyData.shownAll, PyData.shownAll, List.map_cons, List.map_cons, List.map_nil, List.sum_cons, List.sum_cons, List.sum_nil] at this
    rw [PyData.shownAll, PyData.shownAll, PyData.shownAll]
    refine Nat.le_trans this (Nat.le_trans (?_ : _ ≤ 4000000) (by decide))
    show _ + (_ + 0) + 2 * 2 + 3 ≤ 4000000
    omega
theorem shaped_told {l : List Nat} (hs : ∀ c ∈ l, c < 1000) : SeqAt.shaped (toldD l) = true := by
  unfold SeqAt.shaped
  have e1 : PyData.canLay0 (toldD l) = (PyData.strOk "told" && (PyData.strOk (strN l) && true)) := rfl
  have e2 : PyData.depth (toldD l) = max 0 (max 0 0) + 1 := rfl
  have e3 : PyData.strOk (strN l) = true := by
    unfold PyData.strOk
    rw [Array.all_eq_true']
    intro c hc
    have : c ∈ (strN l).cps.toList := Array.mem_toList_iff.mpr hc
    rw [cps_strN] at this
    have := hs c this
    exact decide_eq_true (by omega)
  rw [e1, e2, e3, show PyData.strOk "told" = true from by decide +kernel]
  rfl
/-! ### texts that are read -/
theorem read_tree {t : Val} (h : GdT t) (ht : TnyV 3 t) : vaF (txV t) 4 0 = some ((txV t).length, uvV t) := by
  have := tx_read 4 t (GdT.tr t h) (Nat.lt_succ_of_le (tny_depth ht)) (txV t) [] [] (by simp) (.inl rfl)
  simpa using this
end G58.V

set_option Elab.async false
set_option linter.all false
set_option pp.maxSteps 2500
set_option maxRecDepth 100000
set_option maxHeartbeats 4000000
/-! What read_value says. -/
namespace G58.V
open PySem PySem.Spec PyProof.Rows L2 NumText TL LamX
def spSai (K : PySem.W.Frag) : Sp := fun vs H Q _ => ∃ (l : List Nat) (v : Val), vs = [.str (strN l)] ∧ l.length ≤ 2000 ∧ vaF l 4 0 = some (l.length, v) ∧
  ((∃ p : List PStep, BadV v p ∧ ∀ t u H', Same H H' → H' t = some (.tup [V.str "none", .ref u]) → SqT K H' u (p.map stepV) → Q (.ref t) H') ∨
   (GoodV v ∧ GdT v ∧ TnyV 3 v ∧ duV (normV v) = none ∧ ∀ t H', Same H H' → H' t = some (.tup [V.str "told", .str (strN (txV (normV v)))]) → Q (.ref t) H'))
section
variable {P : Program} {w : World} {K : PySem.W.Frag} {mg : Str → Option Value} {base : Heap} {a : Ad}
theorem scSai : FnScope ["_law_word", "e"] ["_law_word"] (defScope sSai) := ⟨rfl, rfl, rfl, by decide +kernel, rfl, by decide +kernel, by decide +kernel⟩
theorem ok_sai (D : Df K a) (T : Txt K mg a) : FnOk P w K mg base CX0 22 a.fSai D.dSai ["_law_word"] (spSai K) := by
  have GRdv : FnOk P w K mg base (L2.CX P w) (3 * 4 + 9) a.fRdv D.dRdv ["text"] (spRdv K a 4) := ok_rdv D T 4
  have GWri : FnOk P w K mg base CX0 (4 + 2) a.fWri D.dWri ["_law_thing"] (spWri K a 4) := ok_wri D T 4
  refine D.FSai.ok scSai (fun vs H Q E h => ?_) (fun cdv A outer s H vs Q E hr h => ?_)
  · obtain ⟨l, v, rfl, _⟩ := h
    rfl
  · obtain ⟨l, v, rfl, hl, hF, h⟩ := h
    have hr1 : Room (4 + 2) _ := hr.mono (by decide)
    have hr2 : Room (3 * 4 + 9) _ := hr.mono (by decide)
    refine ⟨_, pss_one (ps_try_mix
      (l := [⟨.ref a.cNoValue, some 1, _⟩, ⟨.ref a.cNestError, none, _⟩])
      (tb := fun W D st H => ∃ Ech : XK, (∀ cls d st' H', Ech cls d H' → W cls d st' H') ∧ tRet (tTup (tCons (tC (.str "told")) (tCons (tCall (spWri K a 4) [] E0 (tCons (tCall (spRdv K a 4) [] Ech (tCons (tVar 0) tNil)) tNil)) tNil))) D st H)
      rfl rfl L2.takes0 (fun W pn xe tk _ => ?_)
      (.named scSai.nd rfl rfl ⟨rfl, by decide, .inl T.gcNoValue⟩ (fun x oe k d pn hz hf => pss_one (ps_ret (pe_tup (pa_cons pe_str (pa_cons (pe_xf T.xNoValue.xf T.noNoValue_path hz hf (pv 1)) pa_nil)))))
      (.bare ⟨rfl, by decide, .inl T.gcNestError⟩ (fun x oe k d pn hz hf => pss_one (ps_ret (pe_tup (pa_cons pe_str (pa_cons pe_non pa_nil))))) .nil))), ?_⟩
    · refine ⟨fun pins s' st H' D' I h' => ?_⟩
      obtain ⟨Ech, hW, h2⟩ := h'
      refine PSs.run (t := tRet (tTup (tCons (tC (.str "told")) (tCons (tCall (spWri K a 4) [] E0 (tCons (tCall (spRdv K a 4) [] Ech (tCons (tVar 0) tNil)) tNil)) tNil)))) ?_ pins s' st H' D' I h2
      exact pss_one (ps_ret (pe_tup (pa_cons pe_str (pa_cons (pe_call GWri hr1 rfl T.gWri D.FWri.kp D.bWri .nil pass0 (pa_cons (pe_call GRdv hr2 rfl T.gRdv D.FRdv.kp D.bRdv .nil (passes_call tk hW) (pa_cons (pv 0) pa_nil)) pa_nil)) pa_nil))))
    · refine ⟨fun cls d H' => ∃ dd : Addr, d = some dd ∧ Same H H' ∧ cls = .ref a.cNoValue ∧ ∃ t, H' dd = some (.xd (pthF t)) ∧ ∀ tt, H' tt = none → Q (.ref tt) (upd H' tt (.tup [V.str "none", .ref t])), fun cls d st' H' hE => ?_, ?_⟩
      · obtain ⟨dd, rfl, s1, rfl, t, e1, q⟩ := hE
        refine ⟨true, T.emNoValue_NoValue, fun _ x hx hlt => ?_, fun z => Bool.noConfusion z⟩
        exact ⟨.ref x, List.getElem?_set_self hlt, rfl, rfl, dd, _, .ref t, rfl, e1, rfl, by show 2 ≤ sizeLine; decide, q⟩
      · refine ⟨_, rfl, l, v, rfl, hl, by decide, hF, ?_⟩
        rcases h with ⟨p, hb, k⟩ | ⟨hg, hg2, ht, hdu, k⟩
        · refine .inl ⟨p, hb, fun d t H' s1 e1 e2 => ⟨d, rfl, s1, rfl, t, e1, fun tt htt => ?_⟩⟩
          have s2 := same_new (o := .tup [V.str "none", .ref t]) (Same.refl H') htt
          exact k tt t _ (s1.trans s2) upd_same (Same.tup s2 e2)
        · refine .inr ⟨hg, fun H' y s1 hV => ?_⟩
          refine ⟨y, v, 3, rfl, ValAt.same nw_sub _ _ hV, by decide, by decide, ht, hg2, hdu, fun H2 s2 => ⟨by show 2 ≤ sizeLine; decide, fun tt htt => ?_⟩⟩
          have s3 := same_new (o := .tup [V.str "told", .str (strN (txV (normV v)))]) (Same.refl H2) htt
          exact k tt _ ((s1.trans s2).trans s3) upd_same
end
end G58.V

set_option Elab.async false
set_option linter.all false
set_option pp.maxSteps 2500
set_option maxRecDepth 100000
set_option maxHeartbeats 4000000
/-! Numbers at the ends. -/
namespace G58.V
open PySem PySem.Spec PyProof.Rows L2 NumText TL LamX
def spNrt : Sp := fun vs H Q _ => ∃ (S : Addr), vs = [.ref S] ∧ SrcAt H S ∧ ∀ H', But S H H' → Q (.bl true) H'
/-- what is said of a leaf's text -/
theorem sai_leaf {l : Lf} (h : TxL l) (o : okL l = true) (u : uvL l = .leaf l) (hs : (wrL l).length ≤ 500) (hm : smallL l) :
    (wrL l).length ≤ 2000 ∧ vaF (wrL l) 4 0 = some ((wrL l).length, .leaf l) ∧ GoodV (.leaf l) ∧ GdT (.leaf l) ∧ TnyV 3 (.leaf l) ∧ duV (normV (.leaf l)) = none ∧ txV (normV (.leaf l)) = wrL l := by
  have hg : GdT (.leaf l) := by
    unfold GdT
    exact ⟨h, o, u⟩
  have ht : TnyV 3 (.leaf l) := tny_leaf.mpr ⟨hs, hm⟩
  have hr := read_tree hg ht
  unfold txV uvV at hr
  rw [u] at hr
  exact ⟨by omega, hr, .leaf l o, hg, ht, by unfold normV duV; rfl, by unfold normV txV; rfl⟩
theorem one_str {x y : Str} (e : x = y) : [V.str x] = [V.str y] := by rw [e]
/-- told twice alike -/
theorem ne_told {K : PySem.W.Frag} {H : Hp} {l : List Nat} {t1 t2 : Addr} {z : Str} {Q : VK} (e : z = strN l) (hs : ∀ c ∈ l, c < 1000) (h1 : H t1 = some (.tup [V.str "told", .str z])) (h2 : H t2 = some (.tup [V.str "told", .str z])) (k : Q (.bl false) H) : rNeD K (.ref t1) (.ref t2) H Q := by
  subst e
  refine ⟨_, _, dp_told h1, dp_told h2, shaped_told hs, shaped_told hs, ?_⟩
  rw [SeqAt.eqv_refl _ (SeqAt.canLay_of_shaped (shaped_told hs))]
  exact k
theorem eq_told {K : PySem.W.Frag} {H : Hp} {l : List Nat} {t1 t2 : Addr} {z : Str} {Q : VK} (e : z = strN l) (hs : ∀ c ∈ l, c < 1000) (h1 : H t1 = some (.tup [V.str "told", .str z])) (h2 : H t2 = some (.tup [V.str "told", .str z])) (k : Q (.bl true) H) : rEqD K (.ref t1) (.ref t2) H Q := by
  subst e
  refine ⟨_, _, dp_told h1, dp_told h2, shaped_told hs, shaped_told hs, ?_⟩
  rw [SeqAt.eqv_refl _ (SeqAt.canLay_of_shaped (shaped_told hs))]
  exact k
theorem dcI_len {i : Int} (h : i.natAbs < 100000000000000000000) : (dcI i).length ≤ 21 := by
  have := dc_len h
  unfold dcI
  split
  · rw [List.length_cons]
    omega
  · omega
section
variable {P : Program} {w : World} {K : PySem.W.Frag} {mg : Str → Option Value} {base : Heap} {a : Ad}
theorem scNrt : FnScope ["_law_source_here", "_law_some", "_law_number_so"] ["_law_source_here"] (defScope sNrt) := ⟨rfl, rfl, rfl, by decide +kernel, rfl, by decide +kernel, by decide +kernel⟩
theorem ok_nrt (D : Df K a) (T : Txt K mg a) : FnOk P w K mg base CX0 23 a.fNrt D.dNrt ["_law_source_here"] spNrt := by
  have GDrw : FnOk P w K mg base CX0 1 a.fDrw D.dDrw ["_law_source_here", "_law_many"] spDrw := ok_drw D T
  have GSai : FnOk P w K mg base CX0 22 a.fSai D.dSai ["_law_word"] (spSai K) := ok_sai D T
  refine D.FNrt.ok (k := 22) scNrt (fun vs H Q E h => ?_) (fun cdv A outer s H vs Q E hr h => ?_)
  · obtain ⟨S, rfl, _⟩ := h
    rfl
  · obtain ⟨S, rfl, hS, k⟩ := h
    have hr1 : Room 1 _ := hr.mono (by decide)
    refine ⟨_, (pss_cons (ps_set (i := 1) scNrt.nd rfl (.inl rfl) (pe_lst (pa_cons pe_int (pa_cons pe_int (pa_cons (pe_op op_sub (pe_op op_pow pe_int pe_int) pe_int) (pa_cons (pe_op op_pow pe_int pe_int) (pa_cons (pe_op op_sub (pe_op op_pow pe_int pe_int) pe_int) (pa_cons (pe_op op_sub pe_int (pe_op op_pow pe_int pe_int)) (pa_cons (pe_un un_neg pe_int) (pa_cons (pe_un un_neg pe_int) (pa_cons (pe_op op_pow pe_int pe_int) (pa_cons (pe_call GDrw hr1 rfl T.gDrw D.FDrw.kp D.bDrw .nil pass0 (pa_cons (pv 0) (pa_cons (pe_op op_pow pe_int pe_int) pa_nil))) pa_nil)))))))))))) (pss_cons (ps_for PassesOwn.never rfl (pi_list (pv 1)) (pg_name (i := 2) scNrt.nd rfl (.inl rfl)) (pss_cons (ps_if (pt_cmpR (op_neD hr.units) (pe_call GSai hr rfl T.gSai D.FSai.kp D.bSai .nil pass0 (pa_cons (pe_callTy call_str_int (by rfl) T.bstr (by decide +kernel) (pa_cons (pv 2) pa_nil)) pa_nil)) (pe_tup (pa_cons pe_str (pa_cons (pe_callTy call_str_int (by rfl) T.bstr (by decide +kernel) (pa_cons (pv 2) pa_nil)) pa_nil))) (nomark _)) (pss_one (ps_ret pe_bl)) pss_nil) (pss_one (ps_if (PW.pt (pw_and (pt_cmpR op_ge (pv 2) pe_int (nomark _)) (pw_and1 (pt_cmpR (op_neD hr.units) (pe_call GSai hr rfl T.gSai D.FSai.kp D.bSai .nil pass0 (pa_cons (pe_op op_add_str pe_str (pe_callTy call_str_int (by rfl) T.bstr (by decide +kernel) (pa_cons (pv 2) pa_nil))) pa_nil)) (pe_tup (pa_cons pe_str (pa_cons (pe_op op_add_str pe_str (pe_callTy call_str_int (by rfl) T.bstr (by decide +kernel) (pa_cons (pv 2) pa_nil))) pa_nil))) (nomark _))))) (pss_one (ps_ret pe_bl)) pss_nil)))) (pss_one (ps_ret (pe_and (pe_cmpR (op_eqD hr.units) (pe_call GSai hr rfl T.gSai D.FSai.kp D.bSai .nil pass0 (pa_cons pe_str pa_nil)) (pe_tup (pa_cons pe_str (pa_cons pe_str pa_nil))) (nomark _)) (pe_one (pe_cmpR (op_eqD hr.units) (pe_call GSai hr rfl T.gSai D.FSai.kp D.bSai .nil pass0 (pa_cons pe_str pa_nil)) (pe_tup (pa_cons pe_str (pa_cons pe_str pa_nil))) (nomark _)))))))), ?_⟩
    refine ⟨_, _, rfl, rfl, ⟨by decide, by decide, by decide⟩, _, _, rfl, rfl, _, _, rfl, rfl, ⟨by decide, by decide, by decide⟩, _, _, rfl, rfl, ⟨by decide, by decide, by decide⟩, _, _, rfl, rfl, _, _, rfl, rfl, ⟨by decide, by decide, by decide⟩, _, _, rfl, rfl, _, rfl, _, rfl, _, _, rfl, rfl, ⟨by decide, by decide, by decide⟩, _, rfl, _, _, rfl, rfl, ⟨by decide, by decide, by decide⟩, S, _, rfl, hS, by decide, by decide, fun q H1 q0 q1 hS1 b1 _ => ⟨by show 10 ≤ sizeLine; decide, fun L hL => ?_⟩⟩
    obtain ⟨xs, ex⟩ : ∃ xs : List V, xs = [V.int 0, .int 1, .int (2 ^ 63 - 1), .int (2 ^ 63), .int (2 ^ 64 - 1), .int (0 - 2 ^ 63), .int (-1), .int (-10), .int (10 ^ 19), .int q] := ⟨_, rfl⟩
    have hxs : ∀ x ∈ xs, ∃ i : Int, x = .int i ∧ -9223372036854775808 ≤ i ∧ i ≤ 18446744073709551615 := fun x hx => by
      rw [ex] at hx
      simp only [List.mem_cons, List.not_mem_nil, or_false] at hx
      have e9 : (10 : Int) ^ (9 : Int).toNat = 1000000000 := by decide
      rw [e9] at q1
      rcases hx with rfl | rfl | rfl | rfl | rfl | rfl | rfl | rfl | rfl | rfl
      all_goals first | exact ⟨_, rfl, by decide, by decide⟩ | exact ⟨_, rfl, by omega, by omega⟩
    show tSeq _ _ _ _ (upd H1 L (.lst [V.int 0, .int 1, .int (2 ^ 63 - 1), .int (2 ^ 63), .int (2 ^ 64 - 1), .int (0 - 2 ^ 63), .int (-1), .int (-10), .int (10 ^ 19), .int q]))
    rw [← ex]
    have sL := same_new (o := .lst xs) (Same.refl H1) hL
    have eL : (upd H1 L (.lst xs)) L = some (.lst xs) := upd_same
    generalize upd H1 L (.lst xs) = H2 at sL eL ⊢
    have b2 := b1.same sL
    refine ⟨_, rfl, L, rfl, ⟨_, .inl (.inl eL)⟩, for_it (walk_list (K := K) (a := L) (xs := xs)) (fun i st H3 => ∃ (u : Option V), st = [some (.ref S), some (.ref L), u] ∧ Same H2 H3) ⟨_, rfl, Same.refl H2⟩ (fun i st H3 _ q => by
      obtain ⟨_, _, q⟩ := q
      exact .inl (.inl (q _ _ eL))) ?_ ?_⟩
    · rintro i x st H3' H3 hi ⟨u, rfl, s3⟩ ⟨rfl, hx⟩
      obtain ⟨n, rfl, n0, n1⟩ := hxs x (List.mem_of_getElem? hx)
      have nn : n.natAbs < 100000000000000000000 := by omega
      have lg := log_20 nn
      have dl := dcI_len nn
      have ok : okL (.int n) = true := by
        show (decide (-9223372036854775808 ≤ n) && decide (n ≤ 18446744073709551615)) = true
        simp [n0, n1]
      obtain ⟨f1, f2, f3, f4, f5, f6, f7⟩ := sai_leaf (l := .int n) nn ok rfl (Nat.le_trans dl (by decide)) trivial
      refine ⟨_, rfl, n, rfl, lg, _, _, one_str (str_int n), f1, f2, .inr ⟨f3, f4, f5, f6, fun t1 H4 s4 e4 => ⟨_, rfl, n, rfl, lg, by show 2 ≤ sizeLine; decide, fun t2 ht2 => ?_⟩⟩⟩
      rw [f7, show wrL (.int n) = dcI n from rfl, ← str_int] at e4
      have s5 := same_new (o := .tup [V.str "told", .str (Str.ofString (toString n))]) (Same.refl H4) ht2
      refine ne_told (str_int n) (dcI_sm n) (s5 _ _ e4) upd_same ⟨false, rfl, iteF ?_⟩
      generalize upd H4 t2 _ = H5 at s5 ⊢
      have s35 := s3.trans (s4.trans s5)
      refine ⟨_, rfl, _, _, rfl, rfl, ?_⟩
      by_cases c : 0 ≤ n
      · have ed : dcI n = dcN n.toNat := by
          unfold dcI
          rw [if_neg (by omega)]
          congr 1
          omega
        have eu : ("u" : Str) ++ Str.ofString (toString n) = strN (117 :: dcN n.toNat) := by
          rw [str_int, ed, show ("u" : Str) = strN [117] from by decide +kernel, app_N]
          rfl
        have us : ∀ c ∈ 117 :: dcN n.toNat, c < 1000 := cons_sm (by decide) (dcN_sm _)
        have ul : (117 :: dcN n.toNat).length ≤ 500 := by
          rw [← ed, List.length_cons]
          omega
        have uz : ("u" : Str).length + (Str.ofString (toString n)).length ≤ sizeLine := by
          rw [str_int, strN_len, show ("u" : Str).length = 1 from by decide +kernel]
          exact Nat.le_trans (by omega : _ ≤ 100) (by decide)
        have uv : uvL (.thg .u (.num n)) = .leaf (.thg .u (.num n)) := if_pos n1
        refine ⟨true, congrArg V.bl (decide_eq_true c), iteT ?_⟩
        obtain ⟨g1, g2, g3, g4, g5, g6, g7⟩ := sai_leaf (l := .thg .u (.num n)) ⟨c, by omega⟩ rfl uv ul trivial
        refine ⟨_, rfl, n, rfl, lg, _, _, rfl, rfl, uz, _, _, one_str eu, g1, g2, .inr ⟨g3, g4, g5, g6, fun t3 H6 s6 e6 => ⟨_, rfl, n, rfl, lg, _, _, rfl, rfl, uz, by show 2 ≤ sizeLine; decide, fun t4 ht4 => ?_⟩⟩⟩
        rw [g7, show wrL (.thg .u (.num n)) = 117 :: dcN n.toNat from rfl, ← eu] at e6
        have s7 := same_new (o := .tup [V.str "told", .str (("u" : Str) ++ Str.ofString (toString n))]) (Same.refl H6) ht4
        refine ne_told eu us (s7 _ _ e6) upd_same ⟨false, rfl, iteF ⟨_, rfl, s35.trans (s6.trans s7)⟩⟩
      · exact ⟨false, congrArg V.bl (decide_eq_false c), iteF (iteF ⟨_, rfl, s35⟩)⟩
    · rintro st H3 ⟨u, rfl, s3⟩
      have ed : ("d" : Str) = strN [100] := by decide +kernel
      have ew : ("w000a0041" : Str) = strN [119, 48, 48, 48, 97, 48, 48, 52, 49] := by decide +kernel
      obtain ⟨f1, f2, f3, f4, f5, f6, f7⟩ := sai_leaf (l := .thg .d (.row [])) (fun _ q => nomatch q) rfl rfl (by decide) (by show _ ≤ _; decide)
      refine ⟨_, _, one_str ed, f1, f2, .inr ⟨f3, f4, f5, f6, fun t1 H4 s4 e4 => ⟨by show 2 ≤ sizeLine; decide, fun t2 ht2 => ?_⟩⟩⟩
      rw [f7, show wrL (.thg .d (.row [])) = [100] from rfl, ← ed] at e4
      have s5 := same_new (o := .tup [V.str "told", .str "d"]) (Same.refl H4) ht2
      refine eq_told ed (by decide) (s5 _ _ e4) upd_same ⟨true, rfl, iteT ?_⟩
      generalize upd H4 t2 _ = H5 at s5 ⊢
      obtain ⟨g1, g2, g3, g4, g5, g6, g7⟩ := sai_leaf (l := .thg .w (.row [10, 65])) ⟨by decide, by decide⟩ rfl (by unfold uvL; rfl) (by decide) (by show _ ≤ _; decide)
      have w9 : wrL (.thg .w (.row [10, 65])) = [119, 48, 48, 48, 97, 48, 48, 52, 49] := by decide
      refine ⟨_, _, one_str (ew.trans (congrArg strN w9.symm)), g1, g2, .inr ⟨g3, g4, g5, g6, fun t3 H6 s6 e6 => ⟨by show 2 ≤ sizeLine; decide, fun t4 ht4 => ?_⟩⟩⟩
      rw [g7, w9, ← ew] at e6
      have s7 := same_new (o := .tup [V.str "told", .str "w000a0041"]) (Same.refl H6) ht4
      refine eq_told ew (by decide) (s7 _ _ e6) upd_same ?_
      exact k _ (b2.same (s3.trans (s4.trans (s5.trans (s6.trans s7)))))
end
end G58.V

set_option Elab.async false
set_option linter.all false
set_option pp.maxSteps 2500
set_option maxRecDepth 100000
set_option maxHeartbeats 4000000
/-! Eight texts. -/
namespace G58.V
open PySem PySem.Spec PyProof.Rows L2 NumText TL LamX
def spRgt : Sp := fun vs H Q _ => ∃ (S : Addr), vs = [.ref S] ∧ SrcAt H S ∧ ∀ H', But S H H' → Q (.bl true) H'
section
variable {P : Program} {w : World} {K : PySem.W.Frag} {mg : Str → Option Value} {base : Heap} {a : Ad}
theorem scRgt : FnScope ["_law_source_here", "_law_k", "_law_thing", "_law_word", "_law_way", "_law_due_here"] ["_law_source_here"] (defScope sRgt) := ⟨rfl, rfl, rfl, by decide +kernel, rfl, by decide +kernel, by decide +kernel⟩
theorem ok_rgt (D : Df K a) (T : Txt K mg a) : FnG P w K mg base CX0 24 a.fRgt D.dRgt ["_law_source_here"] spRgt := by
  have GTre : FnOk P w K mg base CX0 (4 + 8) a.fTre D.dTre ["_law_source_here", "_law_deep", "_law_rare"] (spTre K a 4) := ok_tre D T 4
  have GTxx : FnOk P w K mg base CX0 (4 + 10) a.fTxx D.dTxx ["_law_source_here", "_law_thing"] (spTxx K a 4) := ok_txx D T 4
  have GDue : FnOk P w K mg base CX0 1 a.fDue D.dDue ["_law_thing"] (spDue K a) := ok_due D T
  have GWri : FnOk P w K mg base CX0 (4 + 2) a.fWri D.dWri ["_law_thing"] (spWri K a 4) := ok_wri D T 4
  have GSai : FnOk P w K mg base CX0 22 a.fSai D.dSai ["_law_word"] (spSai K) := ok_sai D T
  have GNrt : FnOk P w K mg base CX0 23 a.fNrt D.dNrt ["_law_source_here"] spNrt := ok_nrt D T
  refine okG (k := 23) D.FRgt scRgt (fun vs H Q E h => ?_) (fun cdv A outer s H vs Q E hgu hr h => ?_)
  · obtain ⟨S, rfl, _⟩ := h
    rfl
  · obtain ⟨S, rfl, hS, k⟩ := h
    have hr1 : Room (4 + 8) _ := hr.mono (by decide)
    have hr2 : Room (4 + 10) _ := hr.mono (by decide)
    have hr3 : Room 1 _ := hr.mono (by decide)
    have hr4 : Room (4 + 2) _ := hr.mono (by decide)
    have hr5 : Room 22 _ := hr.mono (by decide)
    refine ⟨_, (pss_cons (ps_for PassesOwn.never rfl (pi_range1 (by rfl) T.brange (pa_cons pe_int pa_nil)) (pg_name (i := 1) scRgt.nd rfl (.inl rfl)) (pss_cons (ps_set (i := 2) scRgt.nd rfl (.inl rfl) (pe_call GTre hr1 rfl T.gTre D.FTre.kp D.bTre .nil pass0 (pa_cons (pv 0) (pa_cons pe_int (pa_cons (pe_ix ix_list (pe_lst (pa_cons (pe_op op_pow pe_int pe_int) (pa_cons pe_int pa_nil))) (pe_op op_mod (pe_callTy call_int1 (by rfl) T.bint (by decide +kernel) (pa_cons (pv 1) pa_nil)) pe_int) (fun _ _ => rfl)) pa_nil))))) (pss_cons (ps_set (i := 3) scRgt.nd rfl (.inl rfl) (pe_call GTxx hr2 rfl T.gTxx D.FTxx.kp D.bTxx .nil pass0 (pa_cons (pv 0) (pa_cons (pv 2) pa_nil)))) (pss_one (ps_if (pt_cmpR op_le (pe_callB call_len_str (by rfl) T.blen PySem.boot_len (pa_cons (pv 3) pa_nil)) pe_int (nomark _)) (pss_cons (ps_set (i := 4) scRgt.nd rfl (.inl rfl) (pe_call GDue hr3 rfl T.gDue D.FDue.kp D.bDue .nil pass0 (pa_cons (pv 2) pa_nil))) (pss_cons (ps_set (i := 5) scRgt.nd rfl (.inl rfl) (pe_ifExp (pt_cmpR op_isN (pv 4) pe_non (nomark _)) (pe_tup (pa_cons pe_str (pa_cons (pe_call GWri hr4 rfl T.gWri D.FWri.kp D.bWri .nil pass0 (pa_cons (pv 2) pa_nil)) pa_nil))) (pe_tup (pa_cons pe_str (pa_cons (pv 4) pa_nil))))) (pss_one (ps_if (pt_cmpR op_ne (pe_callB (call_reprD hgu hr.units) (by rfl) T.brepr (by decide +kernel) (pa_cons (pe_call GSai hr5 rfl T.gSai D.FSai.kp D.bSai .nil pass0 (pa_cons (pv 3) pa_nil)) pa_nil)) (pe_callB (call_reprD hgu hr.units) (by rfl) T.brepr (by decide +kernel) (pa_cons (pv 5) pa_nil)) (nomark _)) (pss_one (ps_ret pe_bl)) pss_nil)))) pss_nil))))) (pss_one (ps_ret (pe_call GNrt hr rfl T.gNrt D.FNrt.kp D.bNrt .nil pass0 (pa_cons (pv 0) pa_nil))))), ?_⟩
    refine ⟨(8 : Int), rfl, by decide, by decide, for_it walk_range (fun t st H1 => ∃ u1 u2 u3 u4 u5, st = [some (.ref S), u1, u2, u3, u4, u5] ∧ SrcAt H1 S ∧ But S H H1) ⟨_, _, _, _, _, rfl, hS, Same.but (Same.refl H)⟩ (fun _ _ _ _ _ => True.intro) ?_ ?_⟩
    · rintro i y st H1' H1 hi ⟨u1, u2, u3, u4, u5, rfl, hS1, b1⟩ ⟨rfl, rfl⟩
      obtain ⟨r, er, r0, r1⟩ : ∃ r : Int, atI [V.int (10 ^ 9), .int 9] ((0 + ((i : Nat) : Int)) % 2) = some (.int r) ∧ 0 < r ∧ r ≤ 18446744073709551616 := by
        have : (0 + ((i : Nat) : Int)) % 2 = 0 ∨ (0 + ((i : Nat) : Int)) % 2 = 1 := by omega
        rcases this with e | e
        · rw [e]
          exact ⟨10 ^ 9, rfl, by decide, by decide⟩
        · rw [e]
          exact ⟨9, rfl, by decide, by decide⟩
      refine ⟨_, rfl, _, _, rfl, rfl, ⟨by decide, by decide, by decide⟩, by show 2 ≤ sizeLine; decide, fun L hL => ?_⟩
      have sL := same_new (o := .lst [V.int (10 ^ 9), .int 9]) (Same.refl H1) hL
      have eL : (upd H1 L (.lst [V.int (10 ^ 9), .int 9])) L = some (.lst [V.int (10 ^ 9), .int 9]) := upd_same
      have hSL := src_same hS1 sL
      have bL := b1.same sL
      refine ⟨_, rfl, .inl ⟨_, rfl, _, _, rfl, rfl, by show (0 : Int) < 2; decide, L, _, _, V.int r, rfl, rfl, .inl (.inl eL), er, ?_⟩⟩
      refine ⟨S, 3, r, rfl, hSL, by decide, by decide, r0, r1, fun y t H2 hV hg ht hS2 b2 => ?_⟩
      have hV2 := ValAt.same (nw_del hSL hS2) _ _ hV
      refine ⟨_, rfl, _, rfl, S, y, t, 3, rfl, hS2, hV2, by decide, by decide, ht, hg, fun t' H3 en hg' ht' hS3 b3 => ?_⟩
      have b03 := (bL.trans b2).trans b3
      have hV3 := ValAt.same del_sub _ _ (ValAt.same b3.del _ _ hV2)
      have tl := tx_len ht'
      have tb := bnd6 (d := 3) (by decide)
      have sl : sizeLine = 16777216 := rfl
      refine ⟨_, rfl, _, rfl, by rw [strN_len]; omega, _, _, rfl, rfl, ?_⟩
      by_cases c : (txV t').length ≤ 2000
      · refine ⟨true, congrArg V.bl (decide_eq_true (by rw [strN_len]; omega)), iteT ?_⟩
        have rd := read_tree hg' ht'
        obtain ⟨d1, d2⟩ := du_bad 4 t' (Nat.lt_succ_of_le (tny_depth ht')) hg'
        rw [en] at d1 d2
        refine ⟨_, rfl, y, t, rfl, hV3, tny_up ht 6 (by decide), hg, fun hdu H4 s4 => ?_, fun p hdu q H4 s4 hq => ?_⟩
        · obtain ⟨g1, g2⟩ := d1 hdu
          rw [g2] at g1 rd
          refine ⟨_, rfl, rfl, true, rfl, iteT ⟨_, rfl, y, t, 3, rfl, ValAt.same s4 _ _ hV3, by decide, by decide, ht, hg, hdu, fun H5 s5 => ⟨by show 2 ≤ sizeLine; decide, fun t5 ht5 => ?_⟩⟩⟩
          have s6 := same_new (o := .tup [V.str "told", .str (strN (txV (normV t)))]) (Same.refl H5) ht5
          have e6 : (upd H5 t5 (.tup [V.str "told", .str (strN (txV (normV t)))])) t5 = some (.tup [V.str "told", .str (strN (txV (normV t)))]) := upd_same
          generalize upd H5 t5 (.tup [V.str "told", .str (strN (txV (normV t)))]) = H6 at s6 e6 ⊢
          have tn := tny_norm ht fun _ _ _ => trivial
          obtain ⟨sh1, sh2, sh3, sh4⟩ := told_show (l := txV (normV t)) (by have := tx_len tn; omega) (gd_sm 4 _ (Nat.lt_succ_of_le (tny_depth tn)) (gd_norm 4 t (Nat.lt_succ_of_le (tny_depth ht)) hg))
          refine ⟨_, rfl, _, t', rfl, c, rd, .inr ⟨g1, hg', ht', by rw [en]; exact hdu, fun t7 H7 s7 e7 => ?_⟩⟩
          rw [en] at e7
          refine ⟨t7, _, rfl, dp_told e7, sh1, sh2, sh3, sh4, _, rfl, t5, _, rfl, dp_told (s7 _ _ e6), sh1, sh2, sh3, sh4, rfl, false, congrArg V.bl (by simp), iteF ?_⟩
          have s37 := s4.trans (s5.trans (s6.trans s7))
          exact ⟨_, _, _, _, _, rfl, src_same hS3 s37, b03.same s37⟩
        · refine ⟨_, rfl, rfl, false, congrArg V.bl (decide_eq_false (fun z => nomatch z)), iteF ⟨_, rfl, by show 2 ≤ sizeLine; decide, fun t5 ht5 => ?_⟩⟩
          have s6 := same_new (o := .tup [V.str "none", .ref q]) (Same.refl H4) ht5
          have e6 : (upd H4 t5 (.tup [V.str "none", .ref q])) t5 = some (.tup [V.str "none", .ref q]) := upd_same
          generalize upd H4 t5 (.tup [V.str "none", .ref q]) = H6 at s6 e6 ⊢
          have tn := tny_norm ht fun _ _ _ => trivial
          obtain ⟨q1, q2⟩ := du_ok tn (gd_norm 4 t (Nat.lt_succ_of_le (tny_depth ht)) hg) hdu
          obtain ⟨sh1, sh2, sh3, sh4⟩ := none_show (p := p) (by omega) q2
          refine ⟨_, rfl, _, uvV t', rfl, c, rd, .inl ⟨p, d2 p hdu, fun t7 w7 H7 s7 e7 hw7 => ?_⟩⟩
          refine ⟨t7, _, rfl, dp_none e7 hw7, sh1, sh2, sh3, sh4, _, rfl, t5, _, rfl, dp_none (s7 _ _ e6) (Same.tup (s6.trans s7) hq), sh1, sh2, sh3, sh4, rfl, false, congrArg V.bl (by simp), iteF ?_⟩
          have s37 := s4.trans (s6.trans s7)
          exact ⟨_, _, _, _, _, rfl, src_same hS3 s37, b03.same s37⟩
      · exact ⟨false, congrArg V.bl (decide_eq_false (by rw [strN_len]; omega)), iteF ⟨_, _, _, _, _, rfl, hS3, b03⟩⟩
    · rintro st H1 ⟨u1, u2, u3, u4, u5, rfl, hS1, b1⟩
      exact ⟨_, rfl, S, rfl, hS1, fun H2 b2 => k H2 (b1.trans b2)⟩
end
end G58.V

set_option Elab.async false
set_option linter.all false
set_option pp.maxSteps 2500
set_option maxRecDepth 100000
set_option maxHeartbeats 4000000
/-! k72: the law. -/
namespace G58.V
open PySem PySem.Spec PyProof.Rows L2 LamX
/-- xs + ys, each a list that is to be read -/
def rCatS (K : PySem.W.Frag) : R2 := fun x y H Q => ∃ l b xs zs, x = .ref l ∧ y = .ref b ∧ SqL K H l xs ∧ SqL K H b zs ∧ xs.length + zs.length ≤ sizeLine ∧ ∀ p, H p = none → Q (.ref p) (upd H p (.lst (xs ++ zs)))
theorem op_catS {X : Cx} : OpR X (binaryOp .Add) (rCatS X.K) := by
  intro pins s st H x y v u Q Iv rx ry h
  obtain ⟨l, b, xs, zs, rfl, rfl, hl, hb, hz, q⟩ := h
  cases rx
  cases ry
  obtain ⟨its, r, pl, _⟩ := Iv.list hl
  obtain ⟨its2, r2, pl2, _⟩ := Iv.list hb
  have e1 := r.length
  have e2 := r2.length
  obtain ⟨⟨cls, dd, data, sl⟩, ho, hc, n, hd⟩ := id pl.isList
  obtain ⟨⟨cls2, dd2, data2, sl2⟩, ho2, hc2, n2, hd2⟩ := id pl2.isList
  simp only at hc hd hc2 hd2
  subst hc hd hc2 hd2
  refine concat_meets ⟨_, ho, rfl⟩ ⟨_, ho2, rfl⟩ noFill_list_add seq_list_add PySem.F.slot_list_add PySem.F.entry_list_add (PySem.F.args_list_add_2 _ _)
    (list_addW l b its.toArray its2.toArray n n2 dd dd2 sl sl2 (by rw [List.size_toArray, List.size_toArray]; omega)) ⟨ho, ho2, ?_⟩
  rw [show its.toArray ++ its2.toArray = (its ++ its2).toArray from by simp]
  exact ⟨.ref _, _, Iv.lnew (t' := s.toks) (r.append r2) (by rw [List.length_append]; omega), rfl, q _ Iv.fresh⟩
theorem mem_cutV {xs : List V} {lo hi : Option Int} {x : V} (h : x ∈ cutV xs lo hi) : x ∈ xs := by
  unfold cutV at h
  exact List.mem_of_mem_drop (List.mem_of_mem_take h)
def spLaw (K : PySem.W.Frag) : Sp := fun vs H Q _ => ∃ (p : Addr) (ns : List Int), vs = [.ref p] ∧ SqL K H p (ns.map V.int) ∧ ns.length ≤ 63 ∧ ∀ H', Q (.bl true) H'
section
variable {P : Program} {w : World} {K : PySem.W.Frag} {mg : Str → Option Value} {base : Heap} {a : Ad}
theorem scLaw : FnScope ["_law_script", "_law_cell", "_law_source_here"] ["_law_script"] (defScope sLaw) := ⟨rfl, rfl, rfl, by decide +kernel, rfl, by decide +kernel, by decide +kernel⟩
theorem ok_law {f : Addr} {fd : FuncData} (F : Fun K "law" "law" sLaw f fd) (D : Df K a) (T : Txt K mg a) : FnG P w K mg base CX0 25 f fd ["_law_script"] (spLaw K) := by
  have GSrc : FnOk P w K mg base CX0 1 a.fSrc D.dSrc ["_law_cell"] spSrc := ok_src D T
  have GRgt : FnG P w K mg base CX0 24 a.fRgt D.dRgt ["_law_source_here"] spRgt := ok_rgt D T
  refine okG (k := 24) F scLaw (fun vs H Q E h => ?_) (fun cdv A outer s H vs Q E hgu hr h => ?_)
  · obtain ⟨p, ns, rfl, _⟩ := h
    rfl
  · obtain ⟨p, ns, rfl, hp, hl, k⟩ := h
    have hr1 : Room 1 _ := hr.mono (by decide)
    refine ⟨_, (pss_cons (ps_for PassesOwn.never rfl (pi_list (pe_slice sl_list (pe_op op_catS (pv 0) (pe_lst (pa_cons pe_int pa_nil))) po_none (po_some pe_int))) (pg_name (i := 1) scLaw.nd rfl (.inl rfl)) (pss_cons (ps_set (i := 2) scLaw.nd rfl (.inl rfl) (pe_call GSrc hr1 rfl T.gSrc D.FSrc.kp D.bSrc .nil pass0 (pa_cons (pv 1) pa_nil))) (pss_one (ps_if (pt_not (pt_val (pe_callG hgu GRgt hr rfl T.gRgt D.FRgt.kp D.bRgt .nil pass0 (pa_cons (pv 2) pa_nil)))) (pss_one (ps_ret pe_bl)) pss_nil)))) (pss_one (ps_ret pe_bl))), ?_⟩
    refine ⟨_, rfl, by show 1 ≤ sizeLine; decide, fun l0 hl0 => ?_⟩
    have s0 : Same H (upd H l0 (.lst [.int 0])) := same_new (Same.refl H) hl0
    refine ⟨p, l0, _, _, rfl, rfl, s0.seq hp, .inl (.inl upd_same), ?_, fun c1 hc1 => ⟨4, rfl, c1, _, rfl, .inl (.inl upd_same), fun s1 hs1 => ⟨s1, rfl, ⟨_, .inl (.inl upd_same)⟩, for_it (walk_list (K := K) (a := s1) (xs := cutV (ns.map V.int ++ [.int 0]) none (some 4)))
      (fun i st H1 => ∃ u1 u2, st = [some (.ref p), u1, u2] ∧ H1 s1 = some (.lst (cutV (ns.map V.int ++ [.int 0]) none (some 4)))) ⟨_, _, rfl, upd_same⟩ (fun i st H1 _ q => by
        obtain ⟨_, _, _, q⟩ := q
        exact .inl (.inl q)) ?_ ?_⟩⟩⟩
    · rw [List.length_map]
      show _ + 1 ≤ sizeLine
      exact Nat.le_trans (by omega : _ ≤ 100) (by decide)
    · rintro i x st H1' H1 hi ⟨u1, u2, rfl, h1⟩ ⟨rfl, hx⟩
      obtain ⟨z, rfl⟩ : ∃ z, x = .int z := by
        rcases List.mem_append.mp (mem_cutV (List.mem_of_getElem? hx)) with m | m
        · obtain ⟨z, _, e⟩ := List.mem_map.mp m
          exact ⟨z, e.symm⟩
        · exact ⟨0, List.mem_singleton.mp m⟩
      refine ⟨_, rfl, z, rfl, fun S H2 hS0 s2 hS2 => ?_⟩
      exact ⟨_, rfl, S, rfl, hS2, fun H3 bt3 => ⟨true, rfl, iteF ⟨_, _, rfl, bt3 _ _ (s2 _ _ h1) (ne_of_none h1 hS0)⟩⟩⟩
    · rintro st H0 ⟨u1, u2, rfl, -⟩
      exact k H0
end
end G58.V

set_option Elab.async false
set_option linter.all false
set_option maxRecDepth 100000
set_option maxHeartbeats 8000000
/-! What the top has written. -/
namespace G58.V
open PySem PySem.Spec PyProof.Rows L2 LamX RZ
theorem exm_sub {K : PySem.W.Frag} {E S : Addr} {b : Bool} (h1 : PySem.W.subIn K (.ref S) (.type "BaseException") = some true) (h2 : PySem.W.isClsIn K S = true) (h3 : PySem.W.typeIn K (.ref S) = some (.type "type")) (h4 : PySem.W.subIn K (.ref E) (.ref S) = some b) :
    PySem.W.exmOne K (.ref E) (.ref S) = some b := by
  have q2 : ((PySem.W.clsIn K S).isSome && PySem.W.typeIn K (.ref S) == some (.type "type")) = true := by
    have z : (PySem.W.clsIn K S).isSome = true := h2
    rw [z, h3]
    rfl
  have q1 : (PySem.W.subIn K (.ref S) (.type "BaseException") == some true) = true := by
    rw [h1]
    rfl
  show (if (PySem.W.subIn K (.ref S) (.type "BaseException") == some true) = true then (if ((PySem.W.clsIn K S).isSome && PySem.W.typeIn K (.ref S) == some (.type "type")) = true then PySem.W.subIn K (.ref E) (.ref S) else none) else none) = some b
  rw [if_pos q1, if_pos q2]
  exact h4
theorem walk_GE {l : PySem.W.OpenLaw} {n k : Nat} {q : Program} {loose : List Str} {XP : (Str → Option Value) → Heap → Prop} {YP : World → Heap → Prop} {d : DefRec} {x : Str}
    (hn : l.most = some n) (hn2 : n ≤ sizeLine) (hdf : d.params.defaults = []) (hr : Room k callerA)
    (F : ∀ (w : World) (mg : Str → Option Value) (fa : Addr) (h : Heap), YP w h → h.Ns mainGlobals mg → mg d.name = some (.ref fa) → ∃ K : PySem.W.Frag, K.In h ∧ LawG l w K k n x mg fa) :
    PySem.W.WalkO q loose XP YP l.row.toRowW d [] (fun f vs => PySem.call f vs) :=
  Att.attach_callB hn hdf fun w s₀ s₁ mg mb fa o pm cd doc a vs ns G Y _ _ _ hmg hobj hints hlen _ hg => by
    obtain ⟨K, KX, fd, sp, hb, hsp, hF⟩ := F w mg fa _ Y G.T.g hmg
    exact law_callG KX G.T.g G.T.b G.T.builtins G.T.nolimit hg hobj hints (Nat.le_trans hlen hn2) hr hF hb fun H hS => hsp H a ns hlen hS
theorem all_mk {l : PySem.W.OpenLaw} {w : World} {K : PySem.W.Frag} {h : Heap} {mg : Str → Option Value} {fa : Addr} (X : K.In h) (G : h.Ns mainGlobals mg) (hfa : mg "law" = some (.ref fa))
    {cNoValue cLarge cBadText cWide cData cUid cReal cDate cScanner cNestError cUnfit : Addr}
    {f_viV : Addr}
    {f_viL : Addr}
    {f_viB : Addr}
    {f_vIsi : Addr}
    {f_vIsb : Addr}
    {f_vArb : Addr}
    {f_vArp : Addr}
    {f_vRef : Addr}
    {f_viW : Addr}
    {f_vCnW : Addr}
    {f_vFaW : Addr}
    {f_viD : Addr}
    {f_vCnD : Addr}
    {f_vFaD : Addr}
    {f_viU : Addr}
    {f_vCnU : Addr}
    {f_vFaU : Addr}
    {f_viR : Addr}
    {f_vCnR : Addr}
    {f_vFaR : Addr}
    {f_viT : Addr}
    {f_vCnT : Addr}
    {f_vFaT : Addr}
    {f_vIss : Addr}
    {f_vIsl : Addr}
    {f_vWp : Addr}
    {f_vIns : Addr}
    {f_vDep : Addr}
    {f_vPrt : Addr}
    {f_vChk : Addr}
    {f_vSin : Addr}
    {f_vSgn : Addr}
    {f_vIsa : Addr}
    {f_vRfu : Addr}
    {f_vExp : Addr}
    {f_vFns : Addr}
    {f_vFig : Addr}
    {f_vSit : Addr}
    {f_vHxn : Addr}
    {f_vOcr : Addr}
    {f_vUnh : Addr}
    {f_vRlh : Addr}
    {f_vLtd : Addr}
    {f_vStg : Addr}
    {f_vMng : Addr}
    {f_vGon : Addr}
    {f_vLsh : Addr}
    {f_vAdm : Addr}
    {f_vDch : Addr}
    {f_vVlu : Addr}
    {f_vRdv : Addr}
    {f_vSrc : Addr}
    {f_vDrw : Addr}
    {f_vPik : Addr}
    {f_vByt : Addr}
    {f_vItg : Addr}
    {f_vStr : Addr}
    {f_vWid : Addr}
    {f_vLea : Addr}
    {f_vHex : Addr}
    {f_vQuo : Addr}
    {f_vWri : Addr}
    {f_vUnf : Addr}
    {f_vTre : Addr}
    {f_vTxx : Addr}
    {f_vDue : Addr}
    {f_vSai : Addr}
    {f_vNrt : Addr}
    {f_vRgt : Addr}
    {f_Law : Addr}
    (z_len : PySem.W.nsIn K mainGlobals "len" = some none)
    (z_isinstance : PySem.W.nsIn K mainGlobals "isinstance" = some none)
    (z_str : PySem.W.nsIn K mainGlobals "str" = some none)
    (z_int : PySem.W.nsIn K mainGlobals "int" = some none)
    (z_bool : PySem.W.nsIn K mainGlobals "bool" = some none)
    (z_abs : PySem.W.nsIn K mainGlobals "abs" = some none)
    (z_range : PySem.W.nsIn K mainGlobals "range" = some none)
    (z_list : PySem.W.nsIn K mainGlobals "list" = some none)
    (z_tuple : PySem.W.nsIn K mainGlobals "tuple" = some none)
    (z_dict : PySem.W.nsIn K mainGlobals "dict" = some none)
    (z_all : PySem.W.nsIn K mainGlobals "all" = some none)
    (z_enumerate : PySem.W.nsIn K mainGlobals "enumerate" = some none)
    (z_sorted : PySem.W.nsIn K mainGlobals "sorted" = some none)
    (z_ord : PySem.W.nsIn K mainGlobals "ord" = some none)
    (z_max : PySem.W.nsIn K mainGlobals "max" = some none)
    (z_min : PySem.W.nsIn K mainGlobals "min" = some none)
    (z_sum : PySem.W.nsIn K mainGlobals "sum" = some none)
    (z_repr : PySem.W.nsIn K mainGlobals "repr" = some none)
    (z_zip : PySem.W.nsIn K mainGlobals "zip" = some none)
    (q_LEAST_INTEGER : ∃ t, PySem.W.nsIn K mainGlobals "LEAST_INTEGER" = some (some (.int (-9223372036854775808) t)))
    (q_GREATEST : ∃ t, PySem.W.nsIn K mainGlobals "GREATEST" = some (some (.int 18446744073709551615 t)))
    (q_MOST_DEPTH : ∃ t, PySem.W.nsIn K mainGlobals "MOST_DEPTH" = some (some (.int 100 t)))
    (q_MOST_PARTS : ∃ t, PySem.W.nsIn K mainGlobals "MOST_PARTS" = some (some (.int 20000 t)))
    (q_MOST_FIGURES : ∃ t, PySem.W.nsIn K mainGlobals "MOST_FIGURES" = some (some (.int 20 t)))
    (q_FIGURES : ∃ t, PySem.W.nsIn K mainGlobals "FIGURES" = some (some (.str "0123456789" t)))
    (q_HEX : ∃ t, PySem.W.nsIn K mainGlobals "HEX" = some (some (.str "0123456789abcdef" t)))
    (aC_NoValue : PySem.W.nsIn K mainGlobals "NoValue" = some (some (.ref cNoValue)))
    (aC_Large : PySem.W.nsIn K mainGlobals "Large" = some (some (.ref cLarge)))
    (aC_BadText : PySem.W.nsIn K mainGlobals "BadText" = some (some (.ref cBadText)))
    (aC_Wide : PySem.W.nsIn K mainGlobals "Wide" = some (some (.ref cWide)))
    (aC_Data : PySem.W.nsIn K mainGlobals "Data" = some (some (.ref cData)))
    (aC_Uid : PySem.W.nsIn K mainGlobals "Uid" = some (some (.ref cUid)))
    (aC_Real : PySem.W.nsIn K mainGlobals "Real" = some (some (.ref cReal)))
    (aC_Date : PySem.W.nsIn K mainGlobals "Date" = some (some (.ref cDate)))
    (aC_Scanner : PySem.W.nsIn K mainGlobals "Scanner" = some (some (.ref cScanner)))
    (aC_NestError : PySem.W.nsIn K mainGlobals "NestError" = some (some (.ref cNestError)))
    (aC_Unfit : PySem.W.nsIn K mainGlobals "Unfit" = some (some (.ref cUnfit)))
    (x_NoValue : OexC K cNoValue)
    (f_NoValue : XfC K cNoValue)
    (no_NoValue_path : PySem.W.findIn K (.ref cNoValue) "path" = some none)
    (x_Large : OexC K cLarge)
    (f_Large : XfC K cLarge)
    (no_Large_what : PySem.W.findIn K (.ref cLarge) "what" = some none)
    (x_BadText : OexC K cBadText)
    (f_BadText : XfC K cBadText)
    (no_BadText_place : PySem.W.findIn K (.ref cBadText) "place" = some none)
    (mk_cWide : PySem.W.makesIn K cWide = true)
    (kC_cWide : PySem.W.keepIn K (.ref cWide) = true)
    (pg_cWide : PySem.W.plainGet K cWide Str.empty = true)
    (hd_cWide : PySem.W.hasDictIn K cWide = true)
    (po_cWide : PySem.W.plainOver K cWide = true)
    (sa_cWide : PySem.W.findIn K (.ref cWide) "__setattr__" = some (some (.builtin "object.__setattr__")))
    (n_cWide_units : PySem.W.findIn K (.ref cWide) "units" = some none)
    (mk_cData : PySem.W.makesIn K cData = true)
    (kC_cData : PySem.W.keepIn K (.ref cData) = true)
    (pg_cData : PySem.W.plainGet K cData Str.empty = true)
    (hd_cData : PySem.W.hasDictIn K cData = true)
    (po_cData : PySem.W.plainOver K cData = true)
    (sa_cData : PySem.W.findIn K (.ref cData) "__setattr__" = some (some (.builtin "object.__setattr__")))
    (n_cData_octets : PySem.W.findIn K (.ref cData) "octets" = some none)
    (mk_cUid : PySem.W.makesIn K cUid = true)
    (kC_cUid : PySem.W.keepIn K (.ref cUid) = true)
    (pg_cUid : PySem.W.plainGet K cUid Str.empty = true)
    (hd_cUid : PySem.W.hasDictIn K cUid = true)
    (po_cUid : PySem.W.plainOver K cUid = true)
    (sa_cUid : PySem.W.findIn K (.ref cUid) "__setattr__" = some (some (.builtin "object.__setattr__")))
    (n_cUid_number : PySem.W.findIn K (.ref cUid) "number" = some none)
    (mk_cReal : PySem.W.makesIn K cReal = true)
    (kC_cReal : PySem.W.keepIn K (.ref cReal) = true)
    (pg_cReal : PySem.W.plainGet K cReal Str.empty = true)
    (hd_cReal : PySem.W.hasDictIn K cReal = true)
    (po_cReal : PySem.W.plainOver K cReal = true)
    (sa_cReal : PySem.W.findIn K (.ref cReal) "__setattr__" = some (some (.builtin "object.__setattr__")))
    (n_cReal_octets : PySem.W.findIn K (.ref cReal) "octets" = some none)
    (mk_cDate : PySem.W.makesIn K cDate = true)
    (kC_cDate : PySem.W.keepIn K (.ref cDate) = true)
    (pg_cDate : PySem.W.plainGet K cDate Str.empty = true)
    (hd_cDate : PySem.W.hasDictIn K cDate = true)
    (po_cDate : PySem.W.plainOver K cDate = true)
    (sa_cDate : PySem.W.findIn K (.ref cDate) "__setattr__" = some (some (.builtin "object.__setattr__")))
    (n_cDate_octets : PySem.W.findIn K (.ref cDate) "octets" = some none)
    (mk_cScanner : PySem.W.makesIn K cScanner = true)
    (kC_cScanner : PySem.W.keepIn K (.ref cScanner) = true)
    (pg_cScanner : PySem.W.plainGet K cScanner Str.empty = true)
    (hd_cScanner : PySem.W.hasDictIn K cScanner = true)
    (po_cScanner : PySem.W.plainOver K cScanner = true)
    (sa_cScanner : PySem.W.findIn K (.ref cScanner) "__setattr__" = some (some (.builtin "object.__setattr__")))
    (n_cScanner_text : PySem.W.findIn K (.ref cScanner) "text" = some none)
    (n_cScanner_place : PySem.W.findIn K (.ref cScanner) "place" = some none)
    (a_viV : PySem.W.findIn K (.ref cNoValue) "__init__" = some (some (.ref f_viV)))
    (t_viV : PySem.W.typeIn K (.ref f_viV) = some (.type "function"))
    (E_viV : ∃ fd, Fun K "__init__" "NoValue.__init__" G58.V.siV f_viV fd)
    (a_viL : PySem.W.findIn K (.ref cLarge) "__init__" = some (some (.ref f_viL)))
    (t_viL : PySem.W.typeIn K (.ref f_viL) = some (.type "function"))
    (E_viL : ∃ fd, Fun K "__init__" "Large.__init__" G58.V.siL f_viL fd)
    (a_viB : PySem.W.findIn K (.ref cBadText) "__init__" = some (some (.ref f_viB)))
    (t_viB : PySem.W.typeIn K (.ref f_viB) = some (.type "function"))
    (E_viB : ∃ fd, Fun K "__init__" "BadText.__init__" G58.V.siB f_viB fd)
    (a_vIsi : PySem.W.nsIn K mainGlobals "is_integer" = some (some (.ref f_vIsi)))
    (E_vIsi : ∃ fd, Fun K "is_integer" "is_integer" G58.V.sIsi f_vIsi fd)
    (a_vIsb : PySem.W.nsIn K mainGlobals "is_between" = some (some (.ref f_vIsb)))
    (E_vIsb : ∃ fd, Fun K "is_between" "is_between" G58.V.sIsb f_vIsb fd)
    (a_vArb : PySem.W.nsIn K mainGlobals "are_between" = some (some (.ref f_vArb)))
    (E_vArb : ∃ fd, Fun K "are_between" "are_between" G58.V.sArb f_vArb fd)
    (a_vArp : PySem.W.nsIn K mainGlobals "are_plain" = some (some (.ref f_vArp)))
    (E_vArp : ∃ fd, Fun K "are_plain" "are_plain" G58.V.sArp f_vArp fd)
    (a_vRef : PySem.W.nsIn K mainGlobals "refuse" = some (some (.ref f_vRef)))
    (E_vRef : ∃ fd, Fun K "refuse" "refuse" G58.V.sRef f_vRef fd)
    (a_viW : PySem.W.findIn K (.ref cWide) "__init__" = some (some (.ref f_viW)))
    (i_viW : PySem.W.isFn K (.ref f_viW) = true)
    (E_viW : ∃ fd, Fun K "__init__" "Wide.__init__" G58.V.siW f_viW fd)
    (a_vCnW : PySem.W.findIn K (.ref cWide) "class_name" = some (some (.ref f_vCnW)))
    (i_vCnW : PySem.W.isFn K (.ref f_vCnW) = true)
    (E_vCnW : ∃ fd, Fun K "class_name" "Wide.class_name" G58.V.sCnW f_vCnW fd)
    (a_vFaW : PySem.W.findIn K (.ref cWide) "facts" = some (some (.ref f_vFaW)))
    (i_vFaW : PySem.W.isFn K (.ref f_vFaW) = true)
    (E_vFaW : ∃ fd, Fun K "facts" "Wide.facts" G58.V.sFaW f_vFaW fd)
    (a_viD : PySem.W.findIn K (.ref cData) "__init__" = some (some (.ref f_viD)))
    (i_viD : PySem.W.isFn K (.ref f_viD) = true)
    (E_viD : ∃ fd, Fun K "__init__" "Data.__init__" G58.V.siD f_viD fd)
    (a_vCnD : PySem.W.findIn K (.ref cData) "class_name" = some (some (.ref f_vCnD)))
    (i_vCnD : PySem.W.isFn K (.ref f_vCnD) = true)
    (E_vCnD : ∃ fd, Fun K "class_name" "Data.class_name" G58.V.sCnD f_vCnD fd)
    (a_vFaD : PySem.W.findIn K (.ref cData) "facts" = some (some (.ref f_vFaD)))
    (i_vFaD : PySem.W.isFn K (.ref f_vFaD) = true)
    (E_vFaD : ∃ fd, Fun K "facts" "Data.facts" G58.V.sFaD f_vFaD fd)
    (a_viU : PySem.W.findIn K (.ref cUid) "__init__" = some (some (.ref f_viU)))
    (i_viU : PySem.W.isFn K (.ref f_viU) = true)
    (E_viU : ∃ fd, Fun K "__init__" "Uid.__init__" G58.V.siU f_viU fd)
    (a_vCnU : PySem.W.findIn K (.ref cUid) "class_name" = some (some (.ref f_vCnU)))
    (i_vCnU : PySem.W.isFn K (.ref f_vCnU) = true)
    (E_vCnU : ∃ fd, Fun K "class_name" "Uid.class_name" G58.V.sCnU f_vCnU fd)
    (a_vFaU : PySem.W.findIn K (.ref cUid) "facts" = some (some (.ref f_vFaU)))
    (i_vFaU : PySem.W.isFn K (.ref f_vFaU) = true)
    (E_vFaU : ∃ fd, Fun K "facts" "Uid.facts" G58.V.sFaU f_vFaU fd)
    (a_viR : PySem.W.findIn K (.ref cReal) "__init__" = some (some (.ref f_viR)))
    (i_viR : PySem.W.isFn K (.ref f_viR) = true)
    (E_viR : ∃ fd, Fun K "__init__" "Real.__init__" G58.V.siR f_viR fd)
    (a_vCnR : PySem.W.findIn K (.ref cReal) "class_name" = some (some (.ref f_vCnR)))
    (i_vCnR : PySem.W.isFn K (.ref f_vCnR) = true)
    (E_vCnR : ∃ fd, Fun K "class_name" "Real.class_name" G58.V.sCnR f_vCnR fd)
    (a_vFaR : PySem.W.findIn K (.ref cReal) "facts" = some (some (.ref f_vFaR)))
    (i_vFaR : PySem.W.isFn K (.ref f_vFaR) = true)
    (E_vFaR : ∃ fd, Fun K "facts" "Real.facts" G58.V.sFaR f_vFaR fd)
    (a_viT : PySem.W.findIn K (.ref cDate) "__init__" = some (some (.ref f_viT)))
    (i_viT : PySem.W.isFn K (.ref f_viT) = true)
    (E_viT : ∃ fd, Fun K "__init__" "Date.__init__" G58.V.siT f_viT fd)
    (a_vCnT : PySem.W.findIn K (.ref cDate) "class_name" = some (some (.ref f_vCnT)))
    (i_vCnT : PySem.W.isFn K (.ref f_vCnT) = true)
    (E_vCnT : ∃ fd, Fun K "class_name" "Date.class_name" G58.V.sCnT f_vCnT fd)
    (a_vFaT : PySem.W.findIn K (.ref cDate) "facts" = some (some (.ref f_vFaT)))
    (i_vFaT : PySem.W.isFn K (.ref f_vFaT) = true)
    (E_vFaT : ∃ fd, Fun K "facts" "Date.facts" G58.V.sFaT f_vFaT fd)
    (a_vIss : PySem.W.nsIn K mainGlobals "is_string" = some (some (.ref f_vIss)))
    (E_vIss : ∃ fd, Fun K "is_string" "is_string" G58.V.sIss f_vIss fd)
    (a_vIsl : PySem.W.nsIn K mainGlobals "is_leaf" = some (some (.ref f_vIsl)))
    (E_vIsl : ∃ fd, Fun K "is_leaf" "is_leaf" G58.V.sIsl f_vIsl fd)
    (a_vWp : PySem.W.nsIn K mainGlobals "wrong_path" = some (some (.ref f_vWp)))
    (E_vWp : ∃ fd, Fun K "wrong_path" "wrong_path" G58.V.sWp f_vWp fd)
    (a_vIns : PySem.W.nsIn K mainGlobals "inside" = some (some (.ref f_vIns)))
    (E_vIns : ∃ fd, Fun K "inside" "inside" G58.V.sIns f_vIns fd)
    (a_vDep : PySem.W.nsIn K mainGlobals "depth_of" = some (some (.ref f_vDep)))
    (E_vDep : ∃ fd, Fun K "depth_of" "depth_of" G58.V.sDep f_vDep fd)
    (a_vPrt : PySem.W.nsIn K mainGlobals "parts_of" = some (some (.ref f_vPrt)))
    (E_vPrt : ∃ fd, Fun K "parts_of" "parts_of" G58.V.sPrt f_vPrt fd)
    (a_vChk : PySem.W.nsIn K mainGlobals "check" = some (some (.ref f_vChk)))
    (E_vChk : ∃ fd, Fun K "check" "check" G58.V.sChk f_vChk fd)
    (a_vSin : PySem.W.findIn K (.ref cScanner) "__init__" = some (some (.ref f_vSin)))
    (i_vSin : PySem.W.isFn K (.ref f_vSin) = true)
    (E_vSin : ∃ fd, Fun K "__init__" "Scanner.__init__" G58.V.sSin f_vSin fd)
    (a_vSgn : PySem.W.findIn K (.ref cScanner) "sign" = some (some (.ref f_vSgn)))
    (i_vSgn : PySem.W.isFn K (.ref f_vSgn) = true)
    (E_vSgn : ∃ fd, Fun K "sign" "Scanner.sign" G58.V.sSgn f_vSgn fd)
    (a_vIsa : PySem.W.findIn K (.ref cScanner) "is_at" = some (some (.ref f_vIsa)))
    (i_vIsa : PySem.W.isFn K (.ref f_vIsa) = true)
    (E_vIsa : ∃ fd, Fun K "is_at" "Scanner.is_at" G58.V.sIsa f_vIsa fd)
    (a_vRfu : PySem.W.findIn K (.ref cScanner) "refuse" = some (some (.ref f_vRfu)))
    (i_vRfu : PySem.W.isFn K (.ref f_vRfu) = true)
    (E_vRfu : ∃ fd, Fun K "refuse" "Scanner.refuse" G58.V.sRfu f_vRfu fd)
    (a_vExp : PySem.W.findIn K (.ref cScanner) "expect" = some (some (.ref f_vExp)))
    (i_vExp : PySem.W.isFn K (.ref f_vExp) = true)
    (E_vExp : ∃ fd, Fun K "expect" "Scanner.expect" G58.V.sExp f_vExp fd)
    (a_vFns : PySem.W.findIn K (.ref cScanner) "finish" = some (some (.ref f_vFns)))
    (i_vFns : PySem.W.isFn K (.ref f_vFns) = true)
    (E_vFns : ∃ fd, Fun K "finish" "Scanner.finish" G58.V.sFns f_vFns fd)
    (a_vFig : PySem.W.findIn K (.ref cScanner) "figures_here" = some (some (.ref f_vFig)))
    (i_vFig : PySem.W.isFn K (.ref f_vFig) = true)
    (E_vFig : ∃ fd, Fun K "figures_here" "Scanner.figures_here" G58.V.sFig f_vFig fd)
    (a_vSit : PySem.W.findIn K (.ref cScanner) "integer" = some (some (.ref f_vSit)))
    (i_vSit : PySem.W.isFn K (.ref f_vSit) = true)
    (E_vSit : ∃ fd, Fun K "integer" "Scanner.integer" G58.V.sSit f_vSit fd)
    (a_vHxn : PySem.W.findIn K (.ref cScanner) "hex_number" = some (some (.ref f_vHxn)))
    (i_vHxn : PySem.W.isFn K (.ref f_vHxn) = true)
    (E_vHxn : ∃ fd, Fun K "hex_number" "Scanner.hex_number" G58.V.sHxn f_vHxn fd)
    (a_vOcr : PySem.W.findIn K (.ref cScanner) "octet_run" = some (some (.ref f_vOcr)))
    (i_vOcr : PySem.W.isFn K (.ref f_vOcr) = true)
    (E_vOcr : ∃ fd, Fun K "octet_run" "Scanner.octet_run" G58.V.sOcr f_vOcr fd)
    (a_vUnh : PySem.W.findIn K (.ref cScanner) "units_here" = some (some (.ref f_vUnh)))
    (i_vUnh : PySem.W.isFn K (.ref f_vUnh) = true)
    (E_vUnh : ∃ fd, Fun K "units_here" "Scanner.units_here" G58.V.sUnh f_vUnh fd)
    (a_vRlh : PySem.W.findIn K (.ref cScanner) "real_here" = some (some (.ref f_vRlh)))
    (i_vRlh : PySem.W.isFn K (.ref f_vRlh) = true)
    (E_vRlh : ∃ fd, Fun K "real_here" "Scanner.real_here" G58.V.sRlh f_vRlh fd)
    (a_vLtd : PySem.W.findIn K (.ref cScanner) "lettered" = some (some (.ref f_vLtd)))
    (i_vLtd : PySem.W.isFn K (.ref f_vLtd) = true)
    (E_vLtd : ∃ fd, Fun K "lettered" "Scanner.lettered" G58.V.sLtd f_vLtd fd)
    (a_vStg : PySem.W.findIn K (.ref cScanner) "string" = some (some (.ref f_vStg)))
    (i_vStg : PySem.W.isFn K (.ref f_vStg) = true)
    (E_vStg : ∃ fd, Fun K "string" "Scanner.string" G58.V.sStg f_vStg fd)
    (a_vMng : PySem.W.findIn K (.ref cScanner) "meaning" = some (some (.ref f_vMng)))
    (i_vMng : PySem.W.isFn K (.ref f_vMng) = true)
    (E_vMng : ∃ fd, Fun K "meaning" "Scanner.meaning" G58.V.sMng f_vMng fd)
    (a_vGon : PySem.W.findIn K (.ref cScanner) "goes_on" = some (some (.ref f_vGon)))
    (i_vGon : PySem.W.isFn K (.ref f_vGon) = true)
    (E_vGon : ∃ fd, Fun K "goes_on" "Scanner.goes_on" G58.V.sGon f_vGon fd)
    (a_vLsh : PySem.W.findIn K (.ref cScanner) "list_here" = some (some (.ref f_vLsh)))
    (i_vLsh : PySem.W.isFn K (.ref f_vLsh) = true)
    (E_vLsh : ∃ fd, Fun K "list_here" "Scanner.list_here" G58.V.sLsh f_vLsh fd)
    (a_vAdm : PySem.W.findIn K (.ref cScanner) "add_member" = some (some (.ref f_vAdm)))
    (i_vAdm : PySem.W.isFn K (.ref f_vAdm) = true)
    (E_vAdm : ∃ fd, Fun K "add_member" "Scanner.add_member" G58.V.sAdm f_vAdm fd)
    (a_vDch : PySem.W.findIn K (.ref cScanner) "dictionary_here" = some (some (.ref f_vDch)))
    (i_vDch : PySem.W.isFn K (.ref f_vDch) = true)
    (E_vDch : ∃ fd, Fun K "dictionary_here" "Scanner.dictionary_here" G58.V.sDch f_vDch fd)
    (a_vVlu : PySem.W.findIn K (.ref cScanner) "value" = some (some (.ref f_vVlu)))
    (i_vVlu : PySem.W.isFn K (.ref f_vVlu) = true)
    (E_vVlu : ∃ fd, Fun K "value" "Scanner.value" G58.V.sVlu f_vVlu fd)
    (a_vRdv : PySem.W.nsIn K mainGlobals "read_value" = some (some (.ref f_vRdv)))
    (E_vRdv : ∃ fd, Fun K "read_value" "read_value" G58.V.sRdv f_vRdv fd)
    (a_vSrc : PySem.W.nsIn K mainGlobals "_law_source" = some (some (.ref f_vSrc)))
    (E_vSrc : ∃ fd, Fun K "_law_source" "_law_source" G58.V.sSrc f_vSrc fd)
    (a_vDrw : PySem.W.nsIn K mainGlobals "_law_draw" = some (some (.ref f_vDrw)))
    (E_vDrw : ∃ fd, Fun K "_law_draw" "_law_draw" G58.V.sDrw f_vDrw fd)
    (a_vPik : PySem.W.nsIn K mainGlobals "_law_pick" = some (some (.ref f_vPik)))
    (E_vPik : ∃ fd, Fun K "_law_pick" "_law_pick" G58.V.sPik f_vPik fd)
    (a_vByt : PySem.W.nsIn K mainGlobals "_law_bytes" = some (some (.ref f_vByt)))
    (E_vByt : ∃ fd, Fun K "_law_bytes" "_law_bytes" G58.V.sByt f_vByt fd)
    (a_vItg : PySem.W.nsIn K mainGlobals "_law_integer" = some (some (.ref f_vItg)))
    (E_vItg : ∃ fd, Fun K "_law_integer" "_law_integer" G58.V.sItg f_vItg fd)
    (a_vStr : PySem.W.nsIn K mainGlobals "_law_string" = some (some (.ref f_vStr)))
    (E_vStr : ∃ fd, Fun K "_law_string" "_law_string" G58.V.sStr f_vStr fd)
    (a_vWid : PySem.W.nsIn K mainGlobals "_law_wide" = some (some (.ref f_vWid)))
    (E_vWid : ∃ fd, Fun K "_law_wide" "_law_wide" G58.V.sWid f_vWid fd)
    (a_vLea : PySem.W.nsIn K mainGlobals "_law_leaf" = some (some (.ref f_vLea)))
    (E_vLea : ∃ fd, Fun K "_law_leaf" "_law_leaf" G58.V.sLea f_vLea fd)
    (a_vHex : PySem.W.nsIn K mainGlobals "_law_hex" = some (some (.ref f_vHex)))
    (E_vHex : ∃ fd, Fun K "_law_hex" "_law_hex" G58.V.sHex f_vHex fd)
    (a_vQuo : PySem.W.nsIn K mainGlobals "_law_quoted" = some (some (.ref f_vQuo)))
    (E_vQuo : ∃ fd, Fun K "_law_quoted" "_law_quoted" G58.V.sQuo f_vQuo fd)
    (a_vWri : PySem.W.nsIn K mainGlobals "_law_written" = some (some (.ref f_vWri)))
    (E_vWri : ∃ fd, Fun K "_law_written" "_law_written" G58.V.sWri f_vWri fd)
    (a_vUnf : PySem.W.nsIn K mainGlobals "_law_unfit" = some (some (.ref f_vUnf)))
    (E_vUnf : ∃ fd, Fun K "_law_unfit" "_law_unfit" G58.V.sUnf f_vUnf fd)
    (a_vTre : PySem.W.nsIn K mainGlobals "_law_tree" = some (some (.ref f_vTre)))
    (E_vTre : ∃ fd, Fun K "_law_tree" "_law_tree" G58.V.sTre f_vTre fd)
    (a_vTxx : PySem.W.nsIn K mainGlobals "_law_text" = some (some (.ref f_vTxx)))
    (E_vTxx : ∃ fd, Fun K "_law_text" "_law_text" G58.V.sTxx f_vTxx fd)
    (a_vDue : PySem.W.nsIn K mainGlobals "_law_due" = some (some (.ref f_vDue)))
    (E_vDue : ∃ fd, Fun K "_law_due" "_law_due" G58.V.sDue f_vDue fd)
    (a_vSai : PySem.W.nsIn K mainGlobals "_law_said" = some (some (.ref f_vSai)))
    (E_vSai : ∃ fd, Fun K "_law_said" "_law_said" G58.V.sSai f_vSai fd)
    (a_vNrt : PySem.W.nsIn K mainGlobals "_law_numbers_right" = some (some (.ref f_vNrt)))
    (E_vNrt : ∃ fd, Fun K "_law_numbers_right" "_law_numbers_right" G58.V.sNrt f_vNrt fd)
    (a_vRgt : PySem.W.nsIn K mainGlobals "_law_right" = some (some (.ref f_vRgt)))
    (E_vRgt : ∃ fd, Fun K "_law_right" "_law_right" G58.V.sRgt f_vRgt fd)
    (a_Law : PySem.W.nsIn K mainGlobals "law" = some (some (.ref f_Law)))
    (E_Law : ∃ fd, Fun K "law" "law" G58.sLaw f_Law fd)
    (e_hn : PySem.W.specialIn K (.builtin "object.__class__") "__get__" = some (some (.builtin "getset_descriptor.__get__")))
    (e_htk : PySem.W.takesIn K (.builtin "object.__class__") = some true)
    (e_al_NoneType : PySem.W.kitAny K (.type "NoneType") [.type "bool", .ref cWide, .ref cData, .ref cUid, .ref cReal, .ref cDate] = some false)
    (e_ld_NoneType : PySem.W.kitAny K (.type "NoneType") [.type "list", .type "dict"] = some false)
    (e_kw_NoneType : PySem.W.kitOne K (.type "NoneType") (.ref cWide) = some false)
    (e_al_bool : PySem.W.kitAny K (.type "bool") [.type "bool", .ref cWide, .ref cData, .ref cUid, .ref cReal, .ref cDate] = some true)
    (e_ld_bool : PySem.W.kitAny K (.type "bool") [.type "list", .type "dict"] = some false)
    (e_al_int : PySem.W.kitAny K (.type "int") [.type "bool", .ref cWide, .ref cData, .ref cUid, .ref cReal, .ref cDate] = some false)
    (e_ld_int : PySem.W.kitAny K (.type "int") [.type "list", .type "dict"] = some false)
    (e_kw_int : PySem.W.kitOne K (.type "int") (.ref cWide) = some false)
    (e_al_str : PySem.W.kitAny K (.type "str") [.type "bool", .ref cWide, .ref cData, .ref cUid, .ref cReal, .ref cDate] = some false)
    (e_ld_str : PySem.W.kitAny K (.type "str") [.type "list", .type "dict"] = some false)
    (e_kw_str : PySem.W.kitOne K (.type "str") (.ref cWide) = some false)
    (e_al_tuple : PySem.W.kitAny K (.type "tuple") [.type "bool", .ref cWide, .ref cData, .ref cUid, .ref cReal, .ref cDate] = some false)
    (e_ld_tuple : PySem.W.kitAny K (.type "tuple") [.type "list", .type "dict"] = some false)
    (e_al_dict : PySem.W.kitAny K (.type "dict") [.type "bool", .ref cWide, .ref cData, .ref cUid, .ref cReal, .ref cDate] = some false)
    (e_ld_dict : PySem.W.kitAny K (.type "dict") [.type "list", .type "dict"] = some true)
    (e_al_list : PySem.W.kitAny K (.type "list") [.type "bool", .ref cWide, .ref cData, .ref cUid, .ref cReal, .ref cDate] = some false)
    (e_ld_list : PySem.W.kitAny K (.type "list") [.type "list", .type "dict"] = some true)
    (e_haWide : PySem.W.findIn K (.ref cWide) "__class__" = some (some (.builtin "object.__class__")))
    (e_hmWide : PySem.W.mroIn K cWide (.type "object") = some true)
    (e_alWide : PySem.W.kitAny K (.ref cWide) [.type "bool", .ref cWide, .ref cData, .ref cUid, .ref cReal, .ref cDate] = some true)
    (e_ldWide : PySem.W.kitAny K (.ref cWide) [.type "list", .type "dict"] = some false)
    (e_kwWide : PySem.W.kitOne K (.ref cWide) (.ref cWide) = some true)
    (e_koWide_list : PySem.W.kitOne K (.ref cWide) (.type "list") = some false)
    (e_koWide_dict : PySem.W.kitOne K (.ref cWide) (.type "dict") = some false)
    (e_koWide_bool : PySem.W.kitOne K (.ref cWide) (.type "bool") = some false)
    (e_koWide_int : PySem.W.kitOne K (.ref cWide) (.type "int") = some false)
    (e_koWide_str : PySem.W.kitOne K (.ref cWide) (.type "str") = some false)
    (e_haData : PySem.W.findIn K (.ref cData) "__class__" = some (some (.builtin "object.__class__")))
    (e_hmData : PySem.W.mroIn K cData (.type "object") = some true)
    (e_alData : PySem.W.kitAny K (.ref cData) [.type "bool", .ref cWide, .ref cData, .ref cUid, .ref cReal, .ref cDate] = some true)
    (e_ldData : PySem.W.kitAny K (.ref cData) [.type "list", .type "dict"] = some false)
    (e_kwData : PySem.W.kitOne K (.ref cData) (.ref cWide) = some false)
    (e_koData_list : PySem.W.kitOne K (.ref cData) (.type "list") = some false)
    (e_koData_dict : PySem.W.kitOne K (.ref cData) (.type "dict") = some false)
    (e_koData_bool : PySem.W.kitOne K (.ref cData) (.type "bool") = some false)
    (e_koData_int : PySem.W.kitOne K (.ref cData) (.type "int") = some false)
    (e_koData_str : PySem.W.kitOne K (.ref cData) (.type "str") = some false)
    (e_haUid : PySem.W.findIn K (.ref cUid) "__class__" = some (some (.builtin "object.__class__")))
    (e_hmUid : PySem.W.mroIn K cUid (.type "object") = some true)
    (e_alUid : PySem.W.kitAny K (.ref cUid) [.type "bool", .ref cWide, .ref cData, .ref cUid, .ref cReal, .ref cDate] = some true)
    (e_ldUid : PySem.W.kitAny K (.ref cUid) [.type "list", .type "dict"] = some false)
    (e_kwUid : PySem.W.kitOne K (.ref cUid) (.ref cWide) = some false)
    (e_koUid_list : PySem.W.kitOne K (.ref cUid) (.type "list") = some false)
    (e_koUid_dict : PySem.W.kitOne K (.ref cUid) (.type "dict") = some false)
    (e_koUid_bool : PySem.W.kitOne K (.ref cUid) (.type "bool") = some false)
    (e_koUid_int : PySem.W.kitOne K (.ref cUid) (.type "int") = some false)
    (e_koUid_str : PySem.W.kitOne K (.ref cUid) (.type "str") = some false)
    (e_haReal : PySem.W.findIn K (.ref cReal) "__class__" = some (some (.builtin "object.__class__")))
    (e_hmReal : PySem.W.mroIn K cReal (.type "object") = some true)
    (e_alReal : PySem.W.kitAny K (.ref cReal) [.type "bool", .ref cWide, .ref cData, .ref cUid, .ref cReal, .ref cDate] = some true)
    (e_ldReal : PySem.W.kitAny K (.ref cReal) [.type "list", .type "dict"] = some false)
    (e_kwReal : PySem.W.kitOne K (.ref cReal) (.ref cWide) = some false)
    (e_koReal_list : PySem.W.kitOne K (.ref cReal) (.type "list") = some false)
    (e_koReal_dict : PySem.W.kitOne K (.ref cReal) (.type "dict") = some false)
    (e_koReal_bool : PySem.W.kitOne K (.ref cReal) (.type "bool") = some false)
    (e_koReal_int : PySem.W.kitOne K (.ref cReal) (.type "int") = some false)
    (e_koReal_str : PySem.W.kitOne K (.ref cReal) (.type "str") = some false)
    (e_haDate : PySem.W.findIn K (.ref cDate) "__class__" = some (some (.builtin "object.__class__")))
    (e_hmDate : PySem.W.mroIn K cDate (.type "object") = some true)
    (e_alDate : PySem.W.kitAny K (.ref cDate) [.type "bool", .ref cWide, .ref cData, .ref cUid, .ref cReal, .ref cDate] = some true)
    (e_ldDate : PySem.W.kitAny K (.ref cDate) [.type "list", .type "dict"] = some false)
    (e_kwDate : PySem.W.kitOne K (.ref cDate) (.ref cWide) = some false)
    (e_koDate_list : PySem.W.kitOne K (.ref cDate) (.type "list") = some false)
    (e_koDate_dict : PySem.W.kitOne K (.ref cDate) (.type "dict") = some false)
    (e_koDate_bool : PySem.W.kitOne K (.ref cDate) (.type "bool") = some false)
    (e_koDate_int : PySem.W.kitOne K (.ref cDate) (.type "int") = some false)
    (e_koDate_str : PySem.W.kitOne K (.ref cDate) (.type "str") = some false)
    (e_emNoValue_NoValue : PySem.W.exmOne K (.ref cNoValue) (.ref cNoValue) = some true)
    (e_emLarge_NoValue : PySem.W.exmOne K (.ref cLarge) (.ref cNoValue) = some false)
    (e_emLarge_Large : PySem.W.exmOne K (.ref cLarge) (.ref cLarge) = some true)
    (e_mkUnfit : PySem.W.makesIn K cUnfit = true)
    (e_inUnfit : PySem.W.findIn K (.ref cUnfit) "__init__" = some (some (.builtin "object.__init__")))
    (e_kpUnfit : PySem.W.keepIn K (.ref cUnfit) = true)
    (e_pgUnfit : PySem.W.plainGet K cUnfit Str.empty = true)
    (e_hdUnfit : PySem.W.hasDictIn K cUnfit = true)
    (e_poUnfit : PySem.W.plainOver K cUnfit = true)
    (e_saUnfit : PySem.W.findIn K (.ref cUnfit) "__setattr__" = some (some (.builtin "object.__setattr__")))
    (e_haUnfit : PySem.W.findIn K (.ref cUnfit) "__class__" = some (some (.builtin "object.__class__")))
    (e_hmUnfit : PySem.W.mroIn K cUnfit (.type "object") = some true)
    (e_alUnfit : PySem.W.kitAny K (.ref cUnfit) [.type "bool", .ref cWide, .ref cData, .ref cUid, .ref cReal, .ref cDate] = some false)
    (e_koUnfit_list : PySem.W.kitOne K (.ref cUnfit) (.type "list") = some false)
    (e_koUnfit_dict : PySem.W.kitOne K (.ref cUnfit) (.type "dict") = some false)
    (e_koUnfit_bool : PySem.W.kitOne K (.ref cUnfit) (.type "bool") = some false)
    (e_koUnfit_int : PySem.W.kitOne K (.ref cUnfit) (.type "int") = some false)
    (e_koUnfit_str : PySem.W.kitOne K (.ref cUnfit) (.type "str") = some false)
    (e_kw_list : PySem.W.kitOne K (.type "list") (.ref cWide) = some false)
    (e_ku_list : PySem.W.kitOne K (.type "list") (.ref cUid) = some false)
    (e_kw_dict : PySem.W.kitOne K (.type "dict") (.ref cWide) = some false)
    (e_ku_dict : PySem.W.kitOne K (.type "dict") (.ref cUid) = some false)
    (e_kuWide : PySem.W.kitOne K (.ref cWide) (.ref cUid) = some false)
    (e_kdWide : PySem.W.kitOne K (.ref cWide) (.ref cData) = some false)
    (e_krWide : PySem.W.kitOne K (.ref cWide) (.ref cReal) = some false)
    (e_kuData : PySem.W.kitOne K (.ref cData) (.ref cUid) = some false)
    (e_kdData : PySem.W.kitOne K (.ref cData) (.ref cData) = some true)
    (e_krData : PySem.W.kitOne K (.ref cData) (.ref cReal) = some false)
    (e_kuUid : PySem.W.kitOne K (.ref cUid) (.ref cUid) = some true)
    (e_kdUid : PySem.W.kitOne K (.ref cUid) (.ref cData) = some false)
    (e_krUid : PySem.W.kitOne K (.ref cUid) (.ref cReal) = some false)
    (e_kuReal : PySem.W.kitOne K (.ref cReal) (.ref cUid) = some false)
    (e_kdReal : PySem.W.kitOne K (.ref cReal) (.ref cData) = some false)
    (e_krReal : PySem.W.kitOne K (.ref cReal) (.ref cReal) = some true)
    (e_kuDate : PySem.W.kitOne K (.ref cDate) (.ref cUid) = some false)
    (e_kdDate : PySem.W.kitOne K (.ref cDate) (.ref cData) = some false)
    (e_krDate : PySem.W.kitOne K (.ref cDate) (.ref cReal) = some false)
    (e_koWide_tuple : PySem.W.kitOne K (.ref cWide) (.type "tuple") = some false)
    (e_koData_tuple : PySem.W.kitOne K (.ref cData) (.type "tuple") = some false)
    (e_koUid_tuple : PySem.W.kitOne K (.ref cUid) (.type "tuple") = some false)
    (e_koReal_tuple : PySem.W.kitOne K (.ref cReal) (.type "tuple") = some false)
    (e_koDate_tuple : PySem.W.kitOne K (.ref cDate) (.type "tuple") = some false) :
    LawG l w K 25 63 "_law_script" mg fa := by
  have e := hfa.symm.trans (PySem.W.mg_of X G a_Law)
  cases e
  obtain ⟨tq_LEAST_INTEGER, q_LEAST_INTEGER⟩ := q_LEAST_INTEGER
  obtain ⟨tq_GREATEST, q_GREATEST⟩ := q_GREATEST
  obtain ⟨tq_MOST_DEPTH, q_MOST_DEPTH⟩ := q_MOST_DEPTH
  obtain ⟨tq_MOST_PARTS, q_MOST_PARTS⟩ := q_MOST_PARTS
  obtain ⟨tq_MOST_FIGURES, q_MOST_FIGURES⟩ := q_MOST_FIGURES
  obtain ⟨tq_FIGURES, q_FIGURES⟩ := q_FIGURES
  obtain ⟨tq_HEX, q_HEX⟩ := q_HEX
  obtain ⟨d_viV, F_viV⟩ := E_viV
  have b_viV := F_viV.binds (ps := ["self", "path"]) fun _ _ _ _ _ _ us hl => match us, hl with | [_, _], _ => rfl
  obtain ⟨d_viL, F_viL⟩ := E_viL
  have b_viL := F_viL.binds (ps := ["self", "what"]) fun _ _ _ _ _ _ us hl => match us, hl with | [_, _], _ => rfl
  obtain ⟨d_viB, F_viB⟩ := E_viB
  have b_viB := F_viB.binds (ps := ["self", "place"]) fun _ _ _ _ _ _ us hl => match us, hl with | [_, _], _ => rfl
  obtain ⟨d_vIsi, F_vIsi⟩ := E_vIsi
  have b_vIsi := F_vIsi.binds (ps := ["thing"]) fun _ _ _ _ _ _ us hl => match us, hl with | [_], _ => rfl
  obtain ⟨d_vIsb, F_vIsb⟩ := E_vIsb
  have b_vIsb := F_vIsb.binds (ps := ["thing", "least", "most"]) fun _ _ _ _ _ _ us hl => match us, hl with | [_, _, _], _ => rfl
  obtain ⟨d_vArb, F_vArb⟩ := E_vArb
  have b_vArb := F_vArb.binds (ps := ["things", "least", "most"]) fun _ _ _ _ _ _ us hl => match us, hl with | [_, _, _], _ => rfl
  obtain ⟨d_vArp, F_vArp⟩ := E_vArp
  have b_vArp := F_vArp.binds (ps := ["units"]) fun _ _ _ _ _ _ us hl => match us, hl with | [_], _ => rfl
  obtain ⟨d_vRef, F_vRef⟩ := E_vRef
  have b_vRef := F_vRef.binds (ps := ["is_good"]) fun _ _ _ _ _ _ us hl => match us, hl with | [_], _ => rfl
  obtain ⟨d_viW, F_viW⟩ := E_viW
  have b_viW := F_viW.binds (ps := ["self", "units"]) fun _ _ _ _ _ _ us hl => match us, hl with | [_, _], _ => rfl
  obtain ⟨d_vCnW, F_vCnW⟩ := E_vCnW
  have b_vCnW := F_vCnW.binds (ps := ["self"]) fun _ _ _ _ _ _ us hl => match us, hl with | [_], _ => rfl
  obtain ⟨d_vFaW, F_vFaW⟩ := E_vFaW
  have b_vFaW := F_vFaW.binds (ps := ["self"]) fun _ _ _ _ _ _ us hl => match us, hl with | [_], _ => rfl
  obtain ⟨d_viD, F_viD⟩ := E_viD
  have b_viD := F_viD.binds (ps := ["self", "octets"]) fun _ _ _ _ _ _ us hl => match us, hl with | [_, _], _ => rfl
  obtain ⟨d_vCnD, F_vCnD⟩ := E_vCnD
  have b_vCnD := F_vCnD.binds (ps := ["self"]) fun _ _ _ _ _ _ us hl => match us, hl with | [_], _ => rfl
  obtain ⟨d_vFaD, F_vFaD⟩ := E_vFaD
  have b_vFaD := F_vFaD.binds (ps := ["self"]) fun _ _ _ _ _ _ us hl => match us, hl with | [_], _ => rfl
  obtain ⟨d_viU, F_viU⟩ := E_viU
  have b_viU := F_viU.binds (ps := ["self", "number"]) fun _ _ _ _ _ _ us hl => match us, hl with | [_, _], _ => rfl
  obtain ⟨d_vCnU, F_vCnU⟩ := E_vCnU
  have b_vCnU := F_vCnU.binds (ps := ["self"]) fun _ _ _ _ _ _ us hl => match us, hl with | [_], _ => rfl
  obtain ⟨d_vFaU, F_vFaU⟩ := E_vFaU
  have b_vFaU := F_vFaU.binds (ps := ["self"]) fun _ _ _ _ _ _ us hl => match us, hl with | [_], _ => rfl
  obtain ⟨d_viR, F_viR⟩ := E_viR
  have b_viR := F_viR.binds (ps := ["self", "octets"]) fun _ _ _ _ _ _ us hl => match us, hl with | [_, _], _ => rfl
  obtain ⟨d_vCnR, F_vCnR⟩ := E_vCnR
  have b_vCnR := F_vCnR.binds (ps := ["self"]) fun _ _ _ _ _ _ us hl => match us, hl with | [_], _ => rfl
  obtain ⟨d_vFaR, F_vFaR⟩ := E_vFaR
  have b_vFaR := F_vFaR.binds (ps := ["self"]) fun _ _ _ _ _ _ us hl => match us, hl with | [_], _ => rfl
  obtain ⟨d_viT, F_viT⟩ := E_viT
  have b_viT := F_viT.binds (ps := ["self", "octets"]) fun _ _ _ _ _ _ us hl => match us, hl with | [_, _], _ => rfl
  obtain ⟨d_vCnT, F_vCnT⟩ := E_vCnT
  have b_vCnT := F_vCnT.binds (ps := ["self"]) fun _ _ _ _ _ _ us hl => match us, hl with | [_], _ => rfl
  obtain ⟨d_vFaT, F_vFaT⟩ := E_vFaT
  have b_vFaT := F_vFaT.binds (ps := ["self"]) fun _ _ _ _ _ _ us hl => match us, hl with | [_], _ => rfl
  obtain ⟨d_vIss, F_vIss⟩ := E_vIss
  have b_vIss := F_vIss.binds (ps := ["thing"]) fun _ _ _ _ _ _ us hl => match us, hl with | [_], _ => rfl
  obtain ⟨d_vIsl, F_vIsl⟩ := E_vIsl
  have b_vIsl := F_vIsl.binds (ps := ["thing"]) fun _ _ _ _ _ _ us hl => match us, hl with | [_], _ => rfl
  obtain ⟨d_vWp, F_vWp⟩ := E_vWp
  have b_vWp := F_vWp.binds (ps := ["thing", "path"]) fun _ _ _ _ _ _ us hl => match us, hl with | [_, _], _ => rfl
  obtain ⟨d_vIns, F_vIns⟩ := E_vIns
  have b_vIns := F_vIns.binds (ps := ["thing"]) fun _ _ _ _ _ _ us hl => match us, hl with | [_], _ => rfl
  obtain ⟨d_vDep, F_vDep⟩ := E_vDep
  have b_vDep := F_vDep.binds (ps := ["thing"]) fun _ _ _ _ _ _ us hl => match us, hl with | [_], _ => rfl
  obtain ⟨d_vPrt, F_vPrt⟩ := E_vPrt
  have b_vPrt := F_vPrt.binds (ps := ["thing"]) fun _ _ _ _ _ _ us hl => match us, hl with | [_], _ => rfl
  obtain ⟨d_vChk, F_vChk⟩ := E_vChk
  have b_vChk := F_vChk.binds (ps := ["value"]) fun _ _ _ _ _ _ us hl => match us, hl with | [_], _ => rfl
  obtain ⟨d_vSin, F_vSin⟩ := E_vSin
  have b_vSin := F_vSin.binds (ps := ["self", "text"]) fun _ _ _ _ _ _ us hl => match us, hl with | [_, _], _ => rfl
  obtain ⟨d_vSgn, F_vSgn⟩ := E_vSgn
  have b_vSgn := F_vSgn.binds (ps := ["self"]) fun _ _ _ _ _ _ us hl => match us, hl with | [_], _ => rfl
  obtain ⟨d_vIsa, F_vIsa⟩ := E_vIsa
  have b_vIsa := F_vIsa.binds (ps := ["self", "signs"]) fun _ _ _ _ _ _ us hl => match us, hl with | [_, _], _ => rfl
  obtain ⟨d_vRfu, F_vRfu⟩ := E_vRfu
  have b_vRfu := F_vRfu.binds (ps := ["self"]) fun _ _ _ _ _ _ us hl => match us, hl with | [_], _ => rfl
  obtain ⟨d_vExp, F_vExp⟩ := E_vExp
  have b_vExp := F_vExp.binds (ps := ["self", "signs"]) fun _ _ _ _ _ _ us hl => match us, hl with | [_, _], _ => rfl
  obtain ⟨d_vFns, F_vFns⟩ := E_vFns
  have b_vFns := F_vFns.binds (ps := ["self"]) fun _ _ _ _ _ _ us hl => match us, hl with | [_], _ => rfl
  obtain ⟨d_vFig, F_vFig⟩ := E_vFig
  have b_vFig := F_vFig.binds (ps := ["self"]) fun _ _ _ _ _ _ us hl => match us, hl with | [_], _ => rfl
  obtain ⟨d_vSit, F_vSit⟩ := E_vSit
  have b_vSit := F_vSit.binds (ps := ["self"]) fun _ _ _ _ _ _ us hl => match us, hl with | [_], _ => rfl
  obtain ⟨d_vHxn, F_vHxn⟩ := E_vHxn
  have b_vHxn := F_vHxn.binds (ps := ["self", "count"]) fun _ _ _ _ _ _ us hl => match us, hl with | [_, _], _ => rfl
  obtain ⟨d_vOcr, F_vOcr⟩ := E_vOcr
  have b_vOcr := F_vOcr.binds (ps := ["self", "least"]) fun _ _ _ _ _ _ us hl => match us, hl with | [_, _], _ => rfl
  obtain ⟨d_vUnh, F_vUnh⟩ := E_vUnh
  have b_vUnh := F_vUnh.binds (ps := ["self"]) fun _ _ _ _ _ _ us hl => match us, hl with | [_], _ => rfl
  obtain ⟨d_vRlh, F_vRlh⟩ := E_vRlh
  have b_vRlh := F_vRlh.binds (ps := ["self"]) fun _ _ _ _ _ _ us hl => match us, hl with | [_], _ => rfl
  obtain ⟨d_vLtd, F_vLtd⟩ := E_vLtd
  have b_vLtd := F_vLtd.binds (ps := ["self"]) fun _ _ _ _ _ _ us hl => match us, hl with | [_], _ => rfl
  obtain ⟨d_vStg, F_vStg⟩ := E_vStg
  have b_vStg := F_vStg.binds (ps := ["self"]) fun _ _ _ _ _ _ us hl => match us, hl with | [_], _ => rfl
  obtain ⟨d_vMng, F_vMng⟩ := E_vMng
  have b_vMng := F_vMng.binds (ps := ["self", "signs", "value"]) fun _ _ _ _ _ _ us hl => match us, hl with | [_, _, _], _ => rfl
  obtain ⟨d_vGon, F_vGon⟩ := E_vGon
  have b_vGon := F_vGon.binds (ps := ["self", "closing"]) fun _ _ _ _ _ _ us hl => match us, hl with | [_, _], _ => rfl
  obtain ⟨d_vLsh, F_vLsh⟩ := E_vLsh
  have b_vLsh := F_vLsh.binds (ps := ["self"]) fun _ _ _ _ _ _ us hl => match us, hl with | [_], _ => rfl
  obtain ⟨d_vAdm, F_vAdm⟩ := E_vAdm
  have b_vAdm := F_vAdm.binds (ps := ["self", "found"]) fun _ _ _ _ _ _ us hl => match us, hl with | [_, _], _ => rfl
  obtain ⟨d_vDch, F_vDch⟩ := E_vDch
  have b_vDch := F_vDch.binds (ps := ["self"]) fun _ _ _ _ _ _ us hl => match us, hl with | [_], _ => rfl
  obtain ⟨d_vVlu, F_vVlu⟩ := E_vVlu
  have b_vVlu := F_vVlu.binds (ps := ["self"]) fun _ _ _ _ _ _ us hl => match us, hl with | [_], _ => rfl
  obtain ⟨d_vRdv, F_vRdv⟩ := E_vRdv
  have b_vRdv := F_vRdv.binds (ps := ["text"]) fun _ _ _ _ _ _ us hl => match us, hl with | [_], _ => rfl
  obtain ⟨d_vSrc, F_vSrc⟩ := E_vSrc
  have b_vSrc := F_vSrc.binds (ps := ["_law_cell"]) fun _ _ _ _ _ _ us hl => match us, hl with | [_], _ => rfl
  obtain ⟨d_vDrw, F_vDrw⟩ := E_vDrw
  have b_vDrw := F_vDrw.binds (ps := ["_law_source_here", "_law_many"]) fun _ _ _ _ _ _ us hl => match us, hl with | [_, _], _ => rfl
  obtain ⟨d_vPik, F_vPik⟩ := E_vPik
  have b_vPik := F_vPik.binds (ps := ["_law_source_here", "_law_items"]) fun _ _ _ _ _ _ us hl => match us, hl with | [_, _], _ => rfl
  obtain ⟨d_vByt, F_vByt⟩ := E_vByt
  have b_vByt := F_vByt.binds (ps := ["_law_source_here", "_law_many"]) fun _ _ _ _ _ _ us hl => match us, hl with | [_, _], _ => rfl
  obtain ⟨d_vItg, F_vItg⟩ := E_vItg
  have b_vItg := F_vItg.binds (ps := ["_law_source_here"]) fun _ _ _ _ _ _ us hl => match us, hl with | [_], _ => rfl
  obtain ⟨d_vStr, F_vStr⟩ := E_vStr
  have b_vStr := F_vStr.binds (ps := ["_law_source_here"]) fun _ _ _ _ _ _ us hl => match us, hl with | [_], _ => rfl
  obtain ⟨d_vWid, F_vWid⟩ := E_vWid
  have b_vWid := F_vWid.binds (ps := ["_law_source_here"]) fun _ _ _ _ _ _ us hl => match us, hl with | [_], _ => rfl
  obtain ⟨d_vLea, F_vLea⟩ := E_vLea
  have b_vLea := F_vLea.binds (ps := ["_law_source_here"]) fun _ _ _ _ _ _ us hl => match us, hl with | [_], _ => rfl
  obtain ⟨d_vHex, F_vHex⟩ := E_vHex
  have b_vHex := F_vHex.binds (ps := ["_law_some"]) fun _ _ _ _ _ _ us hl => match us, hl with | [_], _ => rfl
  obtain ⟨d_vQuo, F_vQuo⟩ := E_vQuo
  have b_vQuo := F_vQuo.binds (ps := ["_law_word"]) fun _ _ _ _ _ _ us hl => match us, hl with | [_], _ => rfl
  obtain ⟨d_vWri, F_vWri⟩ := E_vWri
  have b_vWri := F_vWri.binds (ps := ["_law_thing"]) fun _ _ _ _ _ _ us hl => match us, hl with | [_], _ => rfl
  obtain ⟨d_vUnf, F_vUnf⟩ := E_vUnf
  have b_vUnf := F_vUnf.binds (ps := ["_law_source_here"]) fun _ _ _ _ _ _ us hl => match us, hl with | [_], _ => rfl
  obtain ⟨d_vTre, F_vTre⟩ := E_vTre
  have b_vTre := F_vTre.binds (ps := ["_law_source_here", "_law_deep", "_law_rare"]) fun _ _ _ _ _ _ us hl => match us, hl with | [_, _, _], _ => rfl
  obtain ⟨d_vTxx, F_vTxx⟩ := E_vTxx
  have b_vTxx := F_vTxx.binds (ps := ["_law_source_here", "_law_thing"]) fun _ _ _ _ _ _ us hl => match us, hl with | [_, _], _ => rfl
  obtain ⟨d_vDue, F_vDue⟩ := E_vDue
  have b_vDue := F_vDue.binds (ps := ["_law_thing"]) fun _ _ _ _ _ _ us hl => match us, hl with | [_], _ => rfl
  obtain ⟨d_vSai, F_vSai⟩ := E_vSai
  have b_vSai := F_vSai.binds (ps := ["_law_word"]) fun _ _ _ _ _ _ us hl => match us, hl with | [_], _ => rfl
  obtain ⟨d_vNrt, F_vNrt⟩ := E_vNrt
  have b_vNrt := F_vNrt.binds (ps := ["_law_source_here"]) fun _ _ _ _ _ _ us hl => match us, hl with | [_], _ => rfl
  obtain ⟨d_vRgt, F_vRgt⟩ := E_vRgt
  have b_vRgt := F_vRgt.binds (ps := ["_law_source_here"]) fun _ _ _ _ _ _ us hl => match us, hl with | [_], _ => rfl
  obtain ⟨d_Law, F_Law⟩ := E_Law
  have M := fun {n : Str} {v : Value} (q : PySem.W.nsIn K mainGlobals n = some (some v)) => PySem.W.mg_of X G q
  have M0 := fun {n : Str} (q : PySem.W.nsIn K mainGlobals n = some none) => PySem.W.mg_none_of X G q
  let a : G58.V.Ad := ⟨cNoValue, cLarge, cBadText, cWide, cData, cUid, cReal, cDate, cScanner, cNestError, cUnfit, f_viV, f_viL, f_viB, f_vIsi, f_vIsb, f_vArb, f_vArp, f_vRef, f_viW, f_vCnW, f_vFaW, f_viD, f_vCnD, f_vFaD, f_viU, f_vCnU, f_vFaU, f_viR, f_vCnR, f_vFaR, f_viT, f_vCnT, f_vFaT, f_vIss, f_vIsl, f_vWp, f_vIns, f_vDep, f_vPrt, f_vChk, f_vSin, f_vSgn, f_vIsa, f_vRfu, f_vExp, f_vFns, f_vFig, f_vSit, f_vHxn, f_vOcr, f_vUnh, f_vRlh, f_vLtd, f_vStg, f_vMng, f_vGon, f_vLsh, f_vAdm, f_vDch, f_vVlu, f_vRdv, f_vSrc, f_vDrw, f_vPik, f_vByt, f_vItg, f_vStr, f_vWid, f_vLea, f_vHex, f_vQuo, f_vWri, f_vUnf, f_vTre, f_vTxx, f_vDue, f_vSai, f_vNrt, f_vRgt⟩
  have T : G58.V.Txt K mg a := ⟨⟨x_NoValue, f_NoValue, a_viV, t_viV⟩, no_NoValue_path, ⟨x_Large, f_Large, a_viL, t_viL⟩, no_Large_what, ⟨x_BadText, f_BadText, a_viB, t_viB⟩, no_BadText_place, ⟨mk_cWide, a_viW, i_viW, kC_cWide⟩, ⟨pg_cWide, hd_cWide, po_cWide, sa_cWide⟩, n_cWide_units, ⟨a_vCnW, i_vCnW, F_vCnW.kp⟩, ⟨a_vFaW, i_vFaW, F_vFaW.kp⟩, ⟨mk_cData, a_viD, i_viD, kC_cData⟩, ⟨pg_cData, hd_cData, po_cData, sa_cData⟩, n_cData_octets, ⟨a_vCnD, i_vCnD, F_vCnD.kp⟩, ⟨a_vFaD, i_vFaD, F_vFaD.kp⟩, ⟨mk_cUid, a_viU, i_viU, kC_cUid⟩, ⟨pg_cUid, hd_cUid, po_cUid, sa_cUid⟩, n_cUid_number, ⟨a_vCnU, i_vCnU, F_vCnU.kp⟩, ⟨a_vFaU, i_vFaU, F_vFaU.kp⟩, ⟨mk_cReal, a_viR, i_viR, kC_cReal⟩, ⟨pg_cReal, hd_cReal, po_cReal, sa_cReal⟩, n_cReal_octets, ⟨a_vCnR, i_vCnR, F_vCnR.kp⟩, ⟨a_vFaR, i_vFaR, F_vFaR.kp⟩, ⟨mk_cDate, a_viT, i_viT, kC_cDate⟩, ⟨pg_cDate, hd_cDate, po_cDate, sa_cDate⟩, n_cDate_octets, ⟨a_vCnT, i_vCnT, F_vCnT.kp⟩, ⟨a_vFaT, i_vFaT, F_vFaT.kp⟩, ⟨mk_cScanner, a_vSin, i_vSin, kC_cScanner⟩, ⟨pg_cScanner, hd_cScanner, po_cScanner, sa_cScanner⟩, n_cScanner_text, n_cScanner_place, ⟨a_vSgn, i_vSgn, F_vSgn.kp⟩, ⟨a_vIsa, i_vIsa, F_vIsa.kp⟩, ⟨a_vRfu, i_vRfu, F_vRfu.kp⟩, ⟨a_vExp, i_vExp, F_vExp.kp⟩, ⟨a_vFns, i_vFns, F_vFns.kp⟩, ⟨a_vFig, i_vFig, F_vFig.kp⟩, ⟨a_vSit, i_vSit, F_vSit.kp⟩, ⟨a_vHxn, i_vHxn, F_vHxn.kp⟩, ⟨a_vOcr, i_vOcr, F_vOcr.kp⟩, ⟨a_vUnh, i_vUnh, F_vUnh.kp⟩, ⟨a_vRlh, i_vRlh, F_vRlh.kp⟩, ⟨a_vLtd, i_vLtd, F_vLtd.kp⟩, ⟨a_vStg, i_vStg, F_vStg.kp⟩, ⟨a_vMng, i_vMng, F_vMng.kp⟩, ⟨a_vGon, i_vGon, F_vGon.kp⟩, ⟨a_vLsh, i_vLsh, F_vLsh.kp⟩, ⟨a_vAdm, i_vAdm, F_vAdm.kp⟩, ⟨a_vDch, i_vDch, F_vDch.kp⟩, ⟨a_vVlu, i_vVlu, F_vVlu.kp⟩, M aC_NoValue, M aC_Large, M aC_BadText, M aC_Wide, M aC_Data, M aC_Uid, M aC_Real, M aC_Date, M aC_Scanner, M aC_NestError, M aC_Unfit, M a_vIsi, M a_vIsb, M a_vArb, M a_vArp, M a_vRef, M a_vIss, M a_vIsl, M a_vWp, M a_vIns, M a_vDep, M a_vPrt, M a_vChk, M a_vRdv, M a_vSrc, M a_vDrw, M a_vPik, M a_vByt, M a_vItg, M a_vStr, M a_vWid, M a_vLea, M a_vHex, M a_vQuo, M a_vWri, M a_vUnf, M a_vTre, M a_vTxx, M a_vDue, M a_vSai, M a_vNrt, M a_vRgt, ⟨_, M q_LEAST_INTEGER⟩, ⟨_, M q_GREATEST⟩, ⟨_, M q_MOST_DEPTH⟩, ⟨_, M q_MOST_PARTS⟩, ⟨_, M q_MOST_FIGURES⟩, ⟨_, M q_FIGURES⟩, ⟨_, M q_HEX⟩, M0 z_len, M0 z_isinstance, M0 z_str, M0 z_int, M0 z_bool, M0 z_abs, M0 z_range, M0 z_list, M0 z_tuple, M0 z_dict, M0 z_all, M0 z_enumerate, M0 z_sorted, M0 z_ord, M0 z_max, M0 z_min, M0 z_sum, M0 z_repr, M0 z_zip, e_hn, e_htk, e_al_NoneType, e_ld_NoneType, e_kw_NoneType, e_al_bool, e_ld_bool, e_al_int, e_ld_int, e_kw_int, e_al_str, e_ld_str, e_kw_str, e_al_tuple, e_ld_tuple, e_al_dict, e_ld_dict, e_al_list, e_ld_list, e_haWide, e_hmWide, e_alWide, e_ldWide, e_kwWide, e_koWide_list, e_koWide_dict, e_koWide_bool, e_koWide_int, e_koWide_str, e_haData, e_hmData, e_alData, e_ldData, e_kwData, e_koData_list, e_koData_dict, e_koData_bool, e_koData_int, e_koData_str, e_haUid, e_hmUid, e_alUid, e_ldUid, e_kwUid, e_koUid_list, e_koUid_dict, e_koUid_bool, e_koUid_int, e_koUid_str, e_haReal, e_hmReal, e_alReal, e_ldReal, e_kwReal, e_koReal_list, e_koReal_dict, e_koReal_bool, e_koReal_int, e_koReal_str, e_haDate, e_hmDate, e_alDate, e_ldDate, e_kwDate, e_koDate_list, e_koDate_dict, e_koDate_bool, e_koDate_int, e_koDate_str, e_emNoValue_NoValue, e_emLarge_NoValue, e_emLarge_Large, e_mkUnfit, e_inUnfit, e_kpUnfit, e_pgUnfit, e_hdUnfit, e_poUnfit, e_saUnfit, e_haUnfit, e_hmUnfit, e_alUnfit, e_koUnfit_list, e_koUnfit_dict, e_koUnfit_bool, e_koUnfit_int, e_koUnfit_str, e_kw_list, e_ku_list, e_kw_dict, e_ku_dict, e_kuWide, e_kdWide, e_krWide, e_kuData, e_kdData, e_krData, e_kuUid, e_kdUid, e_krUid, e_kuReal, e_kdReal, e_krReal, e_kuDate, e_kdDate, e_krDate, e_koWide_tuple, e_koData_tuple, e_koUid_tuple, e_koReal_tuple, e_koDate_tuple⟩
  have D : G58.V.Df K a := ⟨_, _, _, _, _, _, _, _, _, _, _, _, _, _, _, _, _, _, _, _, _, _, _, _, _, _, _, _, _, _, _, _, _, _, _, _, _, _, _, _, _, _, _, _, _, _, _, _, _, _, _, _, _, _, _, _, _, _, _, _, _, _, _, _, _, _, _, _, _, F_viV, b_viV, F_viL, b_viL, F_viB, b_viB, F_vIsi, b_vIsi, F_vIsb, b_vIsb, F_vArb, b_vArb, F_vArp, b_vArp, F_vRef, b_vRef, F_viW, b_viW, F_vCnW, b_vCnW, F_vFaW, b_vFaW, F_viD, b_viD, F_vCnD, b_vCnD, F_vFaD, b_vFaD, F_viU, b_viU, F_vCnU, b_vCnU, F_vFaU, b_vFaU, F_viR, b_viR, F_vCnR, b_vCnR, F_vFaR, b_vFaR, F_viT, b_viT, F_vCnT, b_vCnT, F_vFaT, b_vFaT, F_vIss, b_vIss, F_vIsl, b_vIsl, F_vWp, b_vWp, F_vIns, b_vIns, F_vDep, b_vDep, F_vPrt, b_vPrt, F_vChk, b_vChk, F_vSin, b_vSin, F_vSgn, b_vSgn, F_vIsa, b_vIsa, F_vRfu, b_vRfu, F_vExp, b_vExp, F_vFns, b_vFns, F_vFig, b_vFig, F_vSit, b_vSit, F_vHxn, b_vHxn, F_vOcr, b_vOcr, F_vUnh, b_vUnh, F_vRlh, b_vRlh, F_vLtd, b_vLtd, F_vStg, b_vStg, F_vMng, b_vMng, F_vGon, b_vGon, F_vLsh, b_vLsh, F_vAdm, b_vAdm, F_vDch, b_vDch, F_vVlu, b_vVlu, F_vRdv, b_vRdv, F_vSrc, b_vSrc, F_vDrw, b_vDrw, F_vPik, b_vPik, F_vByt, b_vByt, F_vItg, b_vItg, F_vStr, b_vStr, F_vWid, b_vWid, F_vLea, b_vLea, F_vHex, b_vHex, F_vQuo, b_vQuo, F_vWri, b_vWri, F_vUnf, b_vUnf, F_vTre, b_vTre, F_vTxx, b_vTxx, F_vDue, b_vDue, F_vSai, b_vSai, F_vNrt, b_vNrt, F_vRgt, b_vRgt⟩
  obtain ⟨oc, od, kV, doc, pm, an, cdv, ct, osl, eL, lkL, cdL⟩ := F_Law.ex
  refine ⟨d_Law, spLaw K, fun s v => ?_, fun H p ns hl hS => ⟨p, ns, rfl, hS, hl, fun _ => rfl⟩, fun base _ _ => ?_⟩
  · rw [eL]
    exact .of_eq rfl
  exact ok_law F_Law D T
end G58.V

set_option Elab.async false
set_option linter.all false
set_option maxRecDepth 100000
set_option maxHeartbeats 8000000
/-! The end. -/
namespace HeadS
open PySem PySem.Spec PyProof.Rows L2 He
theorem facts {w : World} {K : PySem.W.Frag} {h : Heap} {mg : Str → Option Value} {f : Addr} (X : K.In h) (G : h.Ns mainGlobals mg) (hfa : mg ("law" : Str) = some (.ref f)) (c : HdK.SaysK fa fn ex K) :
    G58.LawG PySem.Challenge.rw_nestfile_k72_texts_of_values_and_of_none w K 25 63 "_law_script" mg f := by
  exact G58.V.all_mk X G hfa
      (z_len := HdK.nsf (c.d.fact 0 (f := .free "len") rfl))
      (z_isinstance := HdK.nsf (c.d.fact 1 (f := .free "isinstance") rfl))
      (z_str := HdK.nsf (c.d.fact 2 (f := .free "str") rfl))
      (z_int := HdK.nsf (c.d.fact 3 (f := .free "int") rfl))
      (z_bool := HdK.nsf (c.d.fact 4 (f := .free "bool") rfl))
      (z_abs := HdK.nsf (c.d.fact 5 (f := .free "abs") rfl))
      (z_range := HdK.nsf (c.d.fact 6 (f := .free "range") rfl))
      (z_list := HdK.nsf (c.d.fact 7 (f := .free "list") rfl))
      (z_tuple := HdK.nsf (c.d.fact 8 (f := .free "tuple") rfl))
      (z_dict := HdK.nsf (c.d.fact 9 (f := .free "dict") rfl))
      (z_all := HdK.nsf (c.d.fact 10 (f := .free "all") rfl))
      (z_enumerate := HdK.nsf (c.d.fact 11 (f := .free "enumerate") rfl))
      (z_sorted := HdK.nsf (c.d.fact 12 (f := .free "sorted") rfl))
      (z_ord := HdK.nsf (c.d.fact 13 (f := .free "ord") rfl))
      (z_max := HdK.nsf (c.d.fact 14 (f := .free "max") rfl))
      (z_min := HdK.nsf (c.d.fact 15 (f := .free "min") rfl))
      (z_sum := HdK.nsf (c.d.fact 16 (f := .free "sum") rfl))
      (z_repr := HdK.nsf (c.d.fact 17 (f := .free "repr") rfl))
      (z_zip := HdK.nsf (c.d.fact 18 (f := .free "zip") rfl))
      (q_LEAST_INTEGER := HdK.nsi (c.d.fact 19 (f := .int "LEAST_INTEGER" (-9223372036854775808)) rfl))
      (q_GREATEST := HdK.nsi (c.d.fact 20 (f := .int "GREATEST" 18446744073709551615) rfl))
      (q_MOST_DEPTH := HdK.nsi (c.d.fact 21 (f := .int "MOST_DEPTH" 100) rfl))
      (q_MOST_PARTS := HdK.nsi (c.d.fact 22 (f := .int "MOST_PARTS" 20000) rfl))
      (q_MOST_FIGURES := HdK.nsi (c.d.fact 23 (f := .int "MOST_FIGURES" 20) rfl))
      (q_FIGURES := HdK.nss (c.d.fact 24 (f := .str "FIGURES" "0123456789") rfl))
      (q_HEX := HdK.nss (c.d.fact 25 (f := .str "HEX" "0123456789abcdef") rfl))
      (aC_NoValue := HdK.nsg (c.d.fact 26 (f := .glo "NoValue") rfl))
      (aC_Large := HdK.nsg (c.d.fact 27 (f := .glo "Large") rfl))
      (aC_BadText := HdK.nsg (c.d.fact 28 (f := .glo "BadText") rfl))
      (aC_Wide := HdK.nsg (c.d.fact 29 (f := .glo "Wide") rfl))
      (aC_Data := HdK.nsg (c.d.fact 30 (f := .glo "Data") rfl))
      (aC_Uid := HdK.nsg (c.d.fact 31 (f := .glo "Uid") rfl))
      (aC_Real := HdK.nsg (c.d.fact 32 (f := .glo "Real") rfl))
      (aC_Date := HdK.nsg (c.d.fact 33 (f := .glo "Date") rfl))
      (aC_Scanner := HdK.nsg (c.d.fact 34 (f := .glo "Scanner") rfl))
      (aC_NestError := HdK.nsg (c.d.fact 35 (f := .glo "NestError") rfl))
      (aC_Unfit := HdK.nsg (c.d.fact 36 (f := .glo "Unfit") rfl))
      (x_NoValue := HdK.oexB_ok (c.at 0))
      (f_NoValue := xfB_ok (c.at 1))
      (no_NoValue_path := of_decide_eq_true (c.at 2))
      (x_Large := HdK.oexB_ok (c.at 3))
      (f_Large := xfB_ok (c.at 4))
      (no_Large_what := of_decide_eq_true (c.at 5))
      (x_BadText := HdK.oexB_ok (c.at 6))
      (f_BadText := xfB_ok (c.at 7))
      (no_BadText_place := of_decide_eq_true (c.at 8))
      (mk_cWide := c.at 9)
      (kC_cWide := c.at 10)
      (pg_cWide := c.at 11)
      (hd_cWide := c.at 12)
      (po_cWide := c.at 13)
      (sa_cWide := of_decide_eq_true (c.at 14))
      (n_cWide_units := of_decide_eq_true (c.at 15))
      (mk_cData := c.at 16)
      (kC_cData := c.at 17)
      (pg_cData := c.at 18)
      (hd_cData := c.at 19)
      (po_cData := c.at 20)
      (sa_cData := of_decide_eq_true (c.at 21))
      (n_cData_octets := of_decide_eq_true (c.at 22))
      (mk_cUid := c.at 23)
      (kC_cUid := c.at 24)
      (pg_cUid := c.at 25)
      (hd_cUid := c.at 26)
      (po_cUid := c.at 27)
      (sa_cUid := of_decide_eq_true (c.at 28))
      (n_cUid_number := of_decide_eq_true (c.at 29))
      (mk_cReal := c.at 30)
      (kC_cReal := c.at 31)
      (pg_cReal := c.at 32)
      (hd_cReal := c.at 33)
      (po_cReal := c.at 34)
      (sa_cReal := of_decide_eq_true (c.at 35))
      (n_cReal_octets := of_decide_eq_true (c.at 36))
      (mk_cDate := c.at 37)
      (kC_cDate := c.at 38)
      (pg_cDate := c.at 39)
      (hd_cDate := c.at 40)
      (po_cDate := c.at 41)
      (sa_cDate := of_decide_eq_true (c.at 42))
      (n_cDate_octets := of_decide_eq_true (c.at 43))
      (mk_cScanner := c.at 44)
      (kC_cScanner := c.at 45)
      (pg_cScanner := c.at 46)
      (hd_cScanner := c.at 47)
      (po_cScanner := c.at 48)
      (sa_cScanner := of_decide_eq_true (c.at 49))
      (n_cScanner_text := of_decide_eq_true (c.at 50))
      (n_cScanner_place := of_decide_eq_true (c.at 51))
      (a_viV := of_decide_eq_true (c.at 52))
      (t_viV := of_decide_eq_true (c.at 53))
      (E_viV := HdK.fun0 (c.d.def_ 0 (d := d0) rfl))
      (a_viL := of_decide_eq_true (c.at 54))
      (t_viL := of_decide_eq_true (c.at 55))
      (E_viL := HdK.fun0 (c.d.def_ 1 (d := d1) rfl))
      (a_viB := of_decide_eq_true (c.at 56))
      (t_viB := of_decide_eq_true (c.at 57))
      (E_viB := HdK.fun0 (c.d.def_ 2 (d := d2) rfl))
      (a_vIsi := HdK.nsg (c.d.fact 37 (f := .glo "is_integer") rfl))
      (E_vIsi := HdK.fun0 (c.d.def_ 3 (d := d3) rfl))
      (a_vIsb := HdK.nsg (c.d.fact 38 (f := .glo "is_between") rfl))
      (E_vIsb := HdK.fun0 (c.d.def_ 4 (d := d4) rfl))
      (a_vArb := HdK.nsg (c.d.fact 39 (f := .glo "are_between") rfl))
      (E_vArb := HdK.fun0 (c.d.def_ 5 (d := d5) rfl))
      (a_vArp := HdK.nsg (c.d.fact 40 (f := .glo "are_plain") rfl))
      (E_vArp := HdK.fun0 (c.d.def_ 6 (d := d6) rfl))
      (a_vRef := HdK.nsg (c.d.fact 41 (f := .glo "refuse") rfl))
      (E_vRef := HdK.fun0 (c.d.def_ 7 (d := d7) rfl))
      (a_viW := of_decide_eq_true (c.at 58))
      (i_viW := c.at 59)
      (E_viW := HdK.fun0 (c.d.def_ 8 (d := d8) rfl))
      (a_vCnW := of_decide_eq_true (c.at 60))
      (i_vCnW := c.at 61)
      (E_vCnW := HdK.fun0 (c.d.def_ 9 (d := d9) rfl))
      (a_vFaW := of_decide_eq_true (c.at 62))
      (i_vFaW := c.at 63)
      (E_vFaW := HdK.fun0 (c.d.def_ 10 (d := d10) rfl))
      (a_viD := of_decide_eq_true (c.at 64))
      (i_viD := c.at 65)
      (E_viD := HdK.fun0 (c.d.def_ 11 (d := d11) rfl))
      (a_vCnD := of_decide_eq_true (c.at 66))
      (i_vCnD := c.at 67)
      (E_vCnD := HdK.fun0 (c.d.def_ 12 (d := d12) rfl))
      (a_vFaD := of_decide_eq_true (c.at 68))
      (i_vFaD := c.at 69)
      (E_vFaD := HdK.fun0 (c.d.def_ 13 (d := d13) rfl))
      (a_viU := of_decide_eq_true (c.at 70))
      (i_viU := c.at 71)
      (E_viU := HdK.fun0 (c.d.def_ 14 (d := d14) rfl))
      (a_vCnU := of_decide_eq_true (c.at 72))
      (i_vCnU := c.at 73)
      (E_vCnU := HdK.fun0 (c.d.def_ 15 (d := d15) rfl))
      (a_vFaU := of_decide_eq_true (c.at 74))
      (i_vFaU := c.at 75)
      (E_vFaU := HdK.fun0 (c.d.def_ 16 (d := d16) rfl))
      (a_viR := of_decide_eq_true (c.at 76))
      (i_viR := c.at 77)
      (E_viR := HdK.fun0 (c.d.def_ 17 (d := d17) rfl))
      (a_vCnR := of_decide_eq_true (c.at 78))
      (i_vCnR := c.at 79)
      (E_vCnR := HdK.fun0 (c.d.def_ 18 (d := d18) rfl))
      (a_vFaR := of_decide_eq_true (c.at 80))
      (i_vFaR := c.at 81)
      (E_vFaR := HdK.fun0 (c.d.def_ 19 (d := d19) rfl))
      (a_viT := of_decide_eq_true (c.at 82))
      (i_viT := c.at 83)
      (E_viT := HdK.fun0 (c.d.def_ 20 (d := d20) rfl))
      (a_vCnT := of_decide_eq_true (c.at 84))
      (i_vCnT := c.at 85)
      (E_vCnT := HdK.fun0 (c.d.def_ 21 (d := d21) rfl))
      (a_vFaT := of_decide_eq_true (c.at 86))
      (i_vFaT := c.at 87)
      (E_vFaT := HdK.fun0 (c.d.def_ 22 (d := d22) rfl))
      (a_vIss := HdK.nsg (c.d.fact 42 (f := .glo "is_string") rfl))
      (E_vIss := HdK.fun0 (c.d.def_ 23 (d := d23) rfl))
      (a_vIsl := HdK.nsg (c.d.fact 43 (f := .glo "is_leaf") rfl))
      (E_vIsl := HdK.fun0 (c.d.def_ 24 (d := d24) rfl))
      (a_vWp := HdK.nsg (c.d.fact 44 (f := .glo "wrong_path") rfl))
      (E_vWp := HdK.fun0 (c.d.def_ 25 (d := d25) rfl))
      (a_vIns := HdK.nsg (c.d.fact 45 (f := .glo "inside") rfl))
      (E_vIns := HdK.fun0 (c.d.def_ 26 (d := d26) rfl))
      (a_vDep := HdK.nsg (c.d.fact 46 (f := .glo "depth_of") rfl))
      (E_vDep := HdK.fun0 (c.d.def_ 27 (d := d27) rfl))
      (a_vPrt := HdK.nsg (c.d.fact 47 (f := .glo "parts_of") rfl))
      (E_vPrt := HdK.fun0 (c.d.def_ 28 (d := d28) rfl))
      (a_vChk := HdK.nsg (c.d.fact 48 (f := .glo "check") rfl))
      (E_vChk := HdK.fun0 (c.d.def_ 29 (d := d29) rfl))
      (a_vSin := of_decide_eq_true (c.at 88))
      (i_vSin := c.at 89)
      (E_vSin := HdK.fun0 (c.d.def_ 30 (d := d30) rfl))
      (a_vSgn := of_decide_eq_true (c.at 90))
      (i_vSgn := c.at 91)
      (E_vSgn := HdK.fun0 (c.d.def_ 31 (d := d31) rfl))
      (a_vIsa := of_decide_eq_true (c.at 92))
      (i_vIsa := c.at 93)
      (E_vIsa := HdK.fun0 (c.d.def_ 32 (d := d32) rfl))
      (a_vRfu := of_decide_eq_true (c.at 94))
      (i_vRfu := c.at 95)
      (E_vRfu := HdK.fun0 (c.d.def_ 33 (d := d33) rfl))
      (a_vExp := of_decide_eq_true (c.at 96))
      (i_vExp := c.at 97)
      (E_vExp := HdK.fun0 (c.d.def_ 34 (d := d34) rfl))
      (a_vFns := of_decide_eq_true (c.at 98))
      (i_vFns := c.at 99)
      (E_vFns := HdK.fun0 (c.d.def_ 35 (d := d35) rfl))
      (a_vFig := of_decide_eq_true (c.at 100))
      (i_vFig := c.at 101)
      (E_vFig := HdK.fun0 (c.d.def_ 36 (d := d36) rfl))
      (a_vSit := of_decide_eq_true (c.at 102))
      (i_vSit := c.at 103)
      (E_vSit := HdK.fun0 (c.d.def_ 37 (d := d37) rfl))
      (a_vHxn := of_decide_eq_true (c.at 104))
      (i_vHxn := c.at 105)
      (E_vHxn := HdK.fun0 (c.d.def_ 38 (d := d38) rfl))
      (a_vOcr := of_decide_eq_true (c.at 106))
      (i_vOcr := c.at 107)
      (E_vOcr := HdK.fun0 (c.d.def_ 39 (d := d39) rfl))
      (a_vUnh := of_decide_eq_true (c.at 108))
      (i_vUnh := c.at 109)
      (E_vUnh := HdK.fun0 (c.d.def_ 40 (d := d40) rfl))
      (a_vRlh := of_decide_eq_true (c.at 110))
      (i_vRlh := c.at 111)
      (E_vRlh := HdK.fun0 (c.d.def_ 41 (d := d41) rfl))
      (a_vLtd := of_decide_eq_true (c.at 112))
      (i_vLtd := c.at 113)
      (E_vLtd := HdK.fun0 (c.d.def_ 42 (d := d42) rfl))
      (a_vStg := of_decide_eq_true (c.at 114))
      (i_vStg := c.at 115)
      (E_vStg := HdK.fun0 (c.d.def_ 43 (d := d43) rfl))
      (a_vMng := of_decide_eq_true (c.at 116))
      (i_vMng := c.at 117)
      (E_vMng := HdK.fun0 (c.d.def_ 44 (d := d44) rfl))
      (a_vGon := of_decide_eq_true (c.at 118))
      (i_vGon := c.at 119)
      (E_vGon := HdK.fun0 (c.d.def_ 45 (d := d45) rfl))
      (a_vLsh := of_decide_eq_true (c.at 120))
      (i_vLsh := c.at 121)
      (E_vLsh := HdK.fun0 (c.d.def_ 46 (d := d46) rfl))
      (a_vAdm := of_decide_eq_true (c.at 122))
      (i_vAdm := c.at 123)
      (E_vAdm := HdK.fun0 (c.d.def_ 47 (d := d47) rfl))
      (a_vDch := of_decide_eq_true (c.at 124))
      (i_vDch := c.at 125)
      (E_vDch := HdK.fun0 (c.d.def_ 48 (d := d48) rfl))
      (a_vVlu := of_decide_eq_true (c.at 126))
      (i_vVlu := c.at 127)
      (E_vVlu := HdK.fun0 (c.d.def_ 49 (d := d49) rfl))
      (a_vRdv := HdK.nsg (c.d.fact 49 (f := .glo "read_value") rfl))
      (E_vRdv := HdK.fun0 (c.d.def_ 50 (d := d50) rfl))
      (a_vSrc := HdK.nsg (c.d.fact 50 (f := .glo "_law_source") rfl))
      (E_vSrc := HdK.fun0 (c.d.def_ 51 (d := d51) rfl))
      (a_vDrw := HdK.nsg (c.d.fact 51 (f := .glo "_law_draw") rfl))
      (E_vDrw := HdK.fun0 (c.d.def_ 52 (d := d52) rfl))
      (a_vPik := HdK.nsg (c.d.fact 52 (f := .glo "_law_pick") rfl))
      (E_vPik := HdK.fun0 (c.d.def_ 53 (d := d53) rfl))
      (a_vByt := HdK.nsg (c.d.fact 53 (f := .glo "_law_bytes") rfl))
      (E_vByt := HdK.fun0 (c.d.def_ 54 (d := d54) rfl))
      (a_vItg := HdK.nsg (c.d.fact 54 (f := .glo "_law_integer") rfl))
      (E_vItg := HdK.fun0 (c.d.def_ 55 (d := d55) rfl))
      (a_vStr := HdK.nsg (c.d.fact 55 (f := .glo "_law_string") rfl))
      (E_vStr := HdK.fun0 (c.d.def_ 56 (d := d56) rfl))
      (a_vWid := HdK.nsg (c.d.fact 56 (f := .glo "_law_wide") rfl))
      (E_vWid := HdK.fun0 (c.d.def_ 57 (d := d57) rfl))
      (a_vLea := HdK.nsg (c.d.fact 57 (f := .glo "_law_leaf") rfl))
      (E_vLea := HdK.fun0 (c.d.def_ 58 (d := d58) rfl))
      (a_vHex := HdK.nsg (c.d.fact 58 (f := .glo "_law_hex") rfl))
      (E_vHex := HdK.fun0 (c.d.def_ 59 (d := d59) rfl))
      (a_vQuo := HdK.nsg (c.d.fact 59 (f := .glo "_law_quoted") rfl))
      (E_vQuo := HdK.fun0 (c.d.def_ 60 (d := d60) rfl))
      (a_vWri := HdK.nsg (c.d.fact 60 (f := .glo "_law_written") rfl))
      (E_vWri := HdK.fun0 (c.d.def_ 61 (d := d61) rfl))
      (a_vUnf := HdK.nsg (c.d.fact 61 (f := .glo "_law_unfit") rfl))
      (E_vUnf := HdK.fun0 (c.d.def_ 62 (d := d62) rfl))
      (a_vTre := HdK.nsg (c.d.fact 62 (f := .glo "_law_tree") rfl))
      (E_vTre := HdK.fun0 (c.d.def_ 63 (d := d63) rfl))
      (a_vTxx := HdK.nsg (c.d.fact 63 (f := .glo "_law_text") rfl))
      (E_vTxx := HdK.fun0 (c.d.def_ 64 (d := d64) rfl))
      (a_vDue := HdK.nsg (c.d.fact 64 (f := .glo "_law_due") rfl))
      (E_vDue := HdK.fun0 (c.d.def_ 65 (d := d65) rfl))
      (a_vSai := HdK.nsg (c.d.fact 65 (f := .glo "_law_said") rfl))
      (E_vSai := HdK.fun0 (c.d.def_ 66 (d := d66) rfl))
      (a_vNrt := HdK.nsg (c.d.fact 66 (f := .glo "_law_numbers_right") rfl))
      (E_vNrt := HdK.fun0 (c.d.def_ 67 (d := d67) rfl))
      (a_vRgt := HdK.nsg (c.d.fact 67 (f := .glo "_law_right") rfl))
      (E_vRgt := HdK.fun0 (c.d.def_ 68 (d := d68) rfl))
      (a_Law := HdK.nsg (c.d.fact 68 (f := .glo "law") rfl))
      (E_Law := HdK.fun0 (c.d.def_ 69 (d := d69) rfl))
      (e_hn := of_decide_eq_true (c.at 128))
      (e_htk := of_decide_eq_true (c.at 129))
      (e_al_NoneType := of_decide_eq_true (c.at 130))
      (e_ld_NoneType := of_decide_eq_true (c.at 131))
      (e_kw_NoneType := of_decide_eq_true (c.at 132))
      (e_al_bool := of_decide_eq_true (c.at 133))
      (e_ld_bool := of_decide_eq_true (c.at 134))
      (e_al_int := of_decide_eq_true (c.at 135))
      (e_ld_int := of_decide_eq_true (c.at 136))
      (e_kw_int := of_decide_eq_true (c.at 137))
      (e_al_str := of_decide_eq_true (c.at 138))
      (e_ld_str := of_decide_eq_true (c.at 139))
      (e_kw_str := of_decide_eq_true (c.at 140))
      (e_al_tuple := of_decide_eq_true (c.at 141))
      (e_ld_tuple := of_decide_eq_true (c.at 142))
      (e_al_dict := of_decide_eq_true (c.at 143))
      (e_ld_dict := of_decide_eq_true (c.at 144))
      (e_al_list := of_decide_eq_true (c.at 145))
      (e_ld_list := of_decide_eq_true (c.at 146))
      (e_haWide := of_decide_eq_true (c.at 147))
      (e_hmWide := of_decide_eq_true (c.at 148))
      (e_alWide := of_decide_eq_true (c.at 149))
      (e_ldWide := of_decide_eq_true (c.at 150))
      (e_kwWide := of_decide_eq_true (c.at 151))
      (e_koWide_list := of_decide_eq_true (c.at 152))
      (e_koWide_dict := of_decide_eq_true (c.at 153))
      (e_koWide_bool := of_decide_eq_true (c.at 154))
      (e_koWide_int := of_decide_eq_true (c.at 155))
      (e_koWide_str := of_decide_eq_true (c.at 156))
      (e_haData := of_decide_eq_true (c.at 157))
      (e_hmData := of_decide_eq_true (c.at 158))
      (e_alData := of_decide_eq_true (c.at 159))
      (e_ldData := of_decide_eq_true (c.at 160))
      (e_kwData := of_decide_eq_true (c.at 161))
      (e_koData_list := of_decide_eq_true (c.at 162))
      (e_koData_dict := of_decide_eq_true (c.at 163))
      (e_koData_bool := of_decide_eq_true (c.at 164))
      (e_koData_int := of_decide_eq_true (c.at 165))
      (e_koData_str := of_decide_eq_true (c.at 166))
      (e_haUid := of_decide_eq_true (c.at 167))
      (e_hmUid := of_decide_eq_true (c.at 168))
      (e_alUid := of_decide_eq_true (c.at 169))
      (e_ldUid := of_decide_eq_true (c.at 170))
      (e_kwUid := of_decide_eq_true (c.at 171))
      (e_koUid_list := of_decide_eq_true (c.at 172))
      (e_koUid_dict := of_decide_eq_true (c.at 173))
      (e_koUid_bool := of_decide_eq_true (c.at 174))
      (e_koUid_int := of_decide_eq_true (c.at 175))
      (e_koUid_str := of_decide_eq_true (c.at 176))
      (e_haReal := of_decide_eq_true (c.at 177))
      (e_hmReal := of_decide_eq_true (c.at 178))
      (e_alReal := of_decide_eq_true (c.at 179))
      (e_ldReal := of_decide_eq_true (c.at 180))
      (e_kwReal := of_decide_eq_true (c.at 181))
      (e_koReal_list := of_decide_eq_true (c.at 182))
      (e_koReal_dict := of_decide_eq_true (c.at 183))
      (e_koReal_bool := of_decide_eq_true (c.at 184))
      (e_koReal_int := of_decide_eq_true (c.at 185))
      (e_koReal_str := of_decide_eq_true (c.at 186))
      (e_haDate := of_decide_eq_true (c.at 187))
      (e_hmDate := of_decide_eq_true (c.at 188))
      (e_alDate := of_decide_eq_true (c.at 189))
      (e_ldDate := of_decide_eq_true (c.at 190))
      (e_kwDate := of_decide_eq_true (c.at 191))
      (e_koDate_list := of_decide_eq_true (c.at 192))
      (e_koDate_dict := of_decide_eq_true (c.at 193))
      (e_koDate_bool := of_decide_eq_true (c.at 194))
      (e_koDate_int := of_decide_eq_true (c.at 195))
      (e_koDate_str := of_decide_eq_true (c.at 196))
      (e_emNoValue_NoValue := of_decide_eq_true (c.at 197))
      (e_emLarge_NoValue := of_decide_eq_true (c.at 198))
      (e_emLarge_Large := of_decide_eq_true (c.at 199))
      (e_mkUnfit := c.at 200)
      (e_inUnfit := of_decide_eq_true (c.at 201))
      (e_kpUnfit := c.at 202)
      (e_pgUnfit := c.at 203)
      (e_hdUnfit := c.at 204)
      (e_poUnfit := c.at 205)
      (e_saUnfit := of_decide_eq_true (c.at 206))
      (e_haUnfit := of_decide_eq_true (c.at 207))
      (e_hmUnfit := of_decide_eq_true (c.at 208))
      (e_alUnfit := of_decide_eq_true (c.at 209))
      (e_koUnfit_list := of_decide_eq_true (c.at 210))
      (e_koUnfit_dict := of_decide_eq_true (c.at 211))
      (e_koUnfit_bool := of_decide_eq_true (c.at 212))
      (e_koUnfit_int := of_decide_eq_true (c.at 213))
      (e_koUnfit_str := of_decide_eq_true (c.at 214))
      (e_kw_list := of_decide_eq_true (c.at 215))
      (e_ku_list := of_decide_eq_true (c.at 216))
      (e_kw_dict := of_decide_eq_true (c.at 217))
      (e_ku_dict := of_decide_eq_true (c.at 218))
      (e_kuWide := of_decide_eq_true (c.at 219))
      (e_kdWide := of_decide_eq_true (c.at 220))
      (e_krWide := of_decide_eq_true (c.at 221))
      (e_kuData := of_decide_eq_true (c.at 222))
      (e_kdData := of_decide_eq_true (c.at 223))
      (e_krData := of_decide_eq_true (c.at 224))
      (e_kuUid := of_decide_eq_true (c.at 225))
      (e_kdUid := of_decide_eq_true (c.at 226))
      (e_krUid := of_decide_eq_true (c.at 227))
      (e_kuReal := of_decide_eq_true (c.at 228))
      (e_kdReal := of_decide_eq_true (c.at 229))
      (e_krReal := of_decide_eq_true (c.at 230))
      (e_kuDate := of_decide_eq_true (c.at 231))
      (e_kdDate := of_decide_eq_true (c.at 232))
      (e_krDate := of_decide_eq_true (c.at 233))
      (e_koWide_tuple := of_decide_eq_true (c.at 234))
      (e_koData_tuple := of_decide_eq_true (c.at 235))
      (e_koUid_tuple := of_decide_eq_true (c.at 236))
      (e_koReal_tuple := of_decide_eq_true (c.at 237))
      (e_koDate_tuple := of_decide_eq_true (c.at 238))
end HeadS
open PySem PySem.W PySem.Calls PyProof.Rows
theorem PySem.Challenge.cw_nestfile_k72_texts_of_values_and_of_none_holds : PySem.Challenge.rw_nestfile_k72_texts_of_values_and_of_none.Holds := by
  w_on; o_law
  refine HandSHeadRun.head_any (r := OpenLaw.row PySem.Challenge.rw_nestfile_k72_texts_of_values_and_of_none) (q := view (OpenLaw.row PySem.Challenge.rw_nestfile_k72_texts_of_values_and_of_none).prog [54]) (H := HeadS.hk) (ob := HeadS.ob) (M := 20000) (loose := HeadS.nms) (d := HandSHeadRun.topDef (OpenLaw.row PySem.Challenge.rw_nestfile_k72_texts_of_values_and_of_none).prog 54) (kwd := []) HeadS.ob_eq
    (by kernel_rfl) (fun s => by kernel_rfl) HeadS.run (by kernel_rfl) (by kernel_rfl) (by kernel_rfl) (by rfl) (by first | assumption | decide +kernel) (by decide +kernel) ⟨rfl, rfl, rfl, rfl, rfl, by decide +kernel⟩ ?hw ?hc
  case hw => w_witness2
  case hc =>
    refine G58.V.walk_GE (l := PySem.Challenge.rw_nestfile_k72_texts_of_values_and_of_none) (n := 63) (k := 25) (x := "_law_script") rfl (by decide) (by kernel_rfl) ⟨rfl, by decide, by decide⟩ ?F
    intro w mg fa h Y G hmg0
    obtain ⟨K, KX, c⟩ := Y
    have hmg : mg ("law" : PySem.Str) = some (.ref fa) := by
      have e : (HandSHeadRun.topDef (OpenLaw.row PySem.Challenge.rw_nestfile_k72_texts_of_values_and_of_none).prog 54).name = ("law" : PySem.Str) := by kernel_rfl
      rw [← e]
      exact hmg0
    exact ⟨K, KX, HeadS.facts KX G hmg c⟩
#print axioms PySem.Challenge.cw_nestfile_k72_texts_of_values_and_of_none_holds
