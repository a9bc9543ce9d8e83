import PyProof.Rows.All
import Wide.All
import OpenK.AllK
import Wide.FinOn
import KE.KStateDown
import HandS.Base
import HandS.Call
import HandS.Words
import HandS.Defaults
import HandS.ExcInit
import HandS.ExcField
import HandS.Head0
import HandS.Head1
import HandS.Head2
import HandS.HeadHook1
import HandS.HeadHook2
import Wide.Once
import KE.GoesNew
import HandS.ForMost
import HandS.ForExc
import HandS.Walk
import HandS.IsInst
import HandS.Lambda
import HandS.EndTab
import HandS.StrMore
import HandS.Zip
import HandS.DictTup
import KE.KeyNested
import KE.KDictKeyed
import HandS.Style
import HandS.Conv
import HandS.TupAny
import PyProof.ReprRoads
import PyProof.ReprLen
import HandS.Codes
import HandS.Text
import HandS.Replace
import HandS.ReplaceLit
import HandS.ReplaceList
import HandS.Iter
import HandS.RaiseMore
import KE.IntTextLaws
import PyProof.ReprRoom
import PyProof.StrLawsRepr
import PyProof.FitsInt
import PyProof.ListStr
import PyProof.StrBlock2
import HandS.HeadWalk
import PySem.Challenge.RW_nestfile_k75_paths_as_texts
set_option Elab.async false
set_option linter.all false
set_option maxRecDepth 100000
set_option maxHeartbeats 8000000
/-! The facts of a large top by one run: which objects are looked at, further checks. -/
namespace HdK
open PySem PySem.Spec PyProof.Rows L2 He
def valsOf (o : Obj) : List Addr := match o.data with
  | .dict es _ => es.toList.flatMap fun e => refV e.val
  | _ => []
def partsOf (o : Obj) : List Addr := match o.data with
  | .cls cd => cd.ns :: cd.mro.flatMap refV
  | .func fd => refV fd.code ++ (refV fd.defaults ++ refV fd.kwdefaults)
  | _ => []
def viaG (g : Addr → Option Obj) (f : Obj → List Addr) (as : List Addr) : List Addr := as.flatMap fun a => match g a with
  | some o => f o
  | none => []
def asK (g : Addr → Option Obj) : List Addr :=
  mainGlobals :: (viaG g valsOf [mainGlobals] ++ (viaG g partsOf (viaG g valsOf [mainGlobals]) ++ (viaG g valsOf (viaG g partsOf (viaG g valsOf [mainGlobals])) ++ viaG g partsOf (viaG g valsOf (viaG g partsOf (viaG g valsOf [mainGlobals]))))))
abbrev AlK : Type := AlD × Bool
def obsK (fa : List Fa) (fn : List DefD) (ex : List (PySem.W.Frag → Bool)) (K : PySem.W.Frag) : AlK := (obsD fa fn K, ex.all fun e => e K)
def valK (fn : List DefD) : AlK := (valD fn, true)
def obsKG (fa : List Fa) (fn : List DefD) (ex : List (PySem.W.Frag → Bool)) (g : Addr → Option Obj) : AlK := obsK fa fn ex (frG g (asK g))
structure SaysK (fa : List Fa) (fn : List DefD) (ex : List (PySem.W.Frag → Bool)) (K : PySem.W.Frag) : Prop where
  d : SaysD fa fn K
  m : (ex.all fun e => e K) = true
def hookK (fa : List Fa) (fn : List DefD) (ex : List (PySem.W.Frag → Bool)) : PySem.W.Hook where
  α := AlK
  obs := fun s => obsKG fa fn ex s.heap.get?
  val := fun _ => valK fn
  says := fun _ h => ∃ K : PySem.W.Frag, K.In h ∧ SaysK fa fn ex K
  of := fun _ _ e => ⟨_, frG_in, congrArg (fun z : AlK => z.1) e, congrArg (fun z : AlK => z.2) e⟩
  keeps := fun _ _ _ ⟨K, hK, c⟩ k => ⟨K, PySem.W.Frag.In.keeps hK k, c⟩
theorem obsKG_eq {fa : List Fa} {fn : List DefD} {ex : List (PySem.W.Frag → Bool)} {g : Addr → Option Obj} {s : Shared} (h : ∀ a, g a = s.heap.get? a) : obsKG fa fn ex g = (hookK fa fn ex).obs s := by
  have e : g = s.heap.get? := funext h
  rw [e] <;> rfl
theorem SaysK.at {fa : List Fa} {fn : List DefD} {ex : List (PySem.W.Frag → Bool)} {K : PySem.W.Frag} (c : SaysK fa fn ex K) (i : Nat) {e : PySem.W.Frag → Bool} (h : ex[i]? = some e := by rfl) : e K = true :=
  List.all_eq_true.mp c.m e (List.mem_of_getElem? h)
/-! ### single checks -/
theorem nsg {K : PySem.W.Frag} {x : Str} (c : (Fa.glo x).ok K = true) : PySem.W.nsIn K mainGlobals x = some (some (.ref (ga K x))) := eqO_ok c
theorem nsf {K : PySem.W.Frag} {x : Str} (c : (Fa.free x).ok K = true) : PySem.W.nsIn K mainGlobals x = some none := eqO_ok c
theorem nsi {K : PySem.W.Frag} {x : Str} {i : Int} (c : (Fa.int x i).ok K = true) : ∃ t, PySem.W.nsIn K mainGlobals x = some (some (.int i t)) := by
  have c2 : (match PySem.W.nsIn K mainGlobals x with
    | some (some (.int j _)) => decide (j = i)
    | _ => false) = true := c
  cases e : PySem.W.nsIn K mainGlobals x with
  | none =>
    rw [e] at c2
    cases c2
  | some o =>
    rw [e] at c2
    cases o with
    | none => cases c2
    | some v =>
      cases v with
      | int j t =>
        have ej : j = i := of_decide_eq_true c2
        exact ⟨t, by rw [ej]⟩
      | _ => cases c2
theorem nss {K : PySem.W.Frag} {x z : Str} (c : (Fa.str x z).ok K = true) : ∃ t, PySem.W.nsIn K mainGlobals x = some (some (.str z t)) := by
  have c2 : (match PySem.W.nsIn K mainGlobals x with
    | some (some (.str y _)) => decide (y = z)
    | _ => false) = true := c
  cases e : PySem.W.nsIn K mainGlobals x with
  | none =>
    rw [e] at c2
    cases c2
  | some o =>
    rw [e] at c2
    cases o with
    | none => cases c2
    | some v =>
      cases v with
      | str j t =>
        have ej : j = z := of_decide_eq_true c2
        exact ⟨t, by rw [ej]⟩
      | _ => cases c2
/-- a def without defaults, as the walks want it -/
theorem fun0 {K : PySem.W.Frag} {x qual : Str} {st : Stmt} {f : Addr} (h : ∃ fd, FunD K x qual (defArgs st) (defBody st) (defScope st) [] [] f fd) : ∃ fd, Fun K x qual st f fd := by
  obtain ⟨fd, F⟩ := h
  obtain ⟨oc, od, dV, kV, doc, pm, an, cdv, ct, osl, e, lk, cd, hd, _⟩ := F.ex
  rcases hd with ⟨_, hd⟩ | ⟨hd, _⟩
  · rw [hd] at e
    exact ⟨fd, ⟨oc, od, kV, doc, pm, an, cdv, ct, osl, e, lk, cd⟩, F.kp⟩
  · exact absurd rfl hd
/-- an own class of errors -/
def excB (K : PySem.W.Frag) (C : Addr) : Bool := match K.lookup C with
  | some ⟨.type c, _, .cls cd, sl⟩ => (match cd.mro, sl.toList with
    | .ref D :: bm, [_, _, _, _, some (.builtin n), _] => decide (c = "type") && (decide (D = C) && (decide (n = "ValueError.__new__") && (!cd.hasDel && (cd.hasDict && PySem.HandSPX.refsVE bm))))
    | _, _ => false)
  | _ => false
theorem excB_ok {K : PySem.W.Frag} {C : Addr} (q : excB K C = true) : ∃ nm q N bs bm sn sub ab col dd k0 k1 k2 k3 k5, K.lookup C = some (excClassObj nm q C N bs bm true sn sub ab col dd k0 k1 k2 k3 k5 "ValueError.__new__") ∧ PySem.HandSPX.refsVE bm = true := by
  unfold excB at q
  split at q
  · rename_i c dd cd sl ho
    split at q
    · rename_i D bm k0 k1 k2 k3 n k5 hm hs
      simp only [Bool.and_eq_true, decide_eq_true_eq, Bool.not_eq_true'] at q
      obtain ⟨e1, e2, e3, hdel, hdic, hv⟩ := q
      subst e1 e2 e3
      obtain ⟨nm, bs, mro, ns, qn, hd, sn, sub, ab, col, del⟩ := cd
      dsimp only at hm hdel hdic
      subst hm hdel hdic
      have hsl : sl = #[k0, k1, k2, k3, some (.builtin "ValueError.__new__"), k5] := by
        obtain ⟨l⟩ := sl
        simp only at hs
        rw [hs]
      subst hsl
      exact ⟨nm, qn, ns, bs, bm, sn, sub, ab, col, dd, k0, k1, k2, k3, k5, ho, hv⟩
    · cases q
  · cases q
def oexB (K : PySem.W.Frag) (C : Addr) : Bool := excB K C && (decide (PySem.W.findIn K (.ref C) "__setattr__" = some (some (.builtin "object.__setattr__"))) && (decide (PySem.W.subIn K (.ref C) (.type "BaseException") = some true) && (decide (PySem.W.typeIn K (.ref C) = some (.type "type")) && PySem.W.keepIn K (.ref C))))
theorem oexB_ok {K : PySem.W.Frag} {C : Addr} (q : oexB K C = true) : OexC K C := by
  obtain ⟨h1, h⟩ := Bool.and_eq_true_iff.mp q
  obtain ⟨h2, h⟩ := Bool.and_eq_true_iff.mp h
  obtain ⟨h3, h⟩ := Bool.and_eq_true_iff.mp h
  obtain ⟨h4, h5⟩ := Bool.and_eq_true_iff.mp h
  exact ⟨excB_ok h1, of_decide_eq_true h2, of_decide_eq_true h3, of_decide_eq_true h4, h5⟩
/-- a dict of integers and texts, as it stands -/
def entB : List DictEntry → List (Int × Str) → Bool
  | [], [] => true
  | ⟨h, .int i _, .str s _⟩ :: r, (j, z) :: q => decide (h = j) && (decide (i = j) && (decide (s = z) && entB r q))
  | _, _ => false
theorem entB_nil {es : List DictEntry} (h : entB es [] = true) : es = [] := by
  cases es with
  | nil => rfl
  | cons e r =>
    obtain ⟨hh, k, v⟩ := e
    cases k <;> cases v <;> cases h
theorem entB_cons {es : List DictEntry} {j : Int} {z : Str} {q : List (Int × Str)} (h : entB es ((j, z) :: q) = true) : ∃ t u r, es = ⟨j, .int j t, .str z u⟩ :: r ∧ entB r q = true := by
  cases es with
  | nil => cases h
  | cons e r =>
    obtain ⟨hh, k, v⟩ := e
    cases k with
    | int i t =>
      cases v with
      | str s u =>
        obtain ⟨h1, g1⟩ := Bool.and_eq_true_iff.mp (show (decide (hh = j) && (decide (i = j) && (decide (s = z) && entB r q))) = true from h)
        obtain ⟨h2, g2⟩ := Bool.and_eq_true_iff.mp g1
        obtain ⟨h3, g3⟩ := Bool.and_eq_true_iff.mp g2
        have e1 := of_decide_eq_true h1
        have e2 := of_decide_eq_true h2
        have e3 := of_decide_eq_true h3
        subst e1 e2 e3
        exact ⟨t, u, r, rfl, g3⟩
      | _ => cases h
    | _ => cases v <;> cases h
def dicB (K : PySem.W.Frag) (a : Addr) (l : List (Int × Str)) : Bool := match K.lookup a with
  | some ⟨.type c, none, .dict es _, sl⟩ => decide (c = "dict") && (sl.isEmpty && entB es.toList l)
  | _ => false
theorem dicB_ok {K : PySem.W.Frag} {a : Addr} {l : List (Int × Str)} (h : dicB K a l = true) : ∃ es n, K.lookup a = some ⟨.type "dict", none, .dict es n, #[]⟩ ∧ entB es.toList l = true := by
  unfold dicB at h
  split at h
  · rename_i c es n sl ho
    obtain ⟨h1, h⟩ := Bool.and_eq_true_iff.mp h
    obtain ⟨h2, h⟩ := Bool.and_eq_true_iff.mp h
    have e1 := of_decide_eq_true h1
    subst e1
    have e2 := Array.isEmpty_iff.mp h2
    subst e2
    exact ⟨es, n, ho, h⟩
  · cases h
theorem dic5_ok {K : PySem.W.Frag} {a : Addr} {j1 j2 j3 j4 j5 : Int} {z1 z2 z3 z4 z5 : Str} (h : dicB K a [(j1, z1), (j2, z2), (j3, z3), (j4, z4), (j5, z5)] = true) :
    ∃ t1 t2 t3 t4 t5 u1 u2 u3 u4 u5 n, K.lookup a = some ⟨.type "dict", none, .dict #[⟨j1, .int j1 t1, .str z1 u1⟩, ⟨j2, .int j2 t2, .str z2 u2⟩, ⟨j3, .int j3 t3, .str z3 u3⟩, ⟨j4, .int j4 t4, .str z4 u4⟩, ⟨j5, .int j5 t5, .str z5 u5⟩] n, #[]⟩ := by
  obtain ⟨es, n, ho, h⟩ := dicB_ok h
  obtain ⟨t1, u1, r1, e1, h⟩ := entB_cons h
  obtain ⟨t2, u2, r2, e2, h⟩ := entB_cons h
  obtain ⟨t3, u3, r3, e3, h⟩ := entB_cons h
  obtain ⟨t4, u4, r4, e4, h⟩ := entB_cons h
  obtain ⟨t5, u5, r5, e5, h⟩ := entB_cons h
  have e6 := entB_nil h
  subst e6 e5 e4 e3 e2
  obtain ⟨es⟩ := es
  have e1' : es = _ := e1
  subst e1'
  exact ⟨t1, t2, t3, t4, t5, u1, u2, u3, u4, u5, n, ho⟩
end HdK

set_option Elab.async false
set_option linter.all false
set_option maxRecDepth 100000
set_option maxHeartbeats 8000000
/-! The top by one run of the kernel, with the checks that the facts want. -/
namespace HeadS
open PySem PySem.Spec PyProof.Rows L2 He
abbrev R : PySem.W.OpenRow := PySem.W.OpenLaw.row PySem.Challenge.rw_nestfile_k75_paths_as_texts
def tp (i : Nat) : Stmt := PySem.Challenge.pw_nestfile_k75_paths_as_texts.main.body.getD i (.Pass ⟨0, 0, 0, 0⟩)
def nms0' : List PySem.Str := [("_wall" : PySem.Str), ("NestError" : PySem.Str), ("BadText" : PySem.Str), ("FIGURES" : PySem.Str), ("MOST_FIGURES" : PySem.Str), ("in_quotes" : PySem.Str), ("path_text" : PySem.Str), ("Scanner" : PySem.Str), ("read_path" : PySem.Str), ("_law_source" : PySem.Str), ("_law_draw" : PySem.Str), ("_law_pick" : PySem.Str), ("_law_key" : PySem.Str), ("_law_way" : PySem.Str), ("_law_written" : PySem.Str), ("_law_key_end" : PySem.Str), ("_law_place_end" : PySem.Str), ("_law_due" : PySem.Str), ("_law_said" : PySem.Str), ("_law_bent" : PySem.Str), ("_law_right" : PySem.Str)]
def nms : List PySem.Str := nms0'
def fa0' : List He.Fa := [.glo "BadText", .glo "Scanner", .glo "NestError", .glo "in_quotes", .glo "path_text", .glo "read_path", .glo "_law_source", .glo "_law_draw", .glo "_law_pick", .glo "_law_key", .glo "_law_way", .glo "_law_written", .glo "_law_key_end", .glo "_law_place_end", .glo "_law_due", .glo "_law_said", .glo "_law_bent", .glo "_law_right", .glo "law", .free "len", .free "isinstance", .free "str", .free "int", .free "abs", .free "range", .free "list", .free "tuple", .free "min", .free "repr", .int "MOST_FIGURES" 20]
def fa1' : List He.Fa := [.str "FIGURES" "0123456789"]
def fa : List He.Fa := fa0' ++ fa1'
def d0 : He.DefD := ⟨("BadText", some "__init__"), "__init__", "BadText.__init__", defArgs (inClass (tp 3) 0), defBody (inClass (tp 3) 0), defScope (inClass (tp 3) 0), [], []⟩
def d1 : He.DefD := ⟨("in_quotes", none), "in_quotes", "in_quotes", defArgs (tp 7), defBody (tp 7), defScope (tp 7), [], []⟩
def d2 : He.DefD := ⟨("path_text", none), "path_text", "path_text", defArgs (tp 8), defBody (tp 8), defScope (tp 8), [], []⟩
def d3 : He.DefD := ⟨("Scanner", some "__init__"), "__init__", "Scanner.__init__", defArgs (inClass (tp 9) 0), defBody (inClass (tp 9) 0), defScope (inClass (tp 9) 0), [], []⟩
def d4 : He.DefD := ⟨("Scanner", some "sign"), "sign", "Scanner.sign", defArgs (inClass (tp 9) 1), defBody (inClass (tp 9) 1), defScope (inClass (tp 9) 1), [], []⟩
def d5 : He.DefD := ⟨("Scanner", some "is_at"), "is_at", "Scanner.is_at", defArgs (inClass (tp 9) 2), defBody (inClass (tp 9) 2), defScope (inClass (tp 9) 2), [], []⟩
def d6 : He.DefD := ⟨("Scanner", some "refuse"), "refuse", "Scanner.refuse", defArgs (inClass (tp 9) 3), defBody (inClass (tp 9) 3), defScope (inClass (tp 9) 3), [], []⟩
def d7 : He.DefD := ⟨("Scanner", some "expect"), "expect", "Scanner.expect", defArgs (inClass (tp 9) 4), defBody (inClass (tp 9) 4), defScope (inClass (tp 9) 4), [], []⟩
def d8 : He.DefD := ⟨("Scanner", some "finish"), "finish", "Scanner.finish", defArgs (inClass (tp 9) 5), defBody (inClass (tp 9) 5), defScope (inClass (tp 9) 5), [], []⟩
def d9 : He.DefD := ⟨("Scanner", some "figures_here"), "figures_here", "Scanner.figures_here", defArgs (inClass (tp 9) 6), defBody (inClass (tp 9) 6), defScope (inClass (tp 9) 6), [], []⟩
def d10 : He.DefD := ⟨("Scanner", some "string"), "string", "Scanner.string", defArgs (inClass (tp 9) 13), defBody (inClass (tp 9) 13), defScope (inClass (tp 9) 13), [], []⟩
def d11 : He.DefD := ⟨("read_path", none), "read_path", "read_path", defArgs (tp 10), defBody (tp 10), defScope (tp 10), [], []⟩
def d12 : He.DefD := ⟨("_law_source", none), "_law_source", "_law_source", defArgs (tp 12), defBody (tp 12), defScope (tp 12), [], []⟩
def d13 : He.DefD := ⟨("_law_draw", none), "_law_draw", "_law_draw", defArgs (tp 13), defBody (tp 13), defScope (tp 13), [], []⟩
def d14 : He.DefD := ⟨("_law_pick", none), "_law_pick", "_law_pick", defArgs (tp 14), defBody (tp 14), defScope (tp 14), [], []⟩
def d15 : He.DefD := ⟨("_law_key", none), "_law_key", "_law_key", defArgs (tp 15), defBody (tp 15), defScope (tp 15), [], []⟩
def d16 : He.DefD := ⟨("_law_way", none), "_law_way", "_law_way", defArgs (tp 16), defBody (tp 16), defScope (tp 16), [], []⟩
def d17 : He.DefD := ⟨("_law_written", none), "_law_written", "_law_written", defArgs (tp 17), defBody (tp 17), defScope (tp 17), [], []⟩
def d18 : He.DefD := ⟨("_law_key_end", none), "_law_key_end", "_law_key_end", defArgs (tp 18), defBody (tp 18), defScope (tp 18), [], []⟩
def d19 : He.DefD := ⟨("_law_place_end", none), "_law_place_end", "_law_place_end", defArgs (tp 19), defBody (tp 19), defScope (tp 19), [], []⟩
def d20 : He.DefD := ⟨("_law_due", none), "_law_due", "_law_due", defArgs (tp 20), defBody (tp 20), defScope (tp 20), [], []⟩
def d21 : He.DefD := ⟨("_law_said", none), "_law_said", "_law_said", defArgs (tp 21), defBody (tp 21), defScope (tp 21), [], []⟩
def d22 : He.DefD := ⟨("_law_bent", none), "_law_bent", "_law_bent", defArgs (tp 22), defBody (tp 22), defScope (tp 22), [], []⟩
def d23 : He.DefD := ⟨("_law_right", none), "_law_right", "_law_right", defArgs (tp 23), defBody (tp 23), defScope (tp 23), [], []⟩
def d24 : He.DefD := ⟨("law", none), "law", "law", defArgs (tp 24), defBody (tp 24), defScope (tp 24), [], []⟩
def fn0' : List He.DefD := [d0, d1, d2, d3, d4, d5, d6, d7, d8, d9, d10, d11, d12, d13, d14, d15, d16, d17, d18, d19, d20, d21, d22, d23, d24]
def fn : List He.DefD := fn0'
def ex0' : List (PySem.W.Frag → Bool) := [fun K => HdK.oexB K (He.ga K "BadText"), fun K => xfB K (He.ga K "BadText"), fun K => decide (PySem.W.findIn K (.ref (He.ga K "BadText")) "place" = some none), fun K => PySem.W.isClsIn K (He.ga K "BadText"), fun K => decide (PySem.W.subIn K (.ref (He.ga K "BadText")) (.ref (He.ga K "BadText")) = some true), fun K => PySem.W.makesIn K (He.ga K "Scanner"), fun K => PySem.W.keepIn K (.ref (He.ga K "Scanner")), fun K => PySem.W.plainGet K (He.ga K "Scanner") Str.empty, fun K => PySem.W.hasDictIn K (He.ga K "Scanner"), fun K => PySem.W.plainOver K (He.ga K "Scanner"), fun K => decide (PySem.W.findIn K (.ref (He.ga K "Scanner")) "__setattr__" = some (some (.builtin "object.__setattr__"))), fun K => decide (PySem.W.findIn K (.ref (He.ga K "Scanner")) "text" = some none), fun K => decide (PySem.W.findIn K (.ref (He.ga K "Scanner")) "place" = some none), fun K => decide (PySem.W.findIn K (.ref (He.ga K "BadText")) "__init__" = some (some (.ref (He.ma K (He.ga K "BadText") "__init__")))), fun K => decide (PySem.W.typeIn K (.ref (He.ma K (He.ga K "BadText") "__init__")) = some (.type "function")), fun K => decide (PySem.W.findIn K (.ref (He.ga K "Scanner")) "__init__" = some (some (.ref (He.ma K (He.ga K "Scanner") "__init__")))), fun K => PySem.W.isFn K (.ref (He.ma K (He.ga K "Scanner") "__init__")), fun K => decide (PySem.W.findIn K (.ref (He.ga K "Scanner")) "sign" = some (some (.ref (He.ma K (He.ga K "Scanner") "sign")))), fun K => PySem.W.isFn K (.ref (He.ma K (He.ga K "Scanner") "sign")), fun K => decide (PySem.W.findIn K (.ref (He.ga K "Scanner")) "is_at" = some (some (.ref (He.ma K (He.ga K "Scanner") "is_at"))))]
def ex1' : List (PySem.W.Frag → Bool) := [fun K => PySem.W.isFn K (.ref (He.ma K (He.ga K "Scanner") "is_at")), fun K => decide (PySem.W.findIn K (.ref (He.ga K "Scanner")) "refuse" = some (some (.ref (He.ma K (He.ga K "Scanner") "refuse")))), fun K => PySem.W.isFn K (.ref (He.ma K (He.ga K "Scanner") "refuse")), fun K => decide (PySem.W.findIn K (.ref (He.ga K "Scanner")) "expect" = some (some (.ref (He.ma K (He.ga K "Scanner") "expect")))), fun K => PySem.W.isFn K (.ref (He.ma K (He.ga K "Scanner") "expect")), fun K => decide (PySem.W.findIn K (.ref (He.ga K "Scanner")) "finish" = some (some (.ref (He.ma K (He.ga K "Scanner") "finish")))), fun K => PySem.W.isFn K (.ref (He.ma K (He.ga K "Scanner") "finish")), fun K => decide (PySem.W.findIn K (.ref (He.ga K "Scanner")) "figures_here" = some (some (.ref (He.ma K (He.ga K "Scanner") "figures_here")))), fun K => PySem.W.isFn K (.ref (He.ma K (He.ga K "Scanner") "figures_here")), fun K => decide (PySem.W.findIn K (.ref (He.ga K "Scanner")) "string" = some (some (.ref (He.ma K (He.ga K "Scanner") "string")))), fun K => PySem.W.isFn K (.ref (He.ma K (He.ga K "Scanner") "string"))]
def ex : List (PySem.W.Frag → Bool) := ex0' ++ ex1'
abbrev hk : PySem.W.Hook := HdK.hookK fa fn ex
def ob (s : PySem.W.SharedT) : HdK.AlK := HdK.obsKG fa fn ex (HandSHeadRun.getT s)
theorem ob_eq (s : PySem.W.SharedT) : ob s = hk.obs s.abs := HdK.obsKG_eq (HandSHeadRun.getT_eq s)
theorem runF (w : World) : HandSHeadRun.RunEq R (PySem.W.view R.prog [24]) hk ob 20000 nms (w.withFollow "special-get-raises" false) := by
  intro os
  kernel_rfl
theorem runT (w : World) : HandSHeadRun.RunEq R (PySem.W.view R.prog [24]) hk ob 20000 nms (w.withFollow "special-get-raises" true) := by
  intro os
  kernel_rfl
theorem run (w : World) : HandSHeadRun.RunEq R (PySem.W.view R.prog [24]) hk ob 20000 nms w :=
  PySem.W.byRow2 "special-get-raises" (P := fun w => HandSHeadRun.RunEq R (PySem.W.view R.prog [24]) hk ob 20000 nms w) runF runT w
end HeadS

set_option Elab.async false
set_option linter.all false
set_option maxRecDepth 100000
set_option maxHeartbeats 4000000
/-! Rules of my own beside the hand layer: pairs handed out by enumerate and zip over tuples and texts; a text's slice with a step; a try with several clauses, some with a name. -/
namespace G58
open PySem PySem.Spec PyProof.Rows L2

/-! ### new pairs, handed out one by one -/
/-- n pairs while g stands; the i-th one is told by yv -/
def ItP (n : Nat) (g : Hp → Prop) (yv : Nat → V → V → Prop) : It where
  go := fun i H => i < n ∧ g H
  yld := fun i H v H' => ∃ T x y, v = .ref T ∧ H T = none ∧ H' = upd H T (.tup [x, y]) ∧ yv i x y
  stop := fun i H => i = n ∧ g H
theorem walkP {n : Nat} {g : Hp → Prop} {yv : Nat → V → V → Prop} :
    Walk (ItP n g yv) n g (fun i H v H' => ∃ T x y, v = .ref T ∧ H T = none ∧ H' = upd H T (.tup [x, y]) ∧ yv i x y) :=
  ⟨fun _ _ hi q => ⟨hi, q⟩, fun _ q => ⟨rfl, q⟩, fun _ _ _ _ _ _ y => y⟩
/-- what an iterator of pairs owes in a context -/
def PairsIn (X : Cx) (tg : Expr) (I : Addr) (fpA : List Addr) (n : Nat) (yv : Nat → V → V → Prop) (tn : Nat → Heap → Prop) (h0 : Heap) : Prop :=
  ∃ (fp wr : List Addr) (Y : Nat → Heap → Value → Heap → Prop) (St : Nat → Heap → Prop),
    GoesN X.prog X.w X.A tg I fp wr n Y St ∧ (∀ b ∈ wr, b ∈ fpA) ∧ (∀ i, tn i h0 → St i h0) ∧ (∀ i h, St i h → tn i h) ∧
    ∀ i ha v hb, Y i ha v hb → ∃ (T : Addr) (x y : V) (u1 u2 : Value), v = .ref T ∧ ha.objs.size ≤ T ∧ RelV x u1 ∧ RelV y u2 ∧ yv i x y ∧ hb.IsTuple T #[u1, u2]
theorem turnP {P : Program} {w : World} {K : PySem.W.Frag} {tg : Expr} {I : Addr} {fpA : List Addr} {n : Nat} {g : Hp → Prop} {yv : Nat → V → V → Prop} {tn : Nat → Heap → Prop}
    (mem : I ∈ fpA) (obj : ∀ i h, tn i h → ∀ b ∈ fpA, ∃ o, h.get? b = some o ∧ ∀ v, o.data ≠ .cell v)
    (keep : ∀ i h h', tn i h → (∀ b ∈ fpA, ∀ o, h.get? b = some o → h'.get? b = some o) → tn i h')
    (mk : ∀ (X : Cx), X.prog = P → X.w = w → X.K = K → X.calm = true → ∀ (i : Nat) (pins : List (Addr × Obj)) (s : Shared) (σ : L2.St) (H : Hp), Inv X pins σ H s → g H → tn i s.heap → PairsIn X tg I fpA n yv tn s.heap)
    (self : ∀ (A : Around) (i : Nat) (s : Shared) (Q : Value → Shared → Prop) (E : Value → Shared → Prop), tn i s.heap → Q (.ref I) s → wpAny (model P w) A (pyIter (.ref I)) Q E s) :
    Turn P w K tg (ItP n g yv) fpA I tn where
  mem := mem
  obj := obj
  keep := keep
  item := by
    intro X hP hw hK hc i pins s σ H E Iv hf st hg
    obtain ⟨fp, wr, Y, St, W, hwr, toS, ofS, hy⟩ := mk X hP hw hK hc i pins s σ H Iv hg.2 st
    subst hP hw hK
    refine W.goes i s _ E hg.1 (toS i st) fun v h' tk hY st' hk _ => ?_
    obtain ⟨T, x, y, u1, u2, ev, hT, r1, r2, hyv, htup⟩ := hy i _ v h' hY
    have new : ObjOk X.prog X.w (upd H T (.tup [x, y])) h' T (.tup [x, y]) := ⟨by show 2 ≤ sizeLine; decide, [u1, u2], .cons r1 (.cons r2 .nil), htup⟩
    have fpo : ∀ b ∈ wr, FpOk X pins H b := fun b hb => hf b (hwr b hb)
    refine ⟨.ref T, _, Iv.turnedNew (ch := wr) hk fpo hT new, ev, ⟨T, x, y, rfl, Iv.hok.fresh hT, rfl, hyv⟩, ofS _ _ st', fun b hb => ?_⟩
    obtain ⟨o, ho, _⟩ := obj i _ st b hb
    rw [upd_ne (Nat.ne_of_lt (Nat.lt_of_lt_of_le (Heap.lt_size ho) hT))]
    exact (hf b hb).1
  done := by
    intro X hP hw hK hc i pins s σ H E Iv hf st hg
    obtain ⟨fp, wr, Y, St, W, hwr, toS, ofS, hy⟩ := mk X hP hw hK hc i pins s σ H Iv hg.2 st
    subst hP hw hK
    obtain ⟨rfl, _⟩ := hg
    refine W.stops s _ E (toS i st) fun h' tk hk _ => ?_
    exact Iv.turnedL (ch := wr) hk fun b hb => hf b (hwr b hb)
  self := self
theorem pi_or {X : Cx} {tg it : Expr} {w1 w2 : TI} (h1 : PI X tg it w1) (h2 : PI X tg it w2) : PI X tg it (fun σ H R => w1 σ H R ∨ w2 σ H R) :=
  ⟨fun pins s σ H R Iv h => h.elim (h1.run pins s σ H R Iv) (h2.run pins s σ H R Iv)⟩

/-! ### enumerate(v), one argument, any v -/
set_option maxHeartbeats 1000000 in
theorem meets_enum1 {v : Value} {o : Obj} {G : Heap → Prop} (B : Begins v o G) :
    Meets (Builtin.«enumerate.__new__» ⟨[.type "enumerate", v], []⟩) (fun _ R s => G s.heap ∧
      R (.ok (.ret (.ref (s.heap.push o).objs.size))) { s with heap := (s.heap.push o).push { cls := .type "enumerate", data := .fields #[.none, .bool false, .ref s.heap.objs.size, rawInt 0, .none, .none] } }) :=
  .of_wp fun prog w A R s h => by
    obtain ⟨hp, gn, dr, tk, os⟩ := s
    obtain ⟨g1, h⟩ := h
    have hsub := sub_enumerate
    have go : ∀ {A' : Around} {E : Value → Shared → Prop} {Q : Value → Shared → Prop}, Q (.ref hp.objs.size) ⟨hp.push o, gn, dr, tk, os⟩ → wpAny (model prog w) A' (pyIter v) Q E ⟨hp, gn, dr, tk, os⟩ :=
      fun q => B.iter prog w _ _ ⟨hp, gn, dr, tk, os⟩ _ g1 q
    wp_walk using go
    refine wpAny_stack_any fun st => wpAny_pure ?_
    split
    · rename_i c _ _ _ _ _
      cases (c == Value.type "enumerate")
      all_goals
        wp_walk using go
        exact ⟨_, rfl, h⟩
    · wp_walk using go
      exact ⟨_, rfl, h⟩
theorem call_enum1 {prog : Program} {w : World} {A : Around} {E : Value → Shared → Prop} {s : Shared} {v : Value} {o : Obj} {G : Heap → Prop} {Q : Value → Shared → Prop} (B : Begins v o G) (g1 : G s.heap)
    (h : ∀ h', IsEnum h' (s.heap.objs.size + 1) s.heap.objs.size 0 .none → h'.get? s.heap.objs.size = some o → (∀ b u, s.heap.get? b = some u → h'.get? b = some u) → Q (.ref (s.heap.objs.size + 1)) { s with heap := h' }) :
    wpAny (model prog w) A (call (.type "enumerate") [v]) Q E s := by
  refine callType_new F.called_enumerate (by decide) (F.typeCall_enumerate_1 _) (F.newCall_enumerate_1 _) (fun obj => F.args_object_init_2 obj _) F.entry_enumerate_new (meets_enum1 B) ⟨g1, ?_⟩
  have hz : (s.heap.push o).objs.size = s.heap.objs.size + 1 := Heap.size_push ..
  show _ ∧ _
  rw [hz]
  have he : IsEnum ((s.heap.push o).push { cls := .type "enumerate", data := .fields #[.none, .bool false, .ref s.heap.objs.size, rawInt 0, .none, .none] }) (s.heap.objs.size + 1) s.heap.objs.size 0 .none := by
    have q := Heap.get?_push_size (s.heap.push o) (o := { cls := .type "enumerate", data := .fields #[.none, .bool false, .ref s.heap.objs.size, rawInt 0, .none, .none] }) rfl
    rw [hz] at q
    exact q
  exact ⟨⟨_, he, rfl⟩, h _ he (Heap.get?_push_of_some _ (Heap.get?_push_size _ B.free)) fun b u x => Heap.get?_push_of_some _ (Heap.get?_push_of_some _ x)⟩

/-! ### enumerate over a tuple -/
theorem turn_enumT {P : Program} {w : World} {K : PySem.W.Frag} {elts : List Expr} {kk : Nat} {tpos : Pos} {xs : List V} (a e it : Addr) :
    Turn P w K (.Tuple elts kk tpos) (ItP xs.length (fun H => SqT K H a xs) (fun i x y => x = .int (i : Nat) ∧ xs[i]? = some y)) [e, it] e
      (fun i h => (∃ old, IsEnum h e it (0 + (i : Int)) old) ∧ h.IsTupleIter it a i ∧ e ≠ it) := by
  refine turnP (by simp) (fun i h st b hb => ?_) (fun i h h' st k => ?_) (fun X hP hw hK hc i pins s σ H Iv hq st => ?_) (fun A i s Q E st q => ?_)
  · obtain ⟨⟨old, he⟩, ⟨o, ho, hc, hd⟩, _⟩ := st
    have z : b = e ∨ b = it := by simpa using hb
    rcases z with z | z
    · rw [z]; exact ⟨_, he, fun v q => nomatch q⟩
    · rw [z]; exact ⟨o, ho, fun v q => by rw [hd] at q; cases q⟩
  · obtain ⟨⟨old, he⟩, hi, hne⟩ := st
    exact ⟨⟨old, k e (by simp) _ he⟩, hi.at fun o q => k it (by simp) o q, hne⟩
  · subst hP hw hK
    obtain ⟨⟨old, he⟩, hit, hne⟩ := st
    obtain ⟨its, rv, p, hz⟩ := Iv.tuple hq
    have pT : s.heap.IsTuple a its.toArray := p
    have hlen := rv.length
    have n1 : a ≠ it := fun z => by
      obtain ⟨o, ho, hcl, _⟩ := hit
      obtain ⟨o', ho', hcl', _⟩ := pT
      rw [z, ho] at ho'
      cases ho'
      rw [hcl] at hcl'
      exact absurd (Value.type.inj hcl') (by decide)
    have n2 : e ≠ a := fun z => by
      obtain ⟨o', ho', hcl', _⟩ := pT
      have he' : s.heap.get? e = some _ := he
      rw [z, ho'] at he'
      cases he'
      exact absurd (Value.type.inj hcl') (by decide)
    have D : Draws X.prog X.w X.A.in1 it [it, a] its.toArray.size (fun i v => its.toArray[i]? = some v) (fun i h => h.IsTupleIter it a i ∧ h.IsTuple a its.toArray) := Draws.tuple (A := X.A.in1) (show X.A.in1.handled = none from Iv.ok.hd hc) it a n1 its.toArray
    have W := GoesN.enumFrom (elts := elts) (x1 := kk) (pos := tpos) 0 D e hne (fun z => by
      rcases List.mem_cons.mp z with q | q
      · exact hne q
      · exact n2 (List.mem_singleton.mp q)) (by simp)
    have en : its.toArray.size = xs.length := by rw [List.size_toArray]; exact hlen.symm
    rw [en] at W
    refine ⟨_, _, _, _, W, fun b hb => hb, fun j q => ?_, fun j h q => ?_, fun j ha v hb q => ?_⟩
    · exact ⟨q.1, q.2.1, pT⟩
    · exact ⟨q.1, q.2.1, hne⟩
    · obtain ⟨T, t, u, ev, hT, hu, htup⟩ := q
      have hl : j < xs.length := by
        have z := (Array.getElem?_eq_some_iff.mp hu).1
        rw [en] at z
        exact z
      obtain ⟨u', hu', ru⟩ := rv.get (x := xs[j]) (i := j) (by simp [hl])
      have eu : u' = u := by
        have z : its.toArray[j]? = some u' := by simpa using hu'
        rw [z] at hu
        exact Option.some.inj hu
      subst eu
      refine ⟨T, .int (j : Nat), xs[j], .int (0 + (j : Int)) t, u', ev, hT, ⟨t, ?_⟩, ru, ⟨rfl, by simp [hl]⟩, htup⟩
      rw [Int.zero_add]
  · obtain ⟨⟨old, he⟩, _⟩ := st
    exact wpAny_pyIter_enum he q
/-- for i, x in enumerate(t), t a tuple -/
def iEnumT (K : PySem.W.Frag) (ta : TA) : TI := fun σ H R => ta σ H fun vs H1 => ∃ a xs, vs = [.ref a] ∧ SqT K H1 a xs ∧ R (ItP xs.length (fun H => SqT K H a xs) (fun i x y => x = .int (i : Nat) ∧ xs[i]? = some y)) H1
theorem pi_enumT {X : Cx} {e : Expr} {ta : TA} {p pos tpos : Pos} {elts : List Expr} {kk : Nat} (hg : Gl X "enumerate") (hm : X.mg "enumerate" = none) (ha : PA X [e] ta)
    (hs : starEach [e] X.env = [(false, eval e X.env)] := by rfl) : PI X (.Tuple elts kk tpos) (.Call (.Name "enumerate" p) [e] [] pos) (iEnumT X.K ta) := by
  refine ⟨fun pins s σ H R Iv h => ?_⟩
  refine Call_ (ld_blt Iv hg hm boot_enumerate (PyProof.Rows.callWith_type1 (thn (ha.run pos pins s σ H _ Iv h) fun us s1 ⟨vs, H1, I1, r1, q1⟩ => ?_) hs rfl))
  obtain ⟨a, xs, ex, hq, q⟩ := q1
  subst ex
  obtain ⟨u, rfl, ru⟩ := vals1 r1
  obtain rfl : u = Value.ref a := ru
  obtain ⟨its, rv, p', hz⟩ := I1.tuple hq
  have pT : s1.heap.IsTuple a its.toArray := p'
  refine call_enum1 (begins_tuple a its.toArray) pT fun h' he hit hk => wpAny_pyIter_enum he ?_
  have I2 : Inv X pins σ H1 { s1 with heap := h' } := I1.kept (t' := s1.toks) hk
  refine ⟨s1.heap.objs.size + 1, [s1.heap.objs.size + 1, s1.heap.objs.size], _, _, H1, rfl, I2, turn_enumT a (s1.heap.objs.size + 1) s1.heap.objs.size, ⟨⟨.none, he⟩, ⟨_, hit, rfl, rfl⟩, Nat.succ_ne_self _⟩, fun b hb => ?_, q⟩
  have z : b = s1.heap.objs.size + 1 ∨ b = s1.heap.objs.size := by simpa using hb
  have hle : s1.heap.objs.size ≤ b := by
    rcases z with z | z <;> rw [z]
    · exact Nat.le_add_right _ _
    · exact Nat.le_refl _
  exact I1.fpOk hle (I1.hok.fresh hle)

/-! ### enumerate over a text -/
/-- the text of one sign -/
abbrev sgn (c : Nat) : Str := ⟨#[c]⟩
theorem turn_enumS {P : Program} {w : World} {K : PySem.W.Frag} {elts : List Expr} {kk : Nat} {tpos : Pos} (z : Str) (t : Tok) (e it : Addr) :
    Turn P w K (.Tuple elts kk tpos) (ItP z.cps.size (fun _ => True) (fun i x y => x = .int (i : Nat) ∧ ∃ c, z.cps[i]? = some c ∧ y = .str (sgn c))) [e, it] e
      (fun i h => (∃ old, IsEnum h e it (0 + (i : Int)) old) ∧ h.IsStrIter it (strIterType z) z t i ∧ e ≠ it) := by
  refine turnP (by simp) (fun i h st b hb => ?_) (fun i h h' st k => ?_) (fun X hP hw hK hc i pins s σ H Iv hq st => ?_) (fun A i s Q E st q => ?_)
  · obtain ⟨⟨old, he⟩, ⟨o, ho, hc, hd⟩, _⟩ := st
    have y : b = e ∨ b = it := by simpa using hb
    rcases y with y | y
    · rw [y]; exact ⟨_, he, fun v q => nomatch q⟩
    · rw [y]; exact ⟨o, ho, fun v q => by rw [hd] at q; cases q⟩
  · obtain ⟨⟨old, he⟩, ⟨o, ho, r⟩, hne⟩ := st
    exact ⟨⟨old, k e (by simp) _ he⟩, ⟨o, k it (by simp) o ho, r⟩, hne⟩
  · subst hP hw hK
    obtain ⟨⟨old, he⟩, hit, hne⟩ := st
    have D := Draws.text (prog := X.prog) (w := X.w) (A := X.A.in1) (Iv.ok.hd hc) it z t
    have W := GoesN.enumFrom (elts := elts) (x1 := kk) (pos := tpos) 0 D e hne (fun y => hne (List.mem_singleton.mp y)) (by simp)
    refine ⟨_, _, _, _, W, fun b hb => hb, fun j q => ⟨q.1, q.2.1⟩, fun j h q => ⟨q.1, q.2, hne⟩, fun j ha v hb q => ?_⟩
    obtain ⟨T, tk, u, ev, hT, ⟨c, tc, hc', rfl⟩, htup⟩ := q
    refine ⟨T, .int (j : Nat), .str (sgn c), .int (0 + (j : Int)) tk, .str ⟨#[c]⟩ tc, ev, hT, ⟨tk, ?_⟩, ⟨tc, rfl⟩, ⟨rfl, c, hc', rfl⟩, htup⟩
    rw [Int.zero_add]
  · obtain ⟨⟨old, he⟩, _⟩ := st
    exact wpAny_pyIter_enum he q
def iEnumS (ta : TA) : TI := fun σ H R => ta σ H fun vs H1 => ∃ z : Str, vs = [.str z] ∧ R (ItP z.cps.size (fun _ => True) (fun i x y => x = .int (i : Nat) ∧ ∃ c, z.cps[i]? = some c ∧ y = .str (sgn c))) H1
theorem pi_enumS {X : Cx} {e : Expr} {ta : TA} {p pos tpos : Pos} {elts : List Expr} {kk : Nat} (hg : Gl X "enumerate") (hm : X.mg "enumerate" = none) (ha : PA X [e] ta)
    (hs : starEach [e] X.env = [(false, eval e X.env)] := by rfl) : PI X (.Tuple elts kk tpos) (.Call (.Name "enumerate" p) [e] [] pos) (iEnumS ta) := by
  refine ⟨fun pins s σ H R Iv h => ?_⟩
  refine Call_ (ld_blt Iv hg hm boot_enumerate (PyProof.Rows.callWith_type1 (thn (ha.run pos pins s σ H _ Iv h) fun us s1 ⟨vs, H1, I1, r1, q1⟩ => ?_) hs rfl))
  obtain ⟨z, ex, q⟩ := q1
  subst ex
  obtain ⟨u, rfl, ru⟩ := vals1 r1
  obtain ⟨t, rfl⟩ := ru
  refine call_enum1 (begins_text z t) True.intro fun h' he hit hk => wpAny_pyIter_enum he ?_
  have I2 : Inv X pins σ H1 { s1 with heap := h' } := I1.kept (t' := s1.toks) hk
  refine ⟨s1.heap.objs.size + 1, [s1.heap.objs.size + 1, s1.heap.objs.size], _, _, H1, rfl, I2, turn_enumS z t (s1.heap.objs.size + 1) s1.heap.objs.size, ⟨⟨.none, he⟩, ⟨_, hit, rfl, rfl⟩, Nat.succ_ne_self _⟩, fun b hb => ?_, q⟩
  have y : b = s1.heap.objs.size + 1 ∨ b = s1.heap.objs.size := by simpa using hb
  have hle : s1.heap.objs.size ≤ b := by
    rcases y with y | y <;> rw [y]
    · exact Nat.le_add_right _ _
    · exact Nat.le_refl _
  exact I1.fpOk hle (I1.hok.fresh hle)

/-! ### zip of two texts -/
def zipY (y z : Str) : Nat → V → V → Prop := fun i u v => ∃ c d, y.cps[i]? = some c ∧ z.cps[i]? = some d ∧ u = .str (sgn c) ∧ v = .str (sgn d)
theorem turn_zipS {P : Program} {w : World} {K : PySem.W.Frag} {elts : List Expr} {kk : Nat} {tpos : Pos} (y z : Str) (t1 t2 : Tok) (N : Nat) :
    Turn P w K (.Tuple elts kk tpos) (ItP (min y.cps.size z.cps.size) (fun _ => True) (zipY y z)) [N + 4, N + 2, N + 3, N, N + 1] (N + 4)
      (fun i h => IsZip h (N + 4) (N + 2) (N + 3) .none ∧ IsTupOf2 h (N + 2) (.ref N) (.ref (N + 1)) ∧ (∃ a1 a2, IsTupOf2 h (N + 3) a1 a2) ∧ h.IsStrIter N (strIterType y) y t1 i ∧ h.IsStrIter (N + 1) (strIterType z) z t2 i) := by
  refine turnP (by simp) (fun i h st b hb => ?_) (fun i h h' st k => ?_) (fun X hP hw hK hc i pins s σ H Iv hq st => ?_) (fun A i s Q E st q => wpAny_pyIter_zip st.1 q)
  · obtain ⟨hz, hTI, ⟨a1, a2, hTO⟩, ⟨o1, e1, _, d1⟩, ⟨o2, e2, _, d2⟩⟩ := st
    have m : b = N + 4 ∨ b = N + 2 ∨ b = N + 3 ∨ b = N ∨ b = N + 1 := by simpa using hb
    rcases m with m | m | m | m | m <;> rw [m]
    · exact ⟨_, hz, fun v q => nomatch q⟩
    · exact ⟨_, hTI, fun v q => nomatch q⟩
    · exact ⟨_, hTO, fun v q => nomatch q⟩
    · exact ⟨o1, e1, fun v q => by rw [d1] at q; cases q⟩
    · exact ⟨o2, e2, fun v q => by rw [d2] at q; cases q⟩
  · obtain ⟨hz, hTI, ⟨a1, a2, hTO⟩, ⟨o1, e1, r1⟩, ⟨o2, e2, r2⟩⟩ := st
    exact ⟨k _ (by simp) _ hz, k _ (by simp) _ hTI, ⟨a1, a2, k _ (by simp) _ hTO⟩, ⟨o1, k _ (by simp) _ e1, r1⟩, ⟨o2, k _ (by simp) _ e2, r2⟩⟩
  · subst hP hw hK
    have D1 := Draws.text (prog := X.prog) (w := X.w) (A := X.A.in1) (Iv.ok.hd hc) N y t1
    have D2 := Draws.text (prog := X.prog) (w := X.w) (A := X.A.in1) (Iv.ok.hd hc) (N + 1) z t2
    have S : ZipSep2 (N + 4) (N + 2) (N + 3) N (N + 1) [N] [N + 1] := zip_sep2 (fp1 := []) (fp2 := []) (fun b hb => nomatch hb) (fun b hb => nomatch hb)
    have W := GoesN.zip2 (elts := elts) (x1 := kk) (pos := tpos) S D1 D2
    refine ⟨_, _, _, _, W, fun b hb => ?_, fun j q => q, fun j h q => q, fun j ha v hb q => ?_⟩
    · have m : b = N + 4 ∨ b = N + 3 ∨ b = N ∨ b = N + 1 := by simpa using hb
      rcases m with m | m | m | m <;> simp [m]
    · obtain ⟨T, u, u', ev, hT, ⟨c, tc, hc1, rfl⟩, ⟨d, td, hd1, rfl⟩, htup⟩ := q
      exact ⟨T, .str (sgn c), .str (sgn d), .str ⟨#[c]⟩ tc, .str ⟨#[d]⟩ td, ev, hT, ⟨tc, rfl⟩, ⟨td, rfl⟩, ⟨c, d, hc1, hd1, rfl, rfl⟩, htup⟩
def iZipS (ta : TA) : TI := fun σ H R => ta σ H fun vs H1 => ∃ y z : Str, vs = [.str y, .str z] ∧ R (ItP (min y.cps.size z.cps.size) (fun _ => True) (zipY y z)) H1
theorem pi_zipS {X : Cx} {e e2 : Expr} {ta : TA} {p pos tpos : Pos} {elts : List Expr} {kk : Nat} (hg : Gl X "zip") (hm : X.mg "zip" = none) (ha : PA X [e, e2] ta)
    (hs : starEach [e, e2] X.env = (false, eval e X.env) :: starEach [e2] X.env := by rfl) (hpl : (backTo pos (starEach [e2] X.env)).any (·.1) = false := by rfl) :
    PI X (.Tuple elts kk tpos) (.Call (.Name "zip" p) [e, e2] [] pos) (iZipS ta) := by
  refine ⟨fun pins s σ H R Iv h => ?_⟩
  refine Call_ (ld_blt Iv hg hm PyProof.Rows.boot_zip (PyProof.Rows.callWith_type1 (thn (ha.run pos pins s σ H _ Iv h) fun us s1 ⟨vs, H1, I1, r1, q1⟩ => ?_) hs hpl))
  obtain ⟨y, z, ex, q⟩ := q1
  subst ex
  obtain ⟨u1, u2, rfl, ru1, ru2⟩ := vals2 r1
  obtain ⟨t1, rfl⟩ := ru1
  obtain ⟨t2, rfl⟩ := ru2
  refine zip_begins2 (begins_text y t1) (begins_text z t2) True.intro True.intro fun h' hz hTI hTO h1 h2 _ hk => wpAny_pyIter_zip hz ?_
  have I2 : Inv X pins σ H1 { s1 with heap := h' } := I1.kept (t' := s1.toks) hk
  refine ⟨s1.heap.objs.size + 4, [s1.heap.objs.size + 4, s1.heap.objs.size + 2, s1.heap.objs.size + 3, s1.heap.objs.size, s1.heap.objs.size + 1], _, _, H1, rfl, I2, turn_zipS y z t1 t2 s1.heap.objs.size,
    ⟨hz, hTI, ⟨_, _, hTO⟩, ⟨_, h1, rfl, rfl⟩, ⟨_, h2, rfl, rfl⟩⟩, fun b hb => ?_, q⟩
  have m : b = s1.heap.objs.size + 4 ∨ b = s1.heap.objs.size + 2 ∨ b = s1.heap.objs.size + 3 ∨ b = s1.heap.objs.size ∨ b = s1.heap.objs.size + 1 := by simpa using hb
  have hle : s1.heap.objs.size ≤ b := by
    rcases m with m | m | m | m | m <;> rw [m] <;> first | exact Nat.le_refl _ | exact Nat.le_add_right _ _
  exact I1.fpOk hle (I1.hok.fresh hle)

/-! ### a text's slice with a step -/
def stepS (z : Str) (lo hi : Option Int) (k : Int) : Str := ⟨((Builtin.Str.strSliceIndices lo hi k z.length).filterMap (z.cps[·]?)).toArray⟩
def tStepS (te : TE) (tl th ts : TO) : TE := fun σ H Q => te σ H fun x H1 => tl σ H1 fun l H2 => th σ H2 fun u H3 => ts σ H3 fun st H4 =>
  ∃ (z : Str) (k : Int), x = .str z ∧ st = some k ∧ k ≠ 0 ∧ k ≠ 1 ∧ (stepS z l u k).length ≤ sizeLine ∧ Q (.str (stepS z l u k)) H4
theorem pe_stepS {X : Cx} {e st : Expr} {lo hi : Option Expr} {te : TE} {tl th ts : TO} {p2 pos : Pos} (he : PE X e te) (hl : PO X lo tl) (hu : PO X hi th) (hst : PO X (some st) ts) :
    PE X (.Subscript e (.Slice lo hi (some st) p2) pos) (tStepS te tl th ts) := by
  refine ⟨fun pins s σ H Q Iv h => ?_⟩
  refine Subscript_ (thn (he.run pins s σ H _ Iv h) fun v s1 ⟨x, H1, I1, r1, q1⟩ => ?_)
  refine wpAny_Slice (thn (hl.run pins s1 σ H1 _ I1 q1) fun vl s2 ⟨l, H2, I2, pl, q2⟩ => thn (hu.run pins s2 σ H2 _ I2 q2) fun vu s3 ⟨u, H3, I3, pu, q3⟩ =>
    thn (hst.run pins s3 σ H3 _ I3 q3) fun vs s4 ⟨o, H4, I4, ps, z, k, ex, eo, k0, k1, hsz, q⟩ => ?_)
  subst ex eo
  obtain ⟨t, rfl⟩ := r1
  obtain ⟨l', rfl, rfl⟩ := IsPart.raw pl
  obtain ⟨u', rfl, rfl⟩ := IsPart.raw pu
  cases ps with
  | int _ tk =>
    have I5 : Inv X pins σ H4 { s4 with heap := s4.heap.push { cls := .type "slice", data := .fields #[partValue l', partValue u', .int k tk] } } := I4.kept (t' := s4.toks) fun b ob q => Heap.get?_push_of_some _ q
    show wpAny (model X.prog X.w) X.A (subscriptTail e (.Slice lo hi (some st) p2) (.str z t) (.ref s4.heap.objs.size)) (EP X pins σ Q) X.xe { s4 with heap := s4.heap.push { cls := .type "slice", data := .fields #[partValue l', partValue u', .int k tk] } }
    refine tail_any (ops := [.str z t, .ref s4.heap.objs.size]) (typeIs_str _ _ _) F.slot_str_getitem.lookup ?_ (by with_unfolding_all rfl)
    have hk0 : (((some (k, tk) : Option (Int × Tok)).map (·.1)).getD 1 == 0) = false := by
      show (k == 0) = false
      simpa using k0
    refine wpAny_getItem_str_slice (l := l') (u := u') (st := some (k, tk)) ⟨_, Heap.get?_push_size _ rfl, rfl, rfl⟩ hk0 ?_
    have hk1 : (k == 1) = false := by simpa using k1
    show Made.post (if ((k : Int) == 1 && (Builtin.Str.strSliceIndices (l'.map (·.1)) (u'.map (·.1)) k z.length).length == z.length) = true then Made.val (.str z t)
      else Made.str ⟨((Builtin.Str.strSliceIndices (l'.map (·.1)) (u'.map (·.1)) k z.length).filterMap (z.cps[·]?)).toArray⟩) (EP X pins σ Q) _
    rw [hk1, Bool.false_and, if_neg Bool.false_ne_true]
    exact ⟨hsz, .str _, H4, I5.tok _, ⟨_, rfl⟩, q⟩
end G58

set_option Elab.async false
set_option linter.all false
set_option maxRecDepth 100000
set_option maxHeartbeats 4000000
/-! A try with several clauses, with or without a name. -/
namespace G58
open PySem PySem.Spec PyProof.Rows L2
/-- a clause: its class, the slot of its name if it has one, what its suite reads as -/
structure Clause where
  cls : Value
  slot : Option Nat
  ts : Addr → Value → Option Addr → TS
/-- behind a suite its name is gone -/
def unset (i : Nat) (D : Ends) : Ends :=
  ⟨fun s' H' => D.nx (s'.set i none) H', D.rt, fun s' H' => D.bk (s'.set i none) H', fun s' H' => D.ct (s'.set i none) H'⟩
def Clause.does (cl : Clause) (D : Ends) (a : Addr) (k : Value) (d : Option Addr) (st : L2.St) (H : Hp) : Prop :=
  match cl.slot with
  | none => cl.ts a k d D st H
  | some i => i < st.length → cl.ts a k d (unset i D) (st.set i (some (.ref a))) H
/-- what the clauses wish, from the first on -/
def wMix (K : PySem.W.Frag) (Wout : WX) (D : Ends) : List Clause → WX
  | [] => Wout
  | cl :: r => fun k d st H => ∃ b, PySem.W.exmOne K k cl.cls = some b ∧ (b = true → ∀ a, H a = none → cl.does D a k d st H) ∧ (b = false → wMix K Wout D r k d st H)
/-- the suite of a clause -/
def SuiteOk (X : Cx) (body : List Stmt) (ts : Addr → Value → Option Addr → TS) : Prop :=
  ∀ (a : Addr) (oe : Obj) (k : Value) (d : Option Addr) (pn : List (Addr × Obj)), Zc k d oe → (∃ vs, oe.data = .fields vs) → PSs (X.suite a ((a, oe) :: pn)) body (ts a k d)
inductive MixOk (X : Cx) : List ExceptHandler → List Clause → Prop
  | nil : MixOk X [] []
  | bare {x : Str} {c : Value} {ts : Addr → Value → Option Addr → TS} {b0 : Stmt} {suite : List Stmt} {np hp : Pos} {hds : List ExceptHandler} {l : List Clause}
      (hc : Names X x c) (hsu : SuiteOk X (b0 :: suite) ts) (r : MixOk X hds l) : MixOk X (.ExceptHandler (some (.Name x np)) none (b0 :: suite) hp :: hds) (⟨c, none, ts⟩ :: l)
  | named {x n : Str} {i : Nat} {c : Value} {ts : Addr → Value → Option Addr → TS} {b0 : Stmt} {suite : List Stmt} {np hp : Pos} {hds : List ExceptHandler} {l : List Clause}
      (hN : X.N.Nodup) (hi : X.N[i]? = some n) (hln : X.env.kindOf n = some .local)
      (hc : Names X x c) (hsu : SuiteOk X (b0 :: suite) ts) (r : MixOk X hds l) : MixOk X (.ExceptHandler (some (.Name x np)) (some n) (b0 :: suite) hp :: hds) (⟨c, some i, ts⟩ :: l)
section
variable {X : Cx} {body : List Stmt} {h0 : ExceptHandler} {hds : List ExceptHandler} {l : List Clause} {pos : Pos} {tb : WX → TS} {Wout : WX}
theorem name_in_suite {a : Addr} {oe : Obj} {pins : List (Addr × Obj)} {st : L2.St} {H : Hp} {s : Shared} {x : Str} {c : Value} {np : Pos} (S : Inv (X.suite a ((a, oe) :: (X.pn ++ pins))) [] st H s) (hc : Names X x c)
    {Q : Value → Shared → Prop} {E : Value → Shared → Prop} (q : Q c s) : wpAny (model X.prog X.w) (X.A.mark (some (.ref a))) (eval (.Name x np) X.env) Q E s := by
  obtain ⟨hg, hdb, hm | ⟨hm, hv, hnn⟩⟩ := hc
  · exact ld_glob (X := X.suite a ((a, oe) :: (X.pn ++ pins))) S hg hm q hdb
  · exact ld_blt (X := X.suite a ((a, oe) :: (X.pn ++ pins))) S hg hm hv q hnn hdb
theorem ps_try_mix (hs : X.stack = X.env :: X.outer) (hf : X.env.frame = some X.env.locals) (tk : Takes X Wout)
    (hb : ∀ (W : WX) (pn : List (Addr × Obj)) (xe : Value → Shared → Prop), Takes (X.tr pn xe) W → PassesOwn (model X.prog X.w) X.A X.env xe → PSs (X.tr pn xe) body (tb W))
    (hh : MixOk X (h0 :: hds) l) : PS X (.Try body (h0 :: hds) [] [] pos) (fun D st H => tb (wMix X.K Wout D l) D st H) := by
  refine ⟨fun pins s st H D Iv h => ?_⟩
  have ok := Iv.ok
  have hfr : X.A.frames = some (X.env :: X.outer) := ok.frames.trans (congrArg some hs)
  refine wpAny_Try_except ?_
  let catcher : Value → Shared → Prop := fun e s1 => wpAny (model X.prog X.w) X.A (noteFrame e X.env) (fun _ s2 => wpAny (model X.prog X.w) X.A (setFlight e none)
    (fun _ s3 => wpAny (model X.prog X.w) X.A (handleBy e X.env (h0 :: hds)) (SP X pins D) X.xe s3) X.xe s2) X.xe s1
  have takes : Takes (X.tr (X.pn ++ pins) catcher) (wMix X.K Wout D l) := by
    intro u s' xx
    obtain ⟨a, B, sI, pins', st', H', k, d, rfl, J', nb, up, sky, na, os, ag, w⟩ := xx
    have J : Inv X pins st' H' sI := J'.ofTry ok
    have sky' : Sky B (X.env :: X.outer) a (Zc k d) X.env.locals s'.heap := by
      have z : Sky B X.stack a (Zc k d) X.env.locals s'.heap := sky
      rw [hs] at z
      exact z
    refine Sky.land Zc.steady hfr hf sky' fun h3 fl3 up3 => ?_
    have J3 : Inv X pins st' H' { s' with heap := h3 } := J.landed nb fl3.1 (up.trans up3) os ag
    obtain ⟨oe3, vs3, he3, hz3, hd3⟩ := fl3.there
    have apart : a ∉ frs (X.env :: X.outer) := fun hm => by
      obtain ⟨_, o', e', hnf⟩ := fl3.2.2.1.mem hm
      rw [he3] at e'
      cases e'
      exact hnf _ hd3
    have nL : a ≠ X.env.locals := fun z => apart (List.mem_filterMap.mpr ⟨X.env, List.mem_cons_self, by rw [hf, z]⟩)
    have nF : a ∉ X.fs := fun hm => by
      obtain ⟨e, he, q⟩ := List.mem_filterMap.mp hm
      exact apart (List.mem_filterMap.mpr ⟨e, List.mem_cons_of_mem _ he, q⟩)
    have S3 := J3.suite he3 hd3 na nL nF
    have ofType : PySem.W.Looks (model X.prog X.w) h3 (typeOf (.ref a)) k := fun A Q E s kk q => wpAny_typeOf_ref (kk _ _ he3) (by rw [hz3.1]; exact q)
    have go : ∀ {hds' : List ExceptHandler} {l' : List Clause}, MixOk X hds' l' → wMix X.K Wout D l' k d st' H' →
        wpAny (model X.prog X.w) X.A (handleBy (.ref a) X.env hds') (SP X pins D) X.xe { s' with heap := h3 } := by
      intro hds' l' hk
      induction hk with
      | nil =>
        intro w
        refine wpAny_handleBy_nil ?_
        obtain ⟨k1, k2, k3, oe, vs, T, oT, ts', he, hz, hd, hv1, hr⟩ := id fl3
        unfold PySem.passOn
        refine wpAny_bind (wpAny_field he hd hv1 ?_)
        rw [if_neg (show ¬ ((Value.ref T == Value.none) = true) from by simp)]
        have fin : wpAny (model X.prog X.w) X.A (setFlight (.ref a) X.env.frame) (fun _ s4 => wpAny (model X.prog X.w) X.A (throw (.ref a) : Sem Flow) (SP X pins D) X.xe s4) X.xe { s' with heap := h3 } := by
          rw [hf]
          refine HandSPX.setFlight_upZ fl3 fun h4 hh4 up4 => wpAny_throw (tk _ _ ?_)
          exact ⟨a, B, sI, pins, st', H', k, d, rfl, J, nb, (up.trans up3).trans up4, .inr (.inr (by rw [hs]; exact hh4)), na, os, ag, w⟩
        first
          | exact wpAny_bind (wpAny_pure (wpAny_bind fin))
          | exact wpAny_bind fin
      | bare hc hsu r ih =>
        intro w
        obtain ⟨b, hb1, hyes, hno⟩ := w
        refine wpAny_handleBy_cons (codeAny_handlers_test ?_) (by intro q; cases q)
        refine name_in_suite S3 hc ((PySem.W.exm_one (M := model X.prog X.w) J3.kIn ofType hb1).here ?_)
        cases b with
        | true =>
          refine codeAny_handlers_suite ?_
          refine HandSPX.lands_againZ fl3 fun h4 fl4 up4 => ?_
          have J4 : Inv X pins st' H' { s' with heap := h4 } := J.landed nb fl4.1 ((up.trans up3).trans up4) os ag
          obtain ⟨oe4, vs4, he4, hz4, hd4⟩ := fl4.there
          have S4 := J4.suite he4 hd4 na nL nF
          refine wpAny_mono ((hsu a oe4 k d (X.pn ++ pins) hz4 ⟨_, hd4⟩).run [] _ _ H' _ S4 (hyes rfl a na)) (fun f s6 hsp => ?_) (fun _ _ z => False.elim z)
          cases f with
          | ret u =>
            obtain ⟨v6, t6, H6, S6, r6, q6⟩ := hsp
            exact ⟨_, _, _, S6.unsuite ok, r6, q6⟩
          | _ =>
            obtain ⟨t6, H6, S6, q6⟩ := hsp
            exact ⟨_, _, S6.unsuite ok, q6⟩
        | false => exact ih (hno rfl)
      | named hN hi hln hc hsu r ih =>
        intro w
        obtain ⟨b, hb1, hyes, hno⟩ := w
        refine wpAny_handleBy_cons (codeAny_handlers_test ?_) (by intro q; cases q)
        refine name_in_suite S3 hc ((PySem.W.exm_one (M := model X.prog X.w) J3.kIn ofType hb1).here ?_)
        cases b with
        | true =>
          refine codeAny_handlers_suite_as ?_
          refine HandSPX.lands_againZ fl3 fun h4 fl4 up4 => ?_
          have J4 : Inv X pins st' H' { s' with heap := h4 } := J.landed nb fl4.1 ((up.trans up3).trans up4) os ag
          obtain ⟨oe4, vs4, he4, hz4, hd4⟩ := fl4.there
          have S4 := J4.suite he4 hd4 na nL nF
          refine store_ok (X := X.suite a ((a, oe4) :: (X.pn ++ pins))) (v := .ref a) S4 hN hi (.inl hln) rfl (fun s5 S5 => ?_) (.inr hln)
          refine wpAny_mono ((hsu a oe4 k d (X.pn ++ pins) hz4 ⟨_, hd4⟩).run [] s5 _ H' _ S5 (hyes rfl a na (by rw [J.len]; exact (List.getElem?_eq_some_iff.mp hi).1))) (fun f s6 hsp => ?_) (fun _ _ z => False.elim z)
          cases f with
          | ret u =>
            obtain ⟨v6, t6, H6, S6, r6, q6⟩ := hsp
            exact gone_ok (S6.unsuite ok) hN hi hln fun s7 J7 => ⟨_, _, _, J7, r6, q6⟩
          | _ =>
            obtain ⟨t6, H6, S6, q6⟩ := hsp
            exact gone_ok (S6.unsuite ok) hN hi hln fun s7 J7 => ⟨_, _, J7, q6⟩
        | false => exact ih (hno rfl)
    exact go hh w
  refine wpAny_mono ((hb (wMix X.K Wout D l) (X.pn ++ pins) catcher takes PassesOwn.looking).run [] s st H D (Iv.toTry _) h) (fun f s1 hsp => ?_) (fun e s1 he => he)
  cases f with
  | next =>
    obtain ⟨t1, H1, J1, q⟩ := hsp
    exact wpAny_execs_nil ⟨t1, H1, J1.ofTry ok, q⟩
  | ret u =>
    obtain ⟨v, t1, H1, J1, r, q⟩ := hsp
    exact ⟨v, t1, H1, J1.ofTry ok, r, q⟩
  | _ =>
    obtain ⟨t1, H1, J1, q⟩ := hsp
    exact ⟨t1, H1, J1.ofTry ok, q⟩
end
end G58

set_option Elab.async false
set_option linter.all false
set_option maxRecDepth 100000
set_option maxHeartbeats 4000000
/-! Dicts whose keys are nested tuples, over the hand layer. -/
namespace G58
open PySem PySem.Spec PyProof.Rows L2
mutual
/-- the value v is the key k -/
def NV (H : Hp) : NestedKey → V → Prop
  | .none, v => v = .non
  | .num i, v => v = .int i
  | .text x, v => v = .str x
  | .tup ks, v => ∃ p xs, v = .ref p ∧ H p = some (.tup xs) ∧ NVs H ks xs
def NVs (H : Hp) : List NestedKey → List V → Prop
  | [], xs => xs = []
  | k :: ks, xs => ∃ x r, xs = x :: r ∧ NV H k x ∧ NVs H ks r
end
mutual
theorem NV.go {H H' : Hp} (e : ∀ b xs, H b = some (.tup xs) → H' b = some (.tup xs)) : ∀ (k : NestedKey) (v : V), NV H k v → NV H' k v
  | .none, v, h => by
    unfold NV at h ⊢
    exact h
  | .num i, v, h => by
    unfold NV at h ⊢
    exact h
  | .text x, v, h => by
    unfold NV at h ⊢
    exact h
  | .tup ks, v, h => by
    unfold NV at h ⊢
    obtain ⟨p, xs, h1, h2, h3⟩ := h
    exact ⟨p, xs, h1, e _ _ h2, NVs.go e ks xs h3⟩
theorem NVs.go {H H' : Hp} (e : ∀ b xs, H b = some (.tup xs) → H' b = some (.tup xs)) : ∀ (ks : List NestedKey) (xs : List V), NVs H ks xs → NVs H' ks xs
  | [], xs, h => by
    unfold NVs at h ⊢
    exact h
  | k :: ks, xs, h => by
    unfold NVs at h ⊢
    obtain ⟨x, r, h1, h2, h3⟩ := h
    exact ⟨x, r, h1, NV.go e k x h2, NVs.go e ks r h3⟩
end
mutual
theorem nv_is {P : Program} {w : World} {H : Hp} {h : Heap} (ok : HOk P w H h) : ∀ (k : NestedKey) (v : V) (u : Value), NV H k v → RelV v u → NestedIs h k u
  | .none, v, u, n, r => by
    unfold NV at n
    subst n
    cases (show u = Value.none from r)
    exact .none
  | .num i, v, u, n, r => by
    unfold NV at n
    subst n
    obtain ⟨t, e⟩ := (show ∃ t, u = Value.int i t from r)
    subst e
    exact .int i t
  | .text x, v, u, n, r => by
    unfold NV at n
    subst n
    obtain ⟨t, e⟩ := (show ∃ t, u = Value.str x t from r)
    subst e
    exact .text x t
  | .tup ks, v, u, n, r => by
    unfold NV at n
    obtain ⟨p, xs, h1, h2, h3⟩ := n
    subst h1
    cases (show u = Value.ref p from r)
    obtain ⟨_, its, rr, o, e1, e2, m, e3⟩ := (show ObjOk P w H h p (.tup xs) from ok p _ h2)
    exact .tup e1 e2 e3 (by simpa using nvs_is ok ks xs its h3 rr)
theorem nvs_is {P : Program} {w : World} {H : Hp} {h : Heap} (ok : HOk P w H h) : ∀ (ks : List NestedKey) (xs : List V) (us : List Value), NVs H ks xs → Vals xs us → NestedAll h ks us
  | [], xs, us, n, r => by
    unfold NVs at n
    subst n
    cases r
    exact .nil
  | k :: ks, xs, us, n, r => by
    unfold NVs at n
    obtain ⟨x, t, h1, h2, h3⟩ := n
    subst h1
    cases r with
    | cons r1 r2 => exact .cons (nv_is ok k x _ h2 r1) (nvs_is ok ks t _ h3 r2)
end
abbrev NEnt := NestedKey × Addr × V
abbrev NT : List NEnt → List (NestedKey × Addr × Value) → Prop := Paired fun p q => p.1 = q.1 ∧ p.2.1 = q.2.1 ∧ RelV p.2.2 q.2.2
/-- a dict with such keys -/
def ND (P : Program) (w : World) (a : Addr) (kvs : List NEnt) : HO := .ext fun h => kvs.length ≤ sizeLine ∧ (a == sysModules) = false ∧ ∃ xs, NT kvs xs ∧
  ∃ o es ep, h.get? a = some o ∧ o.ExactDict ∧ o.data = .dict es ep ∧ es.toList = xs.map (entryOfKey (nestedKind P w)) ∧ (xs.map (·.1)).Nodup
/-- its keys stand -/
def KOk (H : Hp) (kvs : List NEnt) : Prop := ∀ x ∈ kvs, NV H x.1 (.ref x.2.1) ∧ x.1.depth ≤ 8
theorem KOk.go {H H' : Hp} {kvs : List NEnt} (e : ∀ b xs, H b = some (.tup xs) → H' b = some (.tup xs)) (h : KOk H kvs) : KOk H' kvs := fun x hx => ⟨NV.go e _ _ (h x hx).1, (h x hx).2⟩
def valN (kvs : List NEnt) (k : NestedKey) : Option V := (kvs.find? fun x => decide (x.1 = k)).map (·.2.2)
def putN (kvs : List NEnt) (k : NestedKey) (b : Addr) (v : V) : List NEnt := if (valN kvs k).isSome then kvs.map (fun x => if x.1 = k then (x.1, x.2.1, v) else x) else kvs ++ [(k, b, v)]
theorem NT.val {kvs : List NEnt} {xs : List (NestedKey × Addr × Value)} (r : NT kvs xs) (k : NestedKey) : RelO (valN kvs k) ((atKey xs k).map (·.2)) := by
  unfold NT at r
  induction r with
  | nil => exact True.intro
  | @cons p q ps qs h t ih =>
    obtain ⟨h1, _, h2⟩ := h
    by_cases e : p.1 = k
    · have e' : q.1 = k := h1.symm.trans e
      have a1 : atKey (q :: qs) k = some q.2 := by simp [atKey, List.find?_cons, e']
      have a2 : valN (p :: ps) k = some p.2.2 := by simp [valN, List.find?_cons, e]
      rw [a1, a2]
      exact h2
    · have e' : ¬ q.1 = k := fun z => e (h1.trans z)
      have a1 : atKey (q :: qs) k = atKey qs k := by simp [atKey, List.find?_cons, e']
      have a2 : valN (p :: ps) k = valN ps k := by simp [valN, List.find?_cons, e]
      rw [a1, a2]
      exact ih
theorem NT.repl {kvs : List NEnt} {xs : List (NestedKey × Addr × Value)} (r : NT kvs xs) (k : NestedKey) {y : V} {u : Value} (ry : RelV y u) :
    NT (kvs.map fun x => if x.1 = k then (x.1, x.2.1, y) else x) (xs.map (putAt k u)) := by
  unfold NT at r
  induction r with
  | nil => exact .nil
  | @cons p q ps qs h t ih =>
    rw [List.map_cons, List.map_cons]
    refine .cons ?_ ih
    obtain ⟨h1, h2, h3⟩ := h
    unfold putAt
    by_cases e : p.1 = k
    · rw [if_pos e, if_pos (h1.symm.trans e)]
      exact ⟨h1, h2, ry⟩
    · rw [if_neg e, if_neg (fun z => e (h1.trans z))]
      exact ⟨h1, h2, h3⟩
theorem NT.put {kvs : List NEnt} {xs : List (NestedKey × Addr × Value)} (r : NT kvs xs) (k : NestedKey) {b : Addr} {y : V} {u : Value} (ry : RelV y u) : NT (putN kvs k b y) (storedH xs k b u) := by
  have e : (valN kvs k).isSome = (atKey xs k).isSome := by rw [(r.val k).isSome_eq, Option.isSome_map]
  unfold putN storedH
  rw [e]
  by_cases q : (atKey xs k).isSome = true
  · rw [if_pos q, if_pos q]
    exact r.repl k ry
  · rw [if_neg q, if_neg q]
    exact Paired.snoc r ⟨rfl, rfl, ry⟩
theorem length_putN (kvs : List NEnt) (k : NestedKey) (b : Addr) (v : V) : (putN kvs k b v).length ≤ kvs.length + 1 := by
  unfold putN
  split
  · rw [List.length_map]
    omega
  · rw [List.length_append]
    exact Nat.le_refl _
theorem KOk.put {H : Hp} {kvs : List NEnt} {k : NestedKey} {b : Addr} {v : V} (h : KOk H kvs) (hk : NV H k (.ref b)) (hd : k.depth ≤ 8) : KOk H (putN kvs k b v) := by
  unfold putN
  split
  · intro x hx
    obtain ⟨y, hy, rfl⟩ := List.mem_map.mp hx
    by_cases e : y.1 = k
    · rw [if_pos e]
      exact h y hy
    · rw [if_neg e]
      exact h y hy
  · intro x hx
    rcases List.mem_append.mp hx with hx | hx
    · exact h x hx
    · rw [List.mem_singleton.mp hx]
      exact ⟨hk, hd⟩
section
variable {P : Program} {w : World} {H : Hp} {h : Heap} {a : Addr}
theorem nd_of {kvs : List NEnt} (ok : HOk P w H h) (e : H a = some (ND P w a kvs)) (kk : KOk H kvs) : kvs.length ≤ sizeLine ∧ (a == sysModules) = false ∧ ∃ xs, NT kvs xs ∧ h.DictOfH (nestedKind P w) a xs := by
  obtain ⟨⟨z, y, xs, r, o, es, ep, h1, h2, h3, h4, h5⟩, _, _⟩ := (show ObjOk P w H h a (ND P w a kvs) from ok a _ e)
  refine ⟨z, y, xs, r, o, es, ep, h1, h2, h3, h4, fun x hx => ?_, h5⟩
  have all : ∀ {l : List NEnt} {m : List (NestedKey × Addr × Value)}, NT l m → KOk H l → ∀ x ∈ m, (nestedKind P w).is h x.1 x.2.1 := by
    intro l m q
    unfold NT at q
    induction q with
    | nil =>
      intro _ x hx
      exact nomatch hx
    | @cons p q ps qs hq t ih =>
      intro kl x hx
      rcases List.mem_cons.mp hx with e | hx
      · subst e
        obtain ⟨k1, k2⟩ := kl p (List.mem_cons_self ..)
        rw [hq.1, hq.2.1] at k1
        rw [hq.1] at k2
        exact ⟨nv_is ok _ _ _ k1 rfl, k2⟩
      · exact ih (fun y hy => kl y (List.mem_cons_of_mem _ hy)) x hx
  exact all r kk x hx
theorem nd_new {H' : Hp} {h' : Heap} {kvs : List NEnt} {xs : List (NestedKey × Addr × Value)} (z : kvs.length ≤ sizeLine) (hd : (a == sysModules) = false) (rel : NT kvs xs) (dd : h'.DictOfH (nestedKind P w) a xs) : ObjOk P w H' h' a (ND P w a kvs) := by
  obtain ⟨o, es, ep, h1, h2, h3, h4, _, h5⟩ := dd
  refine ⟨⟨z, hd, xs, rel, o, es, ep, h1, h2, h3, h4, h5⟩, ⟨o, h1⟩, fun g1 g2 p hs => ?_⟩
  obtain ⟨z, y, xs, r, o, es, ep, h1, h2, h3, h4, h5⟩ := p
  exact ⟨z, y, xs, r, o, es, ep, hs _ h1, h2, h3, h4, h5⟩
end
/-- what the dict at a holds at the key y -/
def NGet (P : Program) (w : World) (H : Hp) (a : Addr) (y : V) (r : Option V) : Prop := ∃ kvs k b, H a = some (ND P w a kvs) ∧ KOk H kvs ∧ y = .ref b ∧ NV H k (.ref b) ∧ k.depth ≤ 8 ∧ r = valN kvs k
def NPut (P : Program) (w : World) (H : Hp) (a : Addr) (y v : V) (H' : Hp) : Prop := ∃ kvs k b, H a = some (ND P w a kvs) ∧ KOk H kvs ∧ y = .ref b ∧ NV H k (.ref b) ∧ k.depth ≤ 8 ∧ kvs.length < sizeLine ∧ H' = upd H a (ND P w a (putN kvs k b v))
section
variable {X : Cx} {pins : List (Addr × Obj)} {σ : L2.St} {H : Hp} {s : Shared} {a : Addr} {y v : V} {u r : Value} {o : Option V} {A : Around} {E : Value → Shared → Prop}
theorem nk_room (hu : A.units + 64 < cLine) : (nestedKind X.prog X.w).room A.in1 := by
  show A.units + 1 + 8 < cLine
  omega
theorem n_getItem {Q : Value → Shared → Prop} (hu : A.units + 64 < cLine) (Iv : Inv X pins σ H s) (g : NGet X.prog X.w H a y (some v)) (ry : RelV y u) (h : ∀ w' s', Inv X pins σ H s' → RelV v w' → Q w' s') :
    wpAny (model X.prog X.w) A (getItem (.ref a) u) Q E s := by
  obtain ⟨kvs, k, b, e, kk, ey, nk, dk, l⟩ := g
  subst ey
  cases (show u = Value.ref b from ry)
  obtain ⟨z, hd, xs, rel, dd⟩ := nd_of Iv.hok e kk
  obtain ⟨w', hw, rw'⟩ := RelO.some_of (v := v) (o := (atKey xs k).map (·.2)) (by rw [l]; exact rel.val k)
  obtain ⟨p, hp, hp2⟩ := Option.map_eq_some_iff.mp hw
  refine wpAny_getItem_heap (nk_room hu) ⟨nv_is Iv.hok _ _ _ nk rfl, dk⟩ dd hp ?_
  rw [hp2]
  exact h w' _ (Iv.tok _) rw'
theorem n_in {Q : Value → Shared → Prop} (hu : A.units + 64 < cLine) (Iv : Inv X pins σ H s) (g : NGet X.prog X.w H a y o) (ry : RelV y u) (h : ∀ s', Inv X pins σ H s' → Q (.bool o.isSome) s') :
    wpAny (model X.prog X.w) A (compareOp .In u (.ref a)) Q E s := by
  obtain ⟨kvs, k, b, e, kk, ey, nk, dk, l⟩ := g
  subst ey
  cases (show u = Value.ref b from ry)
  obtain ⟨z, hd, xs, rel, dd⟩ := nd_of Iv.hok e kk
  refine wpAny_in_heap (nk_room hu) ⟨nv_is Iv.hok _ _ _ nk rfl, dk⟩ hd dd ?_
  have q := (rel.val k).isSome_eq
  rw [Option.isSome_map] at q
  rw [← q, ← l]
  exact h _ (Iv.tok _)
theorem n_notIn {Q : Value → Shared → Prop} (hu : A.units + 64 < cLine) (Iv : Inv X pins σ H s) (g : NGet X.prog X.w H a y o) (ry : RelV y u) (h : ∀ s', Inv X pins σ H s' → Q (.bool (!o.isSome)) s') :
    wpAny (model X.prog X.w) A (compareOp .NotIn u (.ref a)) Q E s := by
  obtain ⟨kvs, k, b, e, kk, ey, nk, dk, l⟩ := g
  subst ey
  cases (show u = Value.ref b from ry)
  obtain ⟨z, hd, xs, rel, dd⟩ := nd_of Iv.hok e kk
  refine wpAny_notIn_heap (nk_room hu) ⟨nv_is Iv.hok _ _ _ nk rfl, dk⟩ hd dd ?_
  have q := (rel.val k).isSome_eq
  rw [Option.isSome_map] at q
  rw [← q, ← l]
  exact h _ (Iv.tok _)
theorem n_setItem {H' : Hp} {Q : Unit → Shared → Prop} (hu : A.units + 64 < cLine) (Iv : Inv X pins σ H s) (g : NPut X.prog X.w H a y v H') (ry : RelV y u) (rv : RelV v r) (h : ∀ s', Inv X pins σ H' s' → Q () s') :
    wpAny (model X.prog X.w) A (setItem (.ref a) u r) Q E s := by
  obtain ⟨kvs, k, b, e, kk, ey, nk, dk, l, eH⟩ := g
  subst ey eH
  cases (show u = Value.ref b from ry)
  obtain ⟨z, hd, xs, rel, dd⟩ := nd_of Iv.hok e kk
  have hz : xs.length ≤ sizeLine := by
    rw [← Paired.length rel]
    exact z
  have hl : (putN kvs k b v).length ≤ sizeLine := by
    have := length_putN kvs k b v
    omega
  refine wpAny_setItem_heap (hsz := hz) (nk_room hu) ⟨nv_is Iv.hok _ _ _ nk rfl, dk⟩ dd fun h' dd' hs => h _ ?_
  obtain ⟨q, es, ep, hq, _⟩ := id dd'
  exact d_write Iv (by rw [e]; exact True.intro) hs ⟨q, hq⟩ (nd_new hl hd (rel.put k rv) dd')
theorem nd_typeIs (Iv : Inv X pins σ H s) (g : NGet X.prog X.w H a y o) : s.TypeIs (.ref a) "dict" := by
  obtain ⟨kvs, k, b, e, kk, _⟩ := g
  obtain ⟨_, _, xs, _, dd⟩ := nd_of Iv.hok e kk
  exact dd.typeIs
end
def tNGet (P : Program) (w : World) (td ty : TE) : TE := fun σ H Q => td σ H fun x H1 => ty σ H1 fun y H2 => ∃ a v, x = .ref a ∧ NGet P w H2 a y (some v) ∧ Q v H2
def tNIn (P : Program) (w : World) (ty td : TE) : TE := fun σ H Q => ty σ H fun y H1 => td σ H1 fun x H2 => ∃ a o, x = .ref a ∧ NGet P w H2 a y o ∧ Q (.bl o.isSome) H2
def tNNotIn (P : Program) (w : World) (ty td : TE) : TE := fun σ H Q => ty σ H fun y H1 => td σ H1 fun x H2 => ∃ a o, x = .ref a ∧ NGet P w H2 a y o ∧ Q (.bl (!o.isSome)) H2
def sNPut (P : Program) (w : World) (td ty tv : TE) : TS := fun D σ H => tv σ H fun v H1 => td σ H1 fun x H2 => ty σ H2 fun y H3 => ∃ a H4, x = .ref a ∧ NPut P w H3 a y v H4 ∧ D.nx σ H4
def tNNew (P : Program) (w : World) : TE := fun _ H Q => ∀ p, H p = none → Q (.ref p) (upd H p (ND P w p []))
section
variable {X : Cx} {o i e value : Expr} {pos pos' tpos : Pos} {td ty tv : TE}
theorem pe_nget (hu : X.A.units + 64 < cLine) (ho : PE X o td) (hi : PE X i ty) (hs : NoSl i) : PE X (.Subscript o i pos) (tNGet X.prog X.w td ty) := by
  refine ⟨fun pins s σ H Q Iv h => ?_⟩
  refine subD_of PySem.F.slot_dict_getitem.lookup hs (thn (ho.run pins s σ H _ Iv h) fun u s1 ⟨x, H1, I1, rx, q1⟩ => thn (hi.run pins s1 σ H1 _ I1 q1) fun iv s2 ⟨y, H2, I2, ry, a, v, ex, g, q2⟩ => ?_)
  subst ex
  obtain rfl : u = Value.ref a := rx
  exact ⟨nd_typeIs I2 g, n_getItem hu I2 g ry fun w' s3 I3 rw' => ⟨v, H2, I3, rw', q2⟩⟩
theorem pc_nin (hu : X.A.units + 64 < cLine) (hi : PE X i ty) (ho : PE X o td) : PC X .In i o (tNIn X.prog X.w ty td) := by
  refine ⟨fun pins s σ H Q Iv h => ?_⟩
  refine thn (hi.run pins s σ H _ Iv h) fun iv s1 ⟨y, H1, I1, ry, q1⟩ => thn (ho.run pins s1 σ H1 _ I1 q1) fun u s2 ⟨x, H2, I2, rx, a, ov, ex, g, q2⟩ => ?_
  subst ex
  obtain rfl : u = Value.ref a := rx
  exact n_in hu I2 g ry fun s3 I3 => ⟨.bl ov.isSome, H2, I3, rfl, q2⟩
theorem pc_nnotin (hu : X.A.units + 64 < cLine) (hi : PE X i ty) (ho : PE X o td) : PC X .NotIn i o (tNNotIn X.prog X.w ty td) := by
  refine ⟨fun pins s σ H Q Iv h => ?_⟩
  refine thn (hi.run pins s σ H _ Iv h) fun iv s1 ⟨y, H1, I1, ry, q1⟩ => thn (ho.run pins s1 σ H1 _ I1 q1) fun u s2 ⟨x, H2, I2, rx, a, ov, ex, g, q2⟩ => ?_
  subst ex
  obtain rfl : u = Value.ref a := rx
  exact n_notIn hu I2 g ry fun s3 I3 => ⟨.bl (!ov.isSome), H2, I3, rfl, q2⟩
theorem ps_nput (hu : X.A.units + 64 < cLine) (ho : PE X o td) (hi : PE X i ty) (hv : PE X value tv) (hs : swapsWith value (some (.Subscript o i pos')) pos.line X.env = pure false) :
    PS X (.Assign [.Subscript o i pos'] value pos) (sNPut X.prog X.w td ty tv) := by
  refine ⟨fun pins s σ H D Iv h => ?_⟩
  refine wpAny_Assign_Subscript (thn (hv.run pins s σ H _ Iv h) fun r s1 ⟨v, H1, I1, rv, q1⟩ => thn (ho.run pins s1 σ H1 _ I1 q1) fun u s2 ⟨x, H2, I2, rx, q2⟩ => thn (hi.run pins s2 σ H2 _ I2 q2) fun iv s3 ⟨y, H3, I3, ry, a, H4, ex, g, q3⟩ => ?_) hs
  subst ex
  obtain rfl : u = Value.ref a := rx
  exact n_setItem hu I3 g ry rv fun s4 I4 => ⟨σ, H4, I4, q3⟩
theorem pe_nnew : PE X (.Dict [] [] pos) (tNNew X.prog X.w) := ⟨fun pins s σ H Q Iv h =>
  wpAny_Dict_empty ⟨.ref s.heap.objs.size, _, Iv.laid (a := s.heap.objs.size) (o := ND X.prog X.w s.heap.objs.size []) (t' := s.toks) (fun _ _ q => Heap.get?_push_of_some _ q) (Nat.le_refl _)
    (nd_new (Nat.zero_le _) (beq_eq_false_iff_ne.mpr (Ne.symm (Nat.ne_of_lt Iv.big))) .nil (Heap.DictOfH.new s.heap)), rfl, h _ (Iv.hok.fresh (Nat.le_refl _))⟩⟩
end
end G58

set_option Elab.async false
set_option linter.all false
set_option maxRecDepth 100000
set_option maxHeartbeats 4000000
/-! Rings of a graph by two walks, in plain Lean. -/
namespace G58
namespace Scc
inductive Rch (adj : Nat → List Nat) : Nat → Nat → Prop
  | refl (u : Nat) : Rch adj u u
  | step {u v w : Nat} (e : v ∈ adj u) (r : Rch adj v w) : Rch adj u w
theorem Rch.trans {adj : Nat → List Nat} {u v w : Nat} (a : Rch adj u v) (b : Rch adj v w) : Rch adj u w := by
  induction a with
  | refl => exact b
  | step e _ ih => exact .step e (ih b)
theorem Rch.one {adj : Nat → List Nat} {u v : Nat} (e : v ∈ adj u) : Rch adj u v := .step e (.refl v)
/-- u lies on a ring -/
def OnC (adj : Nat → List Nat) (u : Nat) : Prop := ∃ v ∈ adj u, Rch adj v u
abbrev Stk := List (Nat × Bool)
/-- all grey nodes below an item reach it -/
def St (adj : Nat → List Nat) : Stk → Prop
  | [] => True
  | c :: s => (∀ u, (u, true) ∈ s → Rch adj u c.1) ∧ St adj s
/-- the children of a grey node are seen, or wait above it -/
def Dd (adj : Nat → List Nat) (seen : List Nat) : Stk → Stk → Prop
  | _, [] => True
  | ab, c :: s => (c.2 = true → ∀ z ∈ adj c.1, z ∈ seen ∨ (z, false) ∈ ab) ∧ Dd adj seen (ab ++ [c]) s
theorem Dd.mono {adj : Nat → List Nat} {seen seen' : List Nat} (hs : ∀ z ∈ seen, z ∈ seen') : ∀ {s ab ab' : Stk}, (∀ z, (z, false) ∈ ab → z ∈ seen' ∨ (z, false) ∈ ab') → Dd adj seen ab s → Dd adj seen' ab' s
  | [], _, _, _, _ => True.intro
  | c :: s, ab, ab', h, d => by
    refine ⟨fun hc z hz => ?_, Dd.mono (s := s) hs (fun z hz => ?_) d.2⟩
    · rcases d.1 hc z hz with q | q
      · exact .inl (hs z q)
      · exact h z q
    · rcases List.mem_append.mp hz with q | q
      · rcases h z q with q | q
        · exact .inl q
        · exact .inr (List.mem_append.mpr (.inl q))
      · exact .inr (List.mem_append.mpr (.inr q))
theorem Dd.kids {adj : Nat → List Nat} {seen : List Nat} : ∀ {ks ab s : Stk}, (∀ k ∈ ks, k.2 = false) → Dd adj seen (ab ++ ks) s → Dd adj seen ab (ks ++ s)
  | [], ab, s, _, d => by
    rw [List.append_nil] at d
    exact d
  | k :: ks, ab, s, h, d => by
    refine ⟨fun hc => ?_, Dd.kids (fun q hq => h q (List.mem_cons_of_mem _ hq)) ?_⟩
    · rw [h k (List.mem_cons_self ..)] at hc
      cases hc
    · rw [List.append_assoc]
      exact d
theorem St.kids {adj : Nat → List Nat} : ∀ {ks s : Stk}, (∀ k ∈ ks, k.2 = false) → (∀ k ∈ ks, ∀ u, (u, true) ∈ s → Rch adj u k.1) → St adj s → St adj (ks ++ s)
  | [], s, _, _, d => d
  | k :: ks, s, h, g, d => by
    refine ⟨fun u hu => ?_, St.kids (fun q hq => h q (List.mem_cons_of_mem _ hq)) (fun q hq => g q (List.mem_cons_of_mem _ hq)) d⟩
    rcases List.mem_append.mp hu with q | q
    · have z := h _ (List.mem_cons_of_mem _ q)
      cases z
    · exact g k (List.mem_cons_self ..) u q
/-- the order so far: a child that is not yet in it reaches its last one -/
def Ord (adj : Nat → List Nat) (found : List Nat) : Prop := ∀ pre x post, found = pre ++ x :: post → ∀ y ∈ pre ++ [x], ∀ z ∈ adj y, z ∉ pre ++ [x] → Rch adj z x
structure Inv1 (adj : Nat → List Nat) (stk : Stk) (seen found : List Nat) : Prop where
  st : St adj stk
  dd : Dd adj seen [] stk
  fs : ∀ u ∈ found, u ∈ seen
  gs : ∀ u, (u, true) ∈ stk → u ∈ seen
  sn : ∀ u ∈ seen, u ∈ found ∨ (u, true) ∈ stk
  nd : found.Nodup
  gf : ∀ u, (u, true) ∈ stk → u ∉ found
  g1 : ∀ top u bot, stk = top ++ (u, true) :: bot → (u, true) ∉ bot
  ch : ∀ u ∈ found, ∀ z ∈ adj u, z ∈ seen
  od : Ord adj found
theorem Inv1.start {adj : Nat → List Nat} {seen found : List Nat} (h : Inv1 adj [] seen found) (f : Nat) : Inv1 adj [(f, false)] seen found where
  st := ⟨fun u hu => (nomatch hu), True.intro⟩
  dd := ⟨fun q => (by cases q), True.intro⟩
  fs := h.fs
  gs := fun u hu => by
    rcases List.mem_singleton.mp hu with q
    cases q
  sn := fun u hu => by
    rcases h.sn u hu with q | q
    · exact .inl q
    · exact nomatch q
  nd := h.nd
  gf := fun u hu => by
    rcases List.mem_singleton.mp hu with q
    cases q
  g1 := fun top u bot e => by
    cases top with
    | nil => cases e
    | cons t top =>
      have z := (List.cons.inj e).2
      cases top <;> cases z
  ch := h.ch
  od := h.od
theorem Inv1.done {adj : Nat → List Nat} {s : Stk} {u : Nat} {seen found : List Nat} (h : Inv1 adj ((u, true) :: s) seen found) : Inv1 adj s seen (found ++ [u]) := by
  have us : u ∈ seen := h.gs u (List.mem_cons_self ..)
  have uf : u ∉ found := h.gf u (List.mem_cons_self ..)
  have ub : (u, true) ∉ s := h.g1 [] u s rfl
  have kids : ∀ z ∈ adj u, z ∈ seen := fun z hz => by
    rcases h.dd.1 rfl z hz with q | q
    · exact q
    · exact nomatch q
  refine ⟨h.st.2, Dd.mono (fun z q => q) (fun z hz => ?_) h.dd.2, ?_, fun v hv => h.gs v (List.mem_cons_of_mem _ hv), fun v hv => ?_, ?_, fun v hv => ?_, fun top v bot e => ?_, ?_, ?_⟩
  · rcases List.mem_append.mp hz with q | q
    · exact nomatch q
    · have z := List.mem_singleton.mp q
      cases z
  · intro v hv
    rcases List.mem_append.mp hv with q | q
    · exact h.fs v q
    · rw [List.mem_singleton.mp q]
      exact us
  · rcases h.sn v hv with q | q
    · exact .inl (List.mem_append.mpr (.inl q))
    · rcases List.mem_cons.mp q with q | q
      · cases q
        exact .inl (List.mem_append.mpr (.inr (List.mem_singleton.mpr rfl)))
      · exact .inr q
  · rw [List.nodup_append]
    refine ⟨h.nd, List.nodup_cons.mpr ⟨(fun q => nomatch q), List.nodup_nil⟩, fun a ha b hb e => ?_⟩
    rw [List.mem_singleton.mp hb] at e
    rw [e] at ha
    exact uf ha
  · intro q
    rcases List.mem_append.mp q with q | q
    · exact h.gf v (List.mem_cons_of_mem _ hv) q
    · rw [List.mem_singleton.mp q] at hv
      exact ub hv
  · exact h.g1 ((u, true) :: top) v bot (by rw [e]; rfl)
  · intro v hv z hz
    rcases List.mem_append.mp hv with q | q
    · exact h.ch v q z hz
    · rw [List.mem_singleton.mp q] at hz
      exact kids z hz
  · intro pre x post e y hy z hz hn
    rcases List.eq_nil_or_concat post with rfl | ⟨post', w, rfl⟩
    · obtain ⟨e1, e2⟩ := List.append_inj' e rfl
      have e3 : u = x := (List.cons.inj e2).1
      subst e1 e3
      have zs : z ∈ seen := by
        rcases List.mem_append.mp hy with q | q
        · exact h.ch y q z hz
        · rw [List.mem_singleton.mp q] at hz
          exact kids z hz
      rcases h.sn z zs with q | q
      · exact absurd (List.mem_append.mpr (.inl q)) hn
      · rcases List.mem_cons.mp q with q | q
        · cases q
          exact absurd (List.mem_append.mpr (.inr (List.mem_singleton.mpr rfl))) hn
        · exact h.st.1 z q
    · have e' : found ++ [u] = (pre ++ x :: post') ++ [w] := by
        rw [e]
        simp
      obtain ⟨e1, _⟩ := List.append_inj' e' rfl
      exact h.od pre x post' e1 y hy z hz hn
theorem Inv1.skip {adj : Nat → List Nat} {s : Stk} {u : Nat} {seen found : List Nat} (h : Inv1 adj ((u, false) :: s) seen found) (hu : u ∈ seen) : Inv1 adj s seen found := by
  refine ⟨h.st.2, Dd.mono (fun z q => q) (fun z hz => ?_) h.dd.2, h.fs, fun v hv => h.gs v (List.mem_cons_of_mem _ hv), fun v hv => ?_, h.nd, fun v hv => h.gf v (List.mem_cons_of_mem _ hv), fun top v bot e => h.g1 ((u, false) :: top) v bot (by rw [e]; rfl), h.ch, h.od⟩
  · rcases List.mem_append.mp hz with q | q
    · exact nomatch q
    · have z := List.mem_singleton.mp q
      cases z
      exact .inl hu
  · rcases h.sn v hv with q | q
    · exact .inl q
    · rcases List.mem_cons.mp q with q | q
      · cases q
      · exact .inr q
def kidsOf (adj : Nat → List Nat) (u : Nat) : Stk := ((adj u).map fun c => (c, false)).reverse
theorem mem_kids {adj : Nat → List Nat} {u : Nat} {k : Nat × Bool} : k ∈ kidsOf adj u ↔ k.2 = false ∧ k.1 ∈ adj u := by
  unfold kidsOf
  rw [List.mem_reverse, List.mem_map]
  constructor
  · rintro ⟨c, hc, rfl⟩
    exact ⟨rfl, hc⟩
  · rintro ⟨h1, h2⟩
    exact ⟨k.1, h2, by cases k; cases h1; rfl⟩
theorem Inv1.open {adj : Nat → List Nat} {s : Stk} {u : Nat} {seen found : List Nat} (h : Inv1 adj ((u, false) :: s) seen found) (hu : u ∉ seen) : Inv1 adj (kidsOf adj u ++ (u, true) :: s) (seen ++ [u]) found := by
  have un : (u, true) ∉ s := fun q => hu (h.gs u (List.mem_cons_of_mem _ q))
  have kf : ∀ k ∈ kidsOf adj u, k.2 = false := fun k hk => (mem_kids.mp hk).1
  have gr : ∀ v, (v, true) ∈ kidsOf adj u ++ (u, true) :: s → v = u ∨ (v, true) ∈ s := fun v hv => by
    rcases List.mem_append.mp hv with q | q
    · have z := kf _ q
      cases z
    · rcases List.mem_cons.mp q with q | q
      · cases q
        exact .inl rfl
      · exact .inr q
  refine ⟨St.kids kf (fun k hk v hv => ?_) ⟨fun v hv => h.st.1 v hv, h.st.2⟩, Dd.kids kf ⟨fun _ z hz => .inr ?_, Dd.mono (fun z q => List.mem_append.mpr (.inl q)) (fun z hz => ?_) h.dd.2⟩, fun v hv => List.mem_append.mpr (.inl (h.fs v hv)), fun v hv => ?_, fun v hv => ?_, h.nd, fun v hv => ?_, fun top v bot e => ?_, fun v hv z hz => List.mem_append.mpr (.inl (h.ch v hv z hz)), h.od⟩
  · have e := (mem_kids.mp hk).2
    rcases List.mem_cons.mp hv with q | q
    · cases q
      exact Rch.one e
    · exact (h.st.1 v q).trans (Rch.one e)
  · rw [List.nil_append]
    exact mem_kids.mpr ⟨rfl, hz⟩
  · rcases List.mem_append.mp hz with q | q
    · exact nomatch q
    · have e := List.mem_singleton.mp q
      cases e
      exact .inl (List.mem_append.mpr (.inr (List.mem_singleton.mpr rfl)))
  · rcases gr v hv with rfl | q
    · exact List.mem_append.mpr (.inr (List.mem_singleton.mpr rfl))
    · exact List.mem_append.mpr (.inl (h.gs v (List.mem_cons_of_mem _ q)))
  · rcases List.mem_append.mp hv with q | q
    · rcases h.sn v q with q | q
      · exact .inl q
      · rcases List.mem_cons.mp q with q | q
        · cases q
        · exact .inr (List.mem_append.mpr (.inr (List.mem_cons_of_mem _ q)))
    · rw [List.mem_singleton.mp q]
      exact .inr (List.mem_append.mpr (.inr (List.mem_cons_self ..)))
  · rcases gr v hv with rfl | q
    · exact fun z => hu (h.fs v z)
    · exact h.gf v (List.mem_cons_of_mem _ q)
  · rcases List.append_eq_append_iff.mp e with ⟨as, e1, e2⟩ | ⟨as, e1, e2⟩
    · cases as with
      | nil =>
        rw [List.nil_append] at e2
        obtain ⟨e3, e4⟩ := List.cons.inj e2
        cases e3
        rw [← e4]
        exact un
      | cons t ts =>
        obtain ⟨e3, e4⟩ := List.cons.inj e2
        exact h.g1 ((u, false) :: ts) v bot (by rw [e4]; rfl)
    · cases as with
      | nil =>
        rw [List.nil_append] at e2
        obtain ⟨e3, e4⟩ := List.cons.inj e2
        cases e3
        rw [e4]
        exact un
      | cons t ts =>
        obtain ⟨e3, e4⟩ := List.cons.inj e2
        have m : (v, true) ∈ kidsOf adj u := by
          rw [e1, e3]
          exact List.mem_append.mpr (.inr (List.mem_cons_self ..))
        have z := kf _ m
        cases z
/-! ### paths -/
inductive PIn (adj : Nat → List Nat) (S : Nat → Prop) : Nat → Nat → Nat → Prop
  | refl {f : Nat} (h : S f) : PIn adj S 0 f f
  | step {k x y f : Nat} (h : S x) (e : y ∈ adj x) (r : PIn adj S k y f) : PIn adj S (k + 1) x f
theorem PIn.rch {adj : Nat → List Nat} {S : Nat → Prop} {k x f : Nat} (h : PIn adj S k x f) : Rch adj x f := by
  induction h with
  | refl => exact .refl _
  | step _ e _ ih => exact .step e ih
theorem PIn.head {adj : Nat → List Nat} {S : Nat → Prop} {k x f : Nat} (h : PIn adj S k x f) : S x := by
  cases h with
  | refl h => exact h
  | step h _ _ => exact h
theorem PIn.mono {adj : Nat → List Nat} {S S' : Nat → Prop} (hs : ∀ u, S u → S' u) {k x f : Nat} (h : PIn adj S k x f) : PIn adj S' k x f := by
  induction h with
  | refl h => exact .refl (hs _ h)
  | step h e _ ih => exact .step (hs _ h) e ih
/-- the first step out of a set -/
theorem PIn.exit {adj : Nat → List Nat} {S : Nat → Prop} {pre : List Nat} {k x f : Nat} (h : PIn adj S k x f) (hx : x ∈ pre) (hf : f ∉ pre) : ∃ y z j, y ∈ pre ∧ z ∈ adj y ∧ z ∉ pre ∧ j < k ∧ PIn adj S j z f := by
  induction h with
  | refl => exact absurd hx hf
  | @step k x y f h e r ih =>
    by_cases hy : y ∈ pre
    · obtain ⟨a, b, j, h1, h2, h3, h4, h5⟩ := ih hy hf
      exact ⟨a, b, j, h1, h2, h3, by omega, h5⟩
    · exact ⟨x, y, k, hx, e, hy, by omega, r⟩
/-- a path whose nodes all stand not behind f: f reaches its begin -/
theorem back {adj : Nat → List Nat} {A B : List Nat} {f : Nat} (hn : (A ++ f :: B).Nodup) (ho : Ord adj (A ++ f :: B)) : ∀ (n k x : Nat), k ≤ n → PIn adj (fun u => u ∈ A ++ [f]) k x f → Rch adj f x := by
  intro n
  induction n with
  | zero =>
    intro k x hk p
    obtain rfl : k = 0 := by omega
    cases p
    exact .refl _
  | succ n ih =>
    intro k x hk p
    by_cases hxf : x = f
    · rw [hxf]
      exact .refl _
    have hx : x ∈ A := by
      rcases List.mem_append.mp p.head with q | q
      · exact q
      · exact absurd (List.mem_singleton.mp q) hxf
    obtain ⟨A1, A2, rfl⟩ := List.append_of_mem hx
    have hf : f ∉ A1 ++ [x] := fun q => by
      have h2 : f ∈ A1 ++ x :: A2 := by
        rcases List.mem_append.mp q with q | q
        · exact List.mem_append.mpr (.inl q)
        · rw [List.mem_singleton.mp q]
          exact List.mem_append.mpr (.inr (List.mem_cons_self ..))
      exact (List.nodup_append.mp hn).2.2 f h2 f (List.mem_cons_self ..) rfl
    obtain ⟨y, z, j, h1, h2, h3, h4, h5⟩ := p.exit (pre := A1 ++ [x]) (List.mem_append.mpr (.inr (List.mem_singleton.mpr rfl))) hf
    have r1 := ho A1 x (A2 ++ f :: B) (by simp) y h1 z h2 h3
    exact (ih j z (by omega) h5).trans r1
end Scc
end G58

set_option Elab.async false
set_option linter.all false
set_option maxRecDepth 100000
set_option maxHeartbeats 4000000
/-! The second walk: groups, and the least node on a ring. -/
namespace G58
namespace Scc
theorem PIn.last {adj : Nat → List Nat} {S : Nat → Prop} {k x f : Nat} (h : PIn adj S k x f) : S f := by
  induction h with
  | refl h => exact h
  | step _ _ _ ih => exact ih
structure Inv2 (adj : Nat → List Nat) (order old : List Nat) (f : Nat) (wt seen G : List Nat) : Prop where
  sn : ∀ u, u ∈ seen ↔ u ∈ old ∨ u ∈ G
  no : ∀ u ∈ G, u ∉ old
  pa : ∀ u ∈ G, ∃ k, PIn adj (fun x => x ∈ G) k u f
  wg : ∀ u ∈ wt, u = f ∨ ∃ x ∈ G, x ∈ adj u
  cl : ∀ x ∈ G, ∀ y ∈ order, x ∈ adj y → y ∈ seen ∨ y ∈ wt
  ld : f ∈ seen ∨ f ∈ wt
  nd : G.Nodup
  bw : ∀ u ∈ wt, u ∈ order
  bg : ∀ u ∈ G, u ∈ order
theorem Inv2.start {adj : Nat → List Nat} {order old : List Nat} {f : Nat} (hf : f ∈ order) : Inv2 adj order old f [f] old [] where
  sn := fun u => ⟨.inl, fun h => h.elim id (fun q => nomatch q)⟩
  no := fun u h => nomatch h
  pa := fun u h => nomatch h
  wg := fun u h => .inl (List.mem_singleton.mp h)
  cl := fun x h => nomatch h
  ld := .inr (List.mem_singleton.mpr rfl)
  nd := List.nodup_nil
  bw := fun u h => by
    rw [List.mem_singleton.mp h]
    exact hf
  bg := fun u h => nomatch h
theorem Inv2.skip {adj : Nat → List Nat} {order old : List Nat} {f u : Nat} {w0 seen G : List Nat} (h : Inv2 adj order old f (w0 ++ [u]) seen G) (hu : u ∈ seen) : Inv2 adj order old f w0 seen G where
  sn := h.sn
  no := h.no
  pa := h.pa
  wg := fun v hv => h.wg v (List.mem_append.mpr (.inl hv))
  cl := fun x hx y hy e => by
    rcases h.cl x hx y hy e with q | q
    · exact .inl q
    · rcases List.mem_append.mp q with q | q
      · exact .inr q
      · rw [List.mem_singleton.mp q]
        exact .inl hu
  ld := by
    rcases h.ld with q | q
    · exact .inl q
    · rcases List.mem_append.mp q with q | q
      · exact .inr q
      · rw [List.mem_singleton.mp q]
        exact .inl hu
  nd := h.nd
  bw := fun v hv => h.bw v (List.mem_append.mpr (.inl hv))
  bg := h.bg
theorem Inv2.open {adj : Nat → List Nat} {order old : List Nat} {f u : Nat} {w0 seen G us : List Nat} (h : Inv2 adj order old f (w0 ++ [u]) seen G) (hu : u ∉ seen) (hus : ∀ y, y ∈ us ↔ y ∈ order ∧ u ∈ adj y) :
    Inv2 adj order old f (w0 ++ us) (seen ++ [u]) (G ++ [u]) := by
  have uG : u ∉ G := fun q => hu ((h.sn u).mpr (.inr q))
  have uo : u ∉ old := fun q => hu ((h.sn u).mpr (.inl q))
  have up : ∀ x, x ∈ G → x ∈ G ++ [u] := fun x q => List.mem_append.mpr (.inl q)
  have um : u ∈ G ++ [u] := List.mem_append.mpr (.inr (List.mem_singleton.mpr rfl))
  refine ⟨fun v => ?_, fun v hv => ?_, fun v hv => ?_, fun v hv => ?_, fun x hx y hy e => ?_, ?_, ?_, fun v hv => ?_, fun v hv => ?_⟩
  · rw [List.mem_append, List.mem_append, h.sn v, or_assoc]
  · rcases List.mem_append.mp hv with q | q
    · exact h.no v q
    · rw [List.mem_singleton.mp q]
      exact uo
  · rcases List.mem_append.mp hv with q | q
    · obtain ⟨k, p⟩ := h.pa v q
      exact ⟨k, p.mono up⟩
    · rw [List.mem_singleton.mp q]
      rcases h.wg u (List.mem_append.mpr (.inr (List.mem_singleton.mpr rfl))) with rfl | ⟨x, hx, e⟩
      · exact ⟨0, .refl um⟩
      · obtain ⟨k, p⟩ := h.pa x hx
        exact ⟨k + 1, .step um e (p.mono up)⟩
  · rcases List.mem_append.mp hv with q | q
    · rcases h.wg v (List.mem_append.mpr (.inl q)) with e | ⟨x, hx, e⟩
      · exact .inl e
      · exact .inr ⟨x, up x hx, e⟩
    · exact .inr ⟨u, um, ((hus v).mp q).2⟩
  · rcases List.mem_append.mp hx with q | q
    · rcases h.cl x q y hy e with z | z
      · exact .inl (List.mem_append.mpr (.inl z))
      · rcases List.mem_append.mp z with z | z
        · exact .inr (List.mem_append.mpr (.inl z))
        · exact .inl (List.mem_append.mpr (.inr z))
    · rw [List.mem_singleton.mp q] at e
      exact .inr (List.mem_append.mpr (.inr ((hus y).mpr ⟨hy, e⟩)))
  · rcases h.ld with q | q
    · exact .inl (List.mem_append.mpr (.inl q))
    · rcases List.mem_append.mp q with q | q
      · exact .inr (List.mem_append.mpr (.inl q))
      · exact .inl (List.mem_append.mpr (.inr q))
  · rw [List.nodup_append]
    refine ⟨h.nd, List.nodup_cons.mpr ⟨(fun q => nomatch q), List.nodup_nil⟩, fun a ha b hb e => ?_⟩
    rw [List.mem_singleton.mp hb] at e
    rw [e] at ha
    exact uG ha
  · rcases List.mem_append.mp hv with q | q
    · exact h.bw v (List.mem_append.mpr (.inl q))
    · exact ((hus v).mp q).1
  · rcases List.mem_append.mp hv with q | q
    · exact h.bg v q
    · rw [List.mem_singleton.mp q]
      exact h.bw u (List.mem_append.mpr (.inr (List.mem_singleton.mpr rfl)))
/-- behind some leaders -/
structure Out (adj : Nat → List Nat) (order B old rings : List Nat) : Prop where
  o1 : ∀ u ∈ B, u ∈ old
  o2 : ∀ x ∈ old, ∀ y ∈ order, x ∈ adj y → y ∈ old
  r1 : ∀ r ∈ rings, r ∈ order ∧ OnC adj r
  r2 : ∀ u ∈ old, OnC adj u → ∃ r ∈ rings, r ≤ u
theorem Out.start {adj : Nat → List Nat} {order : List Nat} : Out adj order [] [] [] := ⟨(fun u h => nomatch h), (fun x h => nomatch h), (fun r h => nomatch h), (fun u h => nomatch h)⟩
def isRing (adj : Nat → List Nat) (f : Nat) (G : List Nat) : Prop := 1 < G.length ∨ (G = [f] ∧ f ∈ adj f)
theorem pre_closed {adj : Nat → List Nat} {order S : List Nat} (all : ∀ u ∈ order, ∀ v ∈ adj u, v ∈ order) (cl : ∀ x ∈ S, ∀ y ∈ order, x ∈ adj y → y ∈ S) {v f : Nat} (r : Rch adj v f) (hv : v ∈ order) (hf : f ∈ S) : v ∈ S := by
  induction r with
  | refl => exact hf
  | @step u w f e r ih => exact cl w (ih (all u hv w e) hf) u hv e
theorem Out.next {adj : Nat → List Nat} {A B old rings seen G : List Nat} {f : Nat} (all : ∀ u ∈ A ++ f :: B, ∀ v ∈ adj u, v ∈ A ++ f :: B) (hn : (A ++ f :: B).Nodup) (ho : Ord adj (A ++ f :: B)) (h : Out adj (A ++ f :: B) B old rings) (i : Inv2 adj (A ++ f :: B) old f [] seen G) :
    (isRing adj f G → ∀ m, m ∈ G → (∀ x ∈ G, m ≤ x) → Out adj (A ++ f :: B) (f :: B) seen (rings ++ [m])) ∧ (¬ isRing adj f G → Out adj (A ++ f :: B) (f :: B) seen rings) := by
  have fs : f ∈ seen := by
    rcases i.ld with q | q
    · exact q
    · exact nomatch q
  have o1 : ∀ u ∈ f :: B, u ∈ seen := fun u hu => by
    rcases List.mem_cons.mp hu with rfl | q
    · exact fs
    · exact (i.sn u).mpr (.inl (h.o1 u q))
  have o2 : ∀ x ∈ seen, ∀ y ∈ A ++ f :: B, x ∈ adj y → y ∈ seen := fun x hx y hy e => by
    rcases (i.sn x).mp hx with q | q
    · exact (i.sn y).mpr (.inl (h.o2 x q y hy e))
    · rcases i.cl x q y hy e with z | z
      · exact z
      · exact nomatch z
  have hof : f ∈ A ++ f :: B := List.mem_append.mpr (.inr (List.mem_cons_self ..))
  -- a group's nodes are reached by its leader
  have inA : ∀ u ∈ G, u ∈ A ++ [f] := fun u hu => by
    rcases List.mem_append.mp (i.bg u hu) with q | q
    · exact List.mem_append.mpr (.inl q)
    · rcases List.mem_cons.mp q with q | q
      · exact List.mem_append.mpr (.inr (List.mem_singleton.mpr q))
      · exact absurd (h.o1 u q) (i.no u hu)
  have to : ∀ x ∈ G, Rch adj x f := fun x hx => by
    obtain ⟨k, p⟩ := i.pa x hx
    exact p.rch
  have fro : ∀ x ∈ G, Rch adj f x := fun x hx => by
    obtain ⟨k, p⟩ := i.pa x hx
    exact back hn ho k k x (Nat.le_refl _) (p.mono inA)
  have fG : ∀ x ∈ G, f ∈ G := fun x hx => by
    obtain ⟨k, p⟩ := i.pa x hx
    exact p.last
  have yes : isRing adj f G → ∀ x ∈ G, OnC adj x := fun hr x hx => by
    have other : ∀ y ∈ G, y ≠ x → OnC adj x := fun y hy ne => by
      have r := (to x hx).trans (fro y hy)
      cases r with
      | refl => exact absurd rfl ne
      | @step _ v _ e r => exact ⟨v, e, r.trans ((to y hy).trans (fro x hx))⟩
    rcases hr with hr | ⟨rfl, e⟩
    · match G, hr, hx, other, i.nd with
      | a :: b :: t, _, hx, other, nd =>
        by_cases ea : a = x
        · refine other b (List.mem_cons_of_mem _ (List.mem_cons_self ..)) fun eb => ?_
          rw [ea, ← eb] at nd
          exact (List.nodup_cons.mp nd).1 (List.mem_cons_self ..)
        · exact other a (List.mem_cons_self ..) ea
    · rw [List.mem_singleton.mp hx]
      exact ⟨f, e, .refl f⟩
  have no : ¬ isRing adj f G → ∀ x ∈ G, ¬ OnC adj x := fun hr x hx oc => by
    have f1 := fG x hx
    have hl : G = [f] := by
      have hle : ¬ 1 < G.length := fun q => hr (.inl q)
      match G, hle, f1 with
      | [a], _, f1 => rw [List.mem_singleton.mp f1]
      | a :: b :: t, hle, _ => exact absurd (by rw [List.length_cons, List.length_cons]; omega) hle
    have nf : f ∉ adj f := fun q => hr (.inr ⟨hl, q⟩)
    rw [hl] at hx
    rw [List.mem_singleton.mp hx] at oc
    obtain ⟨v, e, r⟩ := oc
    have vo : v ∈ A ++ f :: B := all f hof v e
    have vs : v ∈ seen := pre_closed all o2 r vo fs
    rcases (i.sn v).mp vs with q | q
    · exact i.no f f1 (h.o2 v q f hof e)
    · rw [hl] at q
      rw [List.mem_singleton.mp q] at e
      exact nf e
  refine ⟨fun hr m hm hle => ⟨o1, o2, fun r q => ?_, fun u hu oc => ?_⟩, fun hr => ⟨o1, o2, h.r1, fun u hu oc => ?_⟩⟩
  · rcases List.mem_append.mp q with q | q
    · exact h.r1 r q
    · rw [List.mem_singleton.mp q]
      exact ⟨i.bg m hm, yes hr m hm⟩
  · rcases (i.sn u).mp hu with q | q
    · obtain ⟨r, h1, h2⟩ := h.r2 u q oc
      exact ⟨r, List.mem_append.mpr (.inl h1), h2⟩
    · exact ⟨m, List.mem_append.mpr (.inr (List.mem_singleton.mpr rfl)), hle u q⟩
  · rcases (i.sn u).mp hu with q | q
    · exact h.r2 u q oc
    · exact absurd oc (no hr u q)
end Scc
end G58

set_option Elab.async false
set_option linter.all false
set_option maxRecDepth 100000
set_option maxHeartbeats 4000000
/-! Small things: heaps that grow, rows of ints, lists or tuples. -/
namespace G58
open PySem PySem.Spec PyProof.Rows L2
theorem same_new {H H1 : Hp} (s : Same H H1) {d : Addr} {o : HO} (hd : H1 d = none) : Same H (upd H1 d o) := fun b u e => by
  rw [upd_ne (ne_of_none (s b u e) hd)]
  exact s b u e
theorem Same.tup {K : PySem.W.Frag} {H H' : Hp} {p : Addr} {xs : List V} (e : Same H H') (h : SqT K H p xs) : SqT K H' p xs := by
  rcases h with (h | ⟨o, h⟩) | h
  · exact .inl (.inl (e _ _ h))
  · exact .inl (.inr ⟨o, e _ _ h⟩)
  · exact .inr h
theorem ifNeT {c A B : Prop} [Decidable c] (hc : ¬ c) (h : A) : if (!decide c) = true then A else B := by
  rw [decide_eq_false hc]
  exact iteT h
theorem ifNeF {c A B : Prop} [Decidable c] (hc : c) (h : B) : if (!decide c) = true then A else B := by
  rw [decide_eq_true hc]
  exact iteF h
abbrev vInts (ns : List Nat) : List V := ns.map fun n => V.int (n : Nat)
theorem vInts_app (l r : List Nat) : vInts (l ++ r) = vInts l ++ vInts r := List.map_append ..
theorem vInts_rev (l : List Nat) : vInts l.reverse = (vInts l).reverse := List.map_reverse ..
theorem vInts_len (l : List Nat) : (vInts l).length = l.length := List.length_map ..
theorem vInts_at {l : List Nat} {i n : Nat} (h : l[i]? = some n) : (vInts l)[i]? = some (.int (n : Nat)) := by
  rw [List.getElem?_map, h]
  rfl
theorem vInts_get {l : List Nat} {i : Nat} {x : V} (h : (vInts l)[i]? = some x) : ∃ n, l[i]? = some n ∧ x = .int (n : Nat) := by
  rw [List.getElem?_map] at h
  obtain ⟨n, h1, h2⟩ := Option.map_eq_some_iff.mp h
  exact ⟨n, h1, h2.symm⟩
def Bytes (ns : List Nat) : Prop := ∀ n ∈ ns, n < 256
theorem Bytes.app {l r : List Nat} (a : Bytes l) (b : Bytes r) : Bytes (l ++ r) := fun n h => (List.mem_append.mp h).elim (a n) (b n)
theorem Bytes.nil : Bytes [] := fun n h => nomatch h
theorem Bytes.one {n : Nat} (h : n < 256) : Bytes [n] := fun m hm => by
  rw [List.mem_singleton.mp hm]
  exact h
/-- a list or a tuple -/
def SqB (K : PySem.W.Frag) (H : Hp) (p : Addr) (xs : List V) : Prop := SqL K H p xs ∨ SqT K H p xs
theorem SqB.same {K : PySem.W.Frag} {H H' : Hp} {p : Addr} {xs : List V} (h : SqB K H p xs) (s : Same H H') : SqB K H' p xs := h.imp (fun z => s.seq z) (fun z => Same.tup s z)
theorem SqB.lst {K : PySem.W.Frag} {H : Hp} {p : Addr} {xs : List V} (h : H p = some (.lst xs)) : SqB K H p xs := .inl (.inl (.inl h))
theorem SqB.tup {K : PySem.W.Frag} {H : Hp} {p : Addr} {xs : List V} (h : H p = some (.tup xs)) : SqB K H p xs := .inr (.inl (.inl h))
def rIxB (K : PySem.W.Frag) : R2 := fun x y H Q => ∃ p xs i v, x = .ref p ∧ y = .int i ∧ SqB K H p xs ∧ atI xs i = some v ∧ Q v H
def rSlB2 (K : PySem.W.Frag) : V → Option Int → Option Int → Hp → VK → Prop := fun x lo hi H Q => ∃ p xs, x = .ref p ∧ SqB K H p xs ∧ ∀ q H', Same H H' → SqB K H' q (cutV xs lo hi) → Q (.ref q) H'
section
variable {X : Cx}
theorem ix_b : IxR X (rIxB X.K) := by
  intro value slice pins s σ H x y v u Q Iv rx ry h hs
  obtain ⟨p, xs, i, z, e1, e2, hb, ha, q⟩ := h
  exact (ix_list.or ix_tup) value slice pins s σ H x y v u Q Iv rx ry (hb.imp (fun c => ⟨p, xs, i, z, e1, e2, c, ha, q⟩) (fun c => ⟨p, xs, i, z, e1, e2, c, ha, q⟩)) hs
theorem cut_whole {xs : List V} {lo hi : Option Int} (h : HT.sIx xs.length 0 lo = 0 ∧ HT.sIx xs.length xs.length hi = xs.length) : cutV xs lo hi = xs := by
  unfold cutV
  rw [h.1, h.2, List.drop_zero, Nat.sub_zero, List.take_length]
theorem sl_b : SlR X (rSlB2 X.K) := by
  intro pins s σ H x v vl vu lo hi sl Q Iv rx hs pl pu h
  obtain ⟨p, xs, e, hb, q⟩ := h
  refine (sl_list.or sl_tupA) pins s σ H x v vl vu lo hi sl Q Iv rx hs pl pu (hb.imp (fun c => ⟨p, xs, e, c, fun b hb => ?_⟩) (fun c => ⟨p, xs, e, c, fun hw => ?_, fun _ b hb => ?_⟩))
  · exact q b _ (same_new (Same.refl H) hb) (.lst upd_same)
  · exact q p H (Same.refl H) (by rw [cut_whole hw]; exact .inr c)
  · exact q b _ (same_new (Same.refl H) hb) (.tup upd_same)
end
theorem sIx_nat (n d a : Nat) : HT.sIx n d (some (a : Int)) = min a n := by
  unfold HT.sIx
  simp
  omega
/-- ns[a:b] -/
def cut (ns : List Nat) (a b : Nat) : List Nat := (ns.drop a).take (b - a)
theorem cut_len {ns : List Nat} {a b : Nat} (h : b ≤ ns.length) : (cut ns a b).length = b - a := by
  unfold cut
  rw [List.length_take, List.length_drop]
  omega
theorem mem_cut {ns : List Nat} {a b n : Nat} (h : n ∈ cut ns a b) : n ∈ ns := List.mem_of_mem_drop (List.mem_of_mem_take h)
theorem Bytes.cut {ns : List Nat} {a b : Nat} (h : Bytes ns) : Bytes (cut ns a b) := fun n hn => h n (mem_cut hn)
theorem cutV_ints (ns : List Nat) (a b : Nat) : cutV (vInts ns) (some (a : Int)) (some (b : Int)) = vInts (cut ns a b) := by
  unfold cutV cut
  rw [sIx_nat, sIx_nat, vInts_len]
  show _ = List.map _ (List.take _ (List.drop _ ns))
  rw [List.map_take, List.map_drop]
  by_cases ha : a ≤ ns.length
  · rw [Nat.min_eq_left ha]
    by_cases hb : b ≤ ns.length
    · rw [Nat.min_eq_left hb]
    · rw [Nat.min_eq_right (by omega)]
      rw [List.take_of_length_le (by rw [List.length_drop, List.length_map]; omega), List.take_of_length_le (by rw [List.length_drop, List.length_map]; omega)]
  · have e1 : ∀ k, (List.map (fun n : Nat => V.int (n : Nat)) ns).drop k = [] ∨ k < ns.length := fun k => by
      rcases Nat.lt_or_ge k ns.length with q | q
      · exact .inr q
      · exact .inl (List.drop_eq_nil_of_le (by rw [List.length_map]; exact q))
    have h1 := (e1 a).resolve_right (by omega)
    have h2 := (e1 (min a ns.length)).resolve_right (by omega)
    rw [h1, h2, List.take_nil, List.take_nil]
theorem cutV_tail (ns : List Nat) (a : Nat) : cutV (vInts ns) (some (a : Int)) none = vInts (cut ns a ns.length) := by
  have e := cutV_ints ns a ns.length
  rw [← e]
  unfold cutV
  rw [sIx_nat, sIx_nat, vInts_len, Nat.min_self]
  rfl
/-- the number of big-endian octets -/
def num (l : List Nat) : Nat := l.foldl (fun a b => a * 256 + b) 0
def snum (l : List Nat) : Int := if 128 ≤ l.headD 0 then (num l : Int) - 1 - (num (List.replicate l.length 255) : Nat) else (num l : Nat)
theorem num_snoc (l : List Nat) (b : Nat) : num (l ++ [b]) = num l * 256 + b := by
  unfold num
  rw [List.foldl_append]
  rfl
theorem flat_ints (k : Nat) (ns : List Nat) : (List.replicate k (vInts ns)).flatten = vInts (List.replicate k ns).flatten := by
  induction k with
  | zero => rfl
  | succ k ih => rw [List.replicate_succ, List.replicate_succ, List.flatten_cons, List.flatten_cons, vInts_app, ih]
theorem flat_one (k n : Nat) : (List.replicate k [n]).flatten = List.replicate k n := by
  induction k with
  | zero => rfl
  | succ k ih => rw [List.replicate_succ, List.replicate_succ, List.flatten_cons, ih]; rfl
end G58

set_option Elab.async false
set_option linter.all false
set_option pp.maxSteps 2500
set_option maxRecDepth 100000
set_option maxHeartbeats 4000000
/-! Defs that are entered where no container's text is being made; texts of containers. -/
namespace G58
open PySem PySem.Spec PyProof.Rows L2
/-- FnOk, entered with no guard on the stack -/
structure FnG (P : Program) (w : World) (K : PySem.W.Frag) (mg : Str → Option Value) (base : Heap) (CX : CXT) (k : Nat) (f : Addr) (fd : FuncData) (ps : List Str) (sp : Sp) : Prop where
  len : ∀ vs H Q E, sp vs H Q E → vs.length = ps.length
  run : ∀ (A : Around) (outer : List Env) (s : Shared) (H : Hp) (args : Args) (us : List Value) (vs : List V) (Q : VK) (E : XK), A.guards = some [] → Room k A → Env0 P w K mg base A outer s H → BindsTo s fd args (ps.zip us) → Vals vs us → sp vs H Q E →
    codeAny (model P w) A (.call (.ref f) args) (CR CX outer P w H s Q E) s
section
variable {P : Program} {w : World} {K : PySem.W.Frag} {mg : Str → Option Value} {base : Heap}
/-- a def by its body, where no guard stands on the stack -/
theorem okG {x qual : Str} {st : Stmt} {f : Addr} {fd : FuncData} {N ps : List Str} {k : Nat} {sp : Sp} (F : Fun K x qual st f fd) (S : FnScope N ps (defScope st)) (len : ∀ vs H Q E, sp vs H Q E → vs.length = ps.length)
    (hbody : ∀ (cdv : Value) (A : Around) (outer : List Env) (s : Shared) (H : Hp) (vs : List V) (Q : VK) (E : XK), (A.deeper (envOfC qual (defScope st) s.heap.objs.size f cdv)).guards = some [] → Room k (A.deeper (envOfC qual (defScope st) s.heap.objs.size f cdv)) → sp vs H Q E →
      ∃ t, PSs (cxOf CX0 P w K mg base N qual (defScope st) f cdv A outer s H E).nox (defBody st) t ∧ t { nx := fun _ H' => Q .non H', rt := Q } (start N vs) H) : FnG P w K mg base CX0 (k + 1) f fd ps sp := by
  obtain ⟨oc, od, kV, doc, pm, an, cdv, ct, osl, rfl, lk, hcd⟩ := F.ex
  refine ⟨len, fun A outer s H args us vs Q E hgu hr e0 hb r hsp => ?_⟩
  have hlen := len _ _ _ _ hsp
  have inK : K.In s.heap := e0.mod.kin.keeps fun b o e => (e0.bs b o e).1
  have noLim : s.heap.NoLimit := e0.mod.nolimit.keeps fun b o e => (e0.bs b o e).1
  have kinds : ∀ y ∈ ps.zip us, (defScope st).names.lookup y.1 = some .local ∨ ((defScope st).names.lookup y.1 = some .cell ∧ ((cellsFrom (s.heap.objs.size + 1) (defScope st).names []).lookup y.1).isSome = true) := by
    rintro ⟨n, v⟩ hy
    exact (S.par n (List.of_mem_zip hy).1).imp id fun q => ⟨q, PySem.W.cellsFrom_some _ _ _ (.inl q)⟩
  refine codeAny_call_function hr.depth (inK _ _ lk) rfl S.co S.gen rfl (PySem.W.codeRec_of inK hcd) (hb _ _ _ _ ?_)
  refine wpAny_newFunctionEnv_cells S.kind kinds fun env he s1 entered => ?_
  subst he
  refine ⟨noLim.keeps entered.toInCall.keep, codeAny_func ?_⟩
  obtain ⟨t, ht0, hq⟩ := hbody cdv A outer s H vs Q E hgu (hr.deeper _) hsp
  have ht := ht0.nox
  have I0 : Inv (cxOf CX0 P w K mg base N qual (defScope st) f cdv A outer s H E) [] (start N vs) H s1 := inv_start S hr.hd e0 hlen r entered
  refine wpAny_mono (ht.run [] s1 (start N vs) H _ I0 hq) (fun fl s' hs => ?_) fun _ _ hs => hs
  cases fl with
  | ret u =>
    obtain ⟨v, σ', H', J, rv, q⟩ := hs
    exact ⟨v, H', J.os, J.bare, J.base, J.hok, rv, q⟩
  | next =>
    obtain ⟨σ', H', J, q⟩ := hs
    exact ⟨.non, H', J.os, J.bare, J.base, J.hok, rfl, q⟩
  | brk =>
    obtain ⟨_, _, _, q⟩ := hs
    exact q.elim
  | cont =>
    obtain ⟨_, _, _, q⟩ := hs
    exact q.elim
end
section
variable {X : Cx} {CX : CXT} {k : Nat} {f : Addr} {fd : FuncData} {ps : List Str} {sp : Sp} {ds : List Value} {dvs : List V} {E : XK} {x : Str} {p pos : Pos} {e : Expr} {es : List Expr} {t : TA}
theorem run_G {pins : List (Addr × Obj)} {σ : L2.St} {H : Hp} {s : Shared} {Q : VK} {us : List Value} {vs : List V} (hgu : X.A.guards = some []) (F : FnG X.prog X.w X.K X.mg X.base CX k f fd ps sp) (hr : Room k X.A) (hb : Binds X.K fd ps ds) (hd : Vals dvs ds) (hx : Passes CX X E)
    (I : Inv X pins σ H s) (r : Vals vs us) (h : sp (vs ++ dvs) H Q E) : wpAny (model X.prog X.w) X.A (call (.ref f) us) (EP X pins σ Q) X.xe s := by
  have rAll : Vals (vs ++ dvs) (us ++ ds) := r.append hd
  have hlen : (us ++ ds).length = ps.length := rAll.length.symm.trans (F.len _ _ _ _ h)
  refine wpAny_call (codeAny_mono (F.run X.A X.stack s H ⟨us, []⟩ (us ++ ds) (vs ++ dvs) Q E hgu hr I.env0 (hb s us I.kIn hlen) rAll h) fun r s' hq => ?_)
  cases r with
  | error e => exact hx pins σ H s e s' I hq
  | ok fl =>
    cases fl with
    | ret u => exact I.after hq
    | next => exact hq.elim
    | brk => exact hq.elim
    | cont => exact hq.elim
theorem pe_callG (hgu : X.A.guards = some []) (F : FnG X.prog X.w X.K X.mg X.base CX k f fd ps sp) (hr : Room k X.A) (hg : Gl X x) (hm : X.mg x = some (.ref f)) (hk : PySem.W.keepIn X.K (.ref f) = true) (hb : Binds X.K fd ps ds) (hd : Vals dvs ds) (hx : Passes CX X E)
    (ha : PA X (e :: es) t) (hdb : (x == ("__debug__" : Str)) = false := by decide) (he : starEach (e :: es) X.env = (false, eval e X.env) :: starEach es X.env := by rfl) (hpl : (backTo pos (starEach es X.env)).any (·.1) = false := by rfl) :
    PE X (.Call (.Name x p) (e :: es) [] pos) (tCall sp dvs E t) :=
  ⟨fun pins s σ H Q I h => wpAny_Call_Name_kw (ld_glob I hg hm (PySem.W.callWith_K (h₀ := X.base) I.ok.mod.kin hk (thn (ha.run pos pins s σ H _ I h) fun _ _ ⟨_, _, I1, r, q⟩ => ⟨I1.kIn, run_G hgu F hr hb hd hx I1 r q⟩) he hpl) hdb)⟩
/-- repr(x) of lists and tuples -/
theorem call_reprD {X : Cx} (hgu : X.A.guards = some []) (hu : X.A.units + 64 < cLine) : CallR X (.builtin "repr") (fun xs H Q => ∃ (a : Addr) (d : PyData), xs = [.ref a] ∧ Dp X.K H (.ref a) d ∧ d.showable = true ∧ d.hasDict = false ∧ d.depth ≤ 60 ∧ d.shown.length ≤ sizeLine ∧ Q (.str d.shown) H) := by
  intro pins s σ H xs us Q I r h
  obtain ⟨a, d, rfl, hd, hs, hdd, hdp, hz, q⟩ := h
  obtain ⟨u, rfl, ru⟩ := r.one
  cases ru
  obtain ⟨as, rd⟩ := Dp.reads I d _ _ hd rfl
  exact PySem.repr_of_reads' rd hs (fun z => by rw [hdd] at z; cases z) hgu (by omega) (fun _ _ e => e) (fun h' u tk hk => ⟨.str d.shown, H, I.kept hk, ⟨u, rfl⟩, q⟩) hz
/-- the law, called with no guard on the stack -/
theorem law_callG {P : Program} {w : World} {K : PySem.W.Frag} {mg mb : Str → Option Value} {k : Nat} {fa a : Addr} {fd : FuncData} {x : Str} {sp : Sp} {s₁ : Shared} {vs : List Value} {ns : List Int}
    (KX : K.In s₁.heap) (hns : s₁.heap.Ns mainGlobals mg) (hb : s₁.heap.Ns builtinsNs mb) (hbb : ∀ x : Str, x ≠ "__name__" → mb x = bootBuiltins x) (hlim : s₁.heap.NoLimit) (hg : s₁.gens = #[])
    (ha : s₁.heap.get? a = some { cls := .type "list", data := .seq vs.toArray }) (hi : IntsAre vs ns) (hl : ns.length ≤ sizeLine) (hr : Room k callerA)
    (F : ∀ base : Heap, K.In base → base.Ns mainGlobals mg → FnG P w K mg base CX0 k fa fd [x] sp) (hbind : ∀ (s : Shared) (u : Value), BindsTo s fd ⟨[u], []⟩ [(x, u)])
    (hsp : ∀ H : Hp, SqL K H a (ns.map V.int) → sp [.ref a] H (fun v _ => v = .bl true) fun _ _ _ => False) :
    codeAny (model P w) callerA (.call (.ref fa) ⟨[.ref a], []⟩) (fun r s' => r = .ok (.ret (.bool true)) ∧ OldK s₁.heap s'.heap ∧ s'.os = s₁.os ∧ AllBare s'.gens) s₁ := by
  have rv := vals_ints hi
  have lv := hi.length
  -- from a heap in which at most the script is tracked
  have core : ∀ H : Hp, SqL K H a (ns.map V.int) → HOk P w H s₁.heap → (∀ b o, H b = some o → b = a ∧ K.lookup a = none ∧ ∃ ob, o = .frz ob (.lst (ns.map V.int))) →
      codeAny (model P w) callerA (.call (.ref fa) ⟨[.ref a], []⟩) (fun r s' => r = .ok (.ret (.bool true)) ∧ OldK s₁.heap s'.heap ∧ s'.os = s₁.os ∧ AllBare s'.gens) s₁ := by
    intro H hS hok hA
    have off : ∀ {b : Addr}, b ≠ a → H b = none := fun {b} n => by
      cases q : H b with
      | none => rfl
      | some o => exact absurd (hA b o q).1 n
    have low : ∀ {b : Addr} {o : Obj}, s₁.heap.get? b = some o → (∀ us n, o.data ≠ .seq us n) → (hidT s₁.heap H).get? b = some o := fun {b o} e n => hidT_get e (off fun z => by
      rw [z, ha] at e
      cases e
      exact n _ _ rfl)
    have ns' : ∀ {b : Addr} {m : Str → Option Value}, s₁.heap.Ns b m → (hidT s₁.heap H).Ns b m := fun {b m} ⟨o, es, ep, e, d, r⟩ => ⟨o, es, ep, low e (fun us n z => by rw [d] at z; cases z), d, r⟩
    have kIn : K.In (hidT s₁.heap H) := fun b o e => hidT_get (KX b o e) (by
      cases q : H b with
      | none => rfl
      | some u =>
        obtain ⟨rfl, hk, _⟩ := hA b u q
        rw [hk] at e
        cases e)
    obtain ⟨mc, l1, l2⟩ := hlim
    have md : L2.Mod K mg (hidT s₁.heap H) := ⟨kIn, ns' hns, ⟨mb, ns' hb, hbb⟩, ⟨mc, ns' l1, l2⟩⟩
    have e0 : Env0 P w K mg (hidT s₁.heap H) callerA [] s₁ H := ⟨rfl, md, fun b o e => of_hidT e, Nat.le_of_eq (hidT_size _ _), trivial, (fun b z => nomatch z), hok, .of_eq hg⟩
    refine codeAny_mono ((F _ kIn (ns' hns)).run callerA [] s₁ H ⟨[.ref a], []⟩ [.ref a] [.ref a] _ _ rfl hr e0 (hbind s₁ (.ref a)) (.cons rfl .nil) (hsp H hS)) fun r s' h => ?_
    cases r with
    | error e =>
      exact h.elim
    | ok fl =>
      cases fl with
      | next => exact h.elim
      | brk => exact h.elim
      | cont => exact h.elim
      | ret u =>
        obtain ⟨v, H', os, bare, un, hok', r', q⟩ := h
        have q' : v = .bl true := q
        subst q'
        obtain rfl : u = Value.bool true := r'
        have same : ∀ b o, s₁.heap.get? b = some o → s'.heap.get? b = some o := fun b o e => by
          cases q : H b with
          | none => exact un.keep b o e q (fun z => nomatch z) (fun z => nomatch z)
          | some u =>
            obtain ⟨_, _, ob, rfl⟩ := hA b u q
            obtain ⟨e1, _⟩ := hok b _ q
            obtain ⟨e2, _⟩ := hok' b _ (un.frzs b ob _ q)
            rw [e] at e1
            cases e1
            exact e2
        exact ⟨rfl, ⟨fun b o e => .inl (same b o e), fun b o e => ⟨o, same b o e⟩⟩, os, bare⟩
  cases hk : K.lookup a with
  | some o =>
    have e := KX a o hk
    rw [ha] at e
    cases e
    exact core (fun _ => none) (.inr ⟨_, vs.toArray, _, hk, rfl, rfl, rfl, by rw [List.size_toArray, lv]; exact hl, by simpa using rv⟩) (fun b u z => nomatch z) (fun b o z => nomatch z)
  | none =>
    refine core (fun b => if b = a then some (.frz { cls := .type "list", data := .seq vs.toArray } (.lst (ns.map V.int))) else none) (.inl (.inr ⟨{ cls := .type "list", data := .seq vs.toArray }, if_pos rfl⟩)) (fun b u z => ?_) (fun b o z => ?_)
    · by_cases hb : b = a
      · have z' := (if_pos hb).symm.trans z
        cases z'
        rw [hb]
        exact ⟨ha, by rw [List.length_map]; exact hl, vs, _, rv, ha⟩
      · have z' := (if_neg hb).symm.trans z
        cases z'
    · by_cases hb : b = a
      · have z' := (if_pos hb).symm.trans z
        cases z'
        exact ⟨hb, hk, _, rfl⟩
      · have z' := (if_neg hb).symm.trans z
        cases z'
/-- what the top must have written for such a law -/
def LawG (l : PySem.W.OpenLaw) (w : World) (K : PySem.W.Frag) (k n : Nat) (x : Str) (mg : Str → Option Value) (fa : Addr) : Prop :=
  ∃ (fd : FuncData) (sp : Sp), (∀ (s : Shared) (u : Value), BindsTo s fd ⟨[u], []⟩ [(x, u)]) ∧
    (∀ (H : Hp) (a : Addr) (ns : List Int), ns.length ≤ n → SqL K H a (ns.map V.int) → sp [.ref a] H (fun v _ => v = .bl true) fun _ _ _ => False) ∧
    ∀ base : Heap, K.In base → base.Ns mainGlobals mg → FnG l.prog w K mg base CX0 k fa fd [x] sp
theorem walk_G {l : PySem.W.OpenLaw} {n k : Nat} {q : Program} {loose : List Str} {XP : (Str → Option Value) → Heap → Prop} {YP : World → Heap → Prop} {d : DefRec} {K : Params → PySem.W.Frag} {x : Str}
    (hn : l.most = some n) (hn2 : n ≤ sizeLine) (hdf : d.params.defaults = []) (hr : Room k callerA) (hY : ∀ (w : World) (h : Heap), YP w h → (K w.params).In h)
    (F : ∀ (w : World) (mg : Str → Option Value) (fa : Addr) (h : Heap), YP w h → (K w.params).In h → h.Ns mainGlobals mg → mg d.name = some (.ref fa) → LawG l w (K w.params) k n x mg fa) :
    PySem.W.WalkO q loose XP YP l.row.toRowW d [] (fun f vs => PySem.call f vs) :=
  Att.attach_callB hn hdf fun w s₀ s₁ mg mb fa o pm cd doc a vs ns G Y _ _ _ hmg hobj hints hlen _ hg => by
    obtain ⟨fd, sp, hb, hsp, hF⟩ := F w mg fa _ Y (hY w _ Y) G.T.g hmg
    exact law_callG (hY w _ Y) G.T.g G.T.b G.T.builtins G.T.nolimit hg hobj hints (Nat.le_trans hlen hn2) hr hF hb fun H hS => hsp H a ns hlen hS
end
end G58

set_option Elab.async false
set_option linter.all false
set_option maxRecDepth 100000
set_option maxHeartbeats 4000000
/-! k75: the base. -/
namespace G58
open PySem PySem.Spec PyProof.Rows L2
end G58

set_option Elab.async false
set_option linter.all false
set_option maxRecDepth 100000
set_option maxHeartbeats 4000000
/-! The text by places; what the top holds. -/
namespace G58
open PySem PySem.Spec PyProof.Rows L2
def topS (i : Nat) : Stmt := PySem.Challenge.pw_nestfile_k75_paths_as_texts.main.body.getD i (.Pass ⟨0, 0, 0, 0⟩)
abbrev siT : Stmt := inClass (topS 3) 0
abbrev sInq : Stmt := topS 7
abbrev sPtx : Stmt := topS 8
abbrev sSin : Stmt := inClass (topS 9) 0
abbrev sSgn : Stmt := inClass (topS 9) 1
abbrev sIsa : Stmt := inClass (topS 9) 2
abbrev sRfu : Stmt := inClass (topS 9) 3
abbrev sExp : Stmt := inClass (topS 9) 4
abbrev sFns : Stmt := inClass (topS 9) 5
abbrev sFig : Stmt := inClass (topS 9) 6
abbrev sStg : Stmt := inClass (topS 9) 13
abbrev sRdp : Stmt := topS 10
abbrev sSrc : Stmt := topS 12
abbrev sDrw : Stmt := topS 13
abbrev sPik : Stmt := topS 14
abbrev sKey : Stmt := topS 15
abbrev sWay : Stmt := topS 16
abbrev sWri : Stmt := topS 17
abbrev sKen : Stmt := topS 18
abbrev sPlc : Stmt := topS 19
abbrev sDue : Stmt := topS 20
abbrev sSai : Stmt := topS 21
abbrev sBnt : Stmt := topS 22
abbrev sRgt : Stmt := topS 23
abbrev sLaw : Stmt := topS 24
structure Ad where
  (cBadText cScanner cNestError fiT fInq fPtx fSin fSgn fIsa fRfu fExp fFns fFig fStg fRdp fSrc fDrw fPik fKey fWay fWri fKen fPlc fDue fSai fBnt fRgt : Addr)
/-- an own exception class -/
structure ExC (K : PySem.W.Frag) (C f : Addr) : Prop where
  ox : OexC K C
  xf : XfC K C
  ini : PySem.W.findIn K (.ref C) "__init__" = some (some (.ref f))
  ti : PySem.W.typeIn K (.ref f) = some (.type "function")
structure Txt (K : PySem.W.Frag) (mg : Str → Option Value) (a : Ad) : Prop where
  xBadText : ExC K a.cBadText a.fiT
  noBadText_place : PySem.W.findIn K (.ref a.cBadText) "place" = some none
  mkScanner : Mk K a.cScanner a.fSin
  clScanner : Cls K a.cScanner
  nScanner_text : NoAttr K a.cScanner "text"
  nScanner_place : NoAttr K a.cScanner "place"
  mtSgn : Meth K a.cScanner "sign" a.fSgn
  mtIsa : Meth K a.cScanner "is_at" a.fIsa
  mtRfu : Meth K a.cScanner "refuse" a.fRfu
  mtExp : Meth K a.cScanner "expect" a.fExp
  mtFns : Meth K a.cScanner "finish" a.fFns
  mtFig : Meth K a.cScanner "figures_here" a.fFig
  mtStg : Meth K a.cScanner "string" a.fStg
  gcBadText : mg "BadText" = some (.ref a.cBadText)
  gcScanner : mg "Scanner" = some (.ref a.cScanner)
  gcNestError : mg "NestError" = some (.ref a.cNestError)
  gInq : mg "in_quotes" = some (.ref a.fInq)
  gPtx : mg "path_text" = some (.ref a.fPtx)
  gRdp : mg "read_path" = some (.ref a.fRdp)
  gSrc : mg "_law_source" = some (.ref a.fSrc)
  gDrw : mg "_law_draw" = some (.ref a.fDrw)
  gPik : mg "_law_pick" = some (.ref a.fPik)
  gKey : mg "_law_key" = some (.ref a.fKey)
  gWay : mg "_law_way" = some (.ref a.fWay)
  gWri : mg "_law_written" = some (.ref a.fWri)
  gKen : mg "_law_key_end" = some (.ref a.fKen)
  gPlc : mg "_law_place_end" = some (.ref a.fPlc)
  gDue : mg "_law_due" = some (.ref a.fDue)
  gSai : mg "_law_said" = some (.ref a.fSai)
  gBnt : mg "_law_bent" = some (.ref a.fBnt)
  gRgt : mg "_law_right" = some (.ref a.fRgt)
  kMOST_FIGURES : ∃ t, mg "MOST_FIGURES" = some (.int 20 t)
  kFIGURES : ∃ t, mg "FIGURES" = some (.str "0123456789" t)
  blen : mg "len" = none
  bisinstance : mg "isinstance" = none
  bstr : mg "str" = none
  bint : mg "int" = none
  babs : mg "abs" = none
  brange : mg "range" = none
  blist : mg "list" = none
  btuple : mg "tuple" = none
  bmin : mg "min" = none
  brepr : mg "repr" = none
  emBadText_BadText : PySem.W.exmOne K (.ref a.cBadText) (.ref a.cBadText) = some true
structure Df (K : PySem.W.Frag) (a : Ad) where
  (diT dInq dPtx dSin dSgn dIsa dRfu dExp dFns dFig dStg dRdp dSrc dDrw dPik dKey dWay dWri dKen dPlc dDue dSai dBnt dRgt : FuncData)
  FiT : Fun K "__init__" "BadText.__init__" siT a.fiT diT
  biT : L2.Binds K diT ["self", "place"] []
  FInq : Fun K "in_quotes" "in_quotes" sInq a.fInq dInq
  bInq : L2.Binds K dInq ["word"] []
  FPtx : Fun K "path_text" "path_text" sPtx a.fPtx dPtx
  bPtx : L2.Binds K dPtx ["path"] []
  FSin : Fun K "__init__" "Scanner.__init__" sSin a.fSin dSin
  bSin : L2.Binds K dSin ["self", "text"] []
  FSgn : Fun K "sign" "Scanner.sign" sSgn a.fSgn dSgn
  bSgn : L2.Binds K dSgn ["self"] []
  FIsa : Fun K "is_at" "Scanner.is_at" sIsa a.fIsa dIsa
  bIsa : L2.Binds K dIsa ["self", "signs"] []
  FRfu : Fun K "refuse" "Scanner.refuse" sRfu a.fRfu dRfu
  bRfu : L2.Binds K dRfu ["self"] []
  FExp : Fun K "expect" "Scanner.expect" sExp a.fExp dExp
  bExp : L2.Binds K dExp ["self", "signs"] []
  FFns : Fun K "finish" "Scanner.finish" sFns a.fFns dFns
  bFns : L2.Binds K dFns ["self"] []
  FFig : Fun K "figures_here" "Scanner.figures_here" sFig a.fFig dFig
  bFig : L2.Binds K dFig ["self"] []
  FStg : Fun K "string" "Scanner.string" sStg a.fStg dStg
  bStg : L2.Binds K dStg ["self"] []
  FRdp : Fun K "read_path" "read_path" sRdp a.fRdp dRdp
  bRdp : L2.Binds K dRdp ["text"] []
  FSrc : Fun K "_law_source" "_law_source" sSrc a.fSrc dSrc
  bSrc : L2.Binds K dSrc ["_law_cell"] []
  FDrw : Fun K "_law_draw" "_law_draw" sDrw a.fDrw dDrw
  bDrw : L2.Binds K dDrw ["_law_source_here", "_law_many"] []
  FPik : Fun K "_law_pick" "_law_pick" sPik a.fPik dPik
  bPik : L2.Binds K dPik ["_law_source_here", "_law_items"] []
  FKey : Fun K "_law_key" "_law_key" sKey a.fKey dKey
  bKey : L2.Binds K dKey ["_law_source_here"] []
  FWay : Fun K "_law_way" "_law_way" sWay a.fWay dWay
  bWay : L2.Binds K dWay ["_law_source_here"] []
  FWri : Fun K "_law_written" "_law_written" sWri a.fWri dWri
  bWri : L2.Binds K dWri ["_law_way_here"] []
  FKen : Fun K "_law_key_end" "_law_key_end" sKen a.fKen dKen
  bKen : L2.Binds K dKen ["_law_word", "_law_at"] []
  FPlc : Fun K "_law_place_end" "_law_place_end" sPlc a.fPlc dPlc
  bPlc : L2.Binds K dPlc ["_law_word", "_law_at"] []
  FDue : Fun K "_law_due" "_law_due" sDue a.fDue dDue
  bDue : L2.Binds K dDue ["_law_word"] []
  FSai : Fun K "_law_said" "_law_said" sSai a.fSai dSai
  bSai : L2.Binds K dSai ["_law_word"] []
  FBnt : Fun K "_law_bent" "_law_bent" sBnt a.fBnt dBnt
  bBnt : L2.Binds K dBnt ["_law_source_here", "_law_word"] []
  FRgt : Fun K "_law_right" "_law_right" sRgt a.fRgt dRgt
  bRgt : L2.Binds K dRgt ["_law_source_here"] []
end G58

set_option Elab.async false
set_option linter.all false
set_option maxRecDepth 100000
set_option maxHeartbeats 4000000
/-! Plain: texts of paths. -/
namespace G58
open PySem PySem.Spec PyProof.Rows L2 NumText
def strN (l : List Nat) : Str := ⟨l.toArray⟩
theorem strN_cps (z : Str) : strN z.cps.toList = z := by
  cases z
  simp [strN]
theorem cps_strN (l : List Nat) : (strN l).cps.toList = l := by simp [strN]
theorem strN_len (l : List Nat) : (strN l).length = l.length := by simp [strN, Str.length]
theorem strN_inj {l m : List Nat} (h : strN l = strN m) : l = m := by
  have := congrArg (fun z : Str => z.cps.toList) h
  simpa [strN] using this
/-- a step of a path -/
inductive Stp where
  | num (n : Nat)
  | key (k : List Nat)
def Stp.v : Stp → V
  | .num n => .int ((n : Nat) : Int)
  | .key k => .str (strN k)
def Stp.d : Stp → PyData
  | .num n => .int ((n : Nat) : Int)
  | .key k => .str (strN k)
def dgt (c : Nat) : Bool := decide (48 ≤ c ∧ c ≤ 57)
/-- a key from p on: the place of the fault, or the place behind it and its letters -/
def keyF (l : List Nat) : Nat → Nat → List Nat → Sum Nat (Nat × List Nat)
  | 0, p, _ => .inl p
  | f + 1, p, acc => match l[p]? with
    | none => .inl p
    | some c => if c = 34 then .inr (p + 1, acc) else if c = 92 then (match l[p + 1]? with
      | some d => if d = 34 ∨ d = 92 then keyF l f (p + 2) (acc ++ [d]) else .inl (p + 1)
      | none => .inl (p + 1))
      else keyF l f (p + 1) (acc ++ [c])
/-- the figures from e on of a number that begins at b -/
def digF (l : List Nat) (b : Nat) : Nat → Nat → Sum Nat Nat
  | 0, e => .inl e
  | f + 1, e => match l[e]? with
    | none => .inr e
    | some c => if dgt c = true then (if l[b]? = some 48 ∨ e - b = 20 then .inl e else digF l b f (e + 1)) else .inr e
def numV (l : List Nat) (b e : Nat) : Nat := digitsVal ((l.drop b).take (e - b))
def plcF (l : List Nat) (b : Nat) : Sum Nat (Nat × Nat) := match l[b]? with
  | none => .inl b
  | some c => if dgt c = true then (match digF l b (l.length + 1) (b + 1) with
    | .inl p => .inl p
    | .inr e => .inr (e, numV l b e)) else .inl b
def stpF (l : List Nat) (p : Nat) : Sum Nat (Nat × Stp) :=
  if l[p]? = some 34 then (match keyF l (l.length + 1) (p + 1) [] with
    | .inl q => .inl q
    | .inr (e, k) => .inr (e, .key k))
  else (match plcF l p with
    | .inl q => .inl q
    | .inr (e, n) => .inr (e, .num n))
def pthF (l : List Nat) : Nat → Nat → List Stp → Sum Nat (List Stp)
  | 0, p, _ => .inl p
  | f + 1, p, acc => match stpF l p with
    | .inl q => .inl q
    | .inr (e, s) => match l[e]? with
      | none => .inr (acc ++ [s])
      | some c => if c = 47 then pthF l f (e + 1) (acc ++ [s]) else .inl e
/-- what a text writes -/
def rdP (l : List Nat) : Sum Nat (List Stp) :=
  if l[0]? = some 46 then (if l.length = 1 then .inr [] else .inl 1) else pthF l (l.length + 1) 0 []
/-! ### where they end -/
theorem at_lt {l : List Nat} {p c : Nat} (h : l[p]? = some c) : p < l.length := (List.getElem?_eq_some_iff.mp h).1
theorem keyF_le {l : List Nat} : ∀ {f p : Nat} {acc : List Nat} {e : Nat} {k : List Nat}, keyF l f p acc = .inr (e, k) → p < e ∧ e ≤ l.length ∧ k.length + p + 1 ≤ acc.length + e
  | 0, p, acc, e, k, h => by cases h
  | f + 1, p, acc, e, k, h => by
    rw [keyF] at h
    cases hc : l[p]? with
    | none =>
      rw [hc] at h
      cases h
    | some c =>
      rw [hc] at h
      have pl := at_lt hc
      simp only at h
      split at h
      · injection h with h
        injection h with h1 h2
        subst h1 h2
        omega
      · split at h
        · cases hd : l[p + 1]? with
          | none =>
            rw [hd] at h
            cases h
          | some d =>
            rw [hd] at h
            have := at_lt hd
            simp only at h
            split at h
            · obtain ⟨q1, q2, q3⟩ := keyF_le h
              rw [List.length_append] at q3
              simp only [List.length_cons, List.length_nil] at q3
              omega
            · cases h
        · obtain ⟨q1, q2, q3⟩ := keyF_le h
          rw [List.length_append] at q3
          simp only [List.length_cons, List.length_nil] at q3
          omega
theorem digF_le {l : List Nat} {b : Nat} : ∀ {f e x : Nat}, digF l b f e = .inr x → e ≤ l.length → e ≤ x ∧ x ≤ l.length ∧ ∀ i, e ≤ i → i < x → ∃ c, l[i]? = some c ∧ dgt c = true
  | 0, e, x, h, _ => by cases h
  | f + 1, e, x, h, hl => by
    rw [digF] at h
    cases hc : l[e]? with
    | none =>
      rw [hc] at h
      cases h
      exact ⟨Nat.le_refl _, hl, fun i a b => by omega⟩
    | some c =>
      rw [hc] at h
      simp only at h
      split at h
      · rename_i hd
        split at h
        · cases h
        · obtain ⟨q1, q2, q3⟩ := digF_le h (at_lt hc)
          refine ⟨by omega, q2, fun i a b => ?_⟩
          by_cases hi : i = e
          · subst hi
            exact ⟨c, hc, hd⟩
          · exact q3 i (by omega) b
      · cases h
        exact ⟨Nat.le_refl _, hl, fun i a b => by omega⟩
theorem digF_20 {l : List Nat} {b : Nat} : ∀ {f e x : Nat}, digF l b f e = .inr x → e ≤ b + 20 → x ≤ b + 20
  | 0, e, x, h, _ => by cases h
  | f + 1, e, x, h, hl => by
    rw [digF] at h
    cases hc : l[e]? with
    | none =>
      rw [hc] at h
      cases h
      exact hl
    | some c =>
      rw [hc] at h
      simp only at h
      split at h
      · split at h
        · cases h
        · rename_i n
          exact digF_20 h (by omega)
      · cases h
        exact hl
/-- the figures of a number are a number's text -/
theorem num_text {l : List Nat} {b e : Nat} (hb : b < e) (he : e ≤ l.length) (h20 : e ≤ b + 20) (h : ∀ i, b ≤ i → i < e → ∃ c, l[i]? = some c ∧ dgt c = true) : PySem.intText? (strN ((l.drop b).take (e - b))) = some ((numV l b e : Nat) : Int) ∧ (strN ((l.drop b).take (e - b))).length ≤ 20 := by
  have ll : ((l.drop b).take (e - b)).length = e - b := by
    rw [List.length_take, List.length_drop]
    omega
  have al : AllDigits (strN ((l.drop b).take (e - b))).cps.toList := by
    rw [cps_strN]
    intro c hc
    obtain ⟨i, hi⟩ := List.getElem?_of_mem hc
    have il := (List.getElem?_eq_some_iff.mp hi).1
    rw [ll] at il
    rw [List.getElem?_take_of_lt il, List.getElem?_drop] at hi
    obtain ⟨d, h1, h2⟩ := h (b + i) (by omega) (by omega)
    rw [h1] at hi
    cases hi
    exact of_decide_eq_true h2
  have := PySem.intText_digits al (by rw [cps_strN]; intro z; have := congrArg List.length z; rw [ll] at this; simp at this; omega) (by rw [strN_len, ll]; omega)
  rw [cps_strN] at this
  exact ⟨this, by rw [strN_len, ll]; omega⟩
end G58

set_option Elab.async false
set_option linter.all false
set_option maxRecDepth 100000
set_option maxHeartbeats 4000000
/-! Plain: a path's text tells the path. -/
namespace G58
open PySem PySem.Spec PyProof.Rows L2 NumText
def esc1 (c : Nat) : List Nat := if c = 34 ∨ c = 92 then [92, c] else [c]
def escK (k : List Nat) : List Nat := k.flatMap esc1
def decL (n : Nat) : List Nat := (Str.ofString (toString ((n : Nat) : Int))).cps.toList
def txtS : Stp → List Nat
  | .num n => decL n
  | .key k => 34 :: (escK k ++ [34])
def joinT : List Stp → List Nat
  | [] => []
  | [s] => txtS s
  | s :: r => txtS s ++ 47 :: joinT r
def wrt (p : List Stp) : List Nat := if p = [] then [46] else joinT p
/-- a number whose figures are as they should be -/
def numOk (n : Nat) : Bool := (decL n).all dgt && (decide (decL n ≠ []) && (decide ((decL n).length ≤ 20) && (decide ((decL n)[0]? = some 48 → (decL n).length = 1) && decide (digitsVal (decL n) = n))))
theorem numOk_small : ∀ n, n < 1000 → numOk n = true := by decide +kernel
theorem numOk_19 : numOk 10000000000000000000 = true := by decide +kernel
theorem numOk_20 : numOk 99999999999999999999 = true := by decide +kernel
def Stp.ok : Stp → Prop
  | .num n => n < 100000000000000000000 ∧ numOk n = true
  | .key k => k.length ≤ 1000
theorem at_pre (pre : List Nat) (c : Nat) (post : List Nat) : (pre ++ c :: post)[pre.length]? = some c := by simp
theorem keyF_esc : ∀ (k pre post acc : List Nat) (f : Nat), (escK k).length < f → keyF (pre ++ (escK k ++ 34 :: post)) f pre.length acc = .inr (pre.length + (escK k).length + 1, acc ++ k)
  | [], pre, post, acc, f, hf => by
    cases f with
    | zero => exact absurd hf (Nat.not_lt_zero _)
    | succ f =>
      have e : (pre ++ (escK [] ++ 34 :: post))[pre.length]? = some 34 := at_pre pre 34 post
      rw [keyF, e]
      show (if (34 : Nat) = 34 then Sum.inr (pre.length + 1, acc) else _) = _
      rw [if_pos rfl, List.append_nil]
      rfl
  | c :: k, pre, post, acc, f, hf => by
    cases f with
    | zero => exact absurd hf (Nat.not_lt_zero _)
    | succ f =>
      have ek : escK (c :: k) = esc1 c ++ escK k := rfl
      by_cases h : c = 34 ∨ c = 92
      · have e1 : esc1 c = [92, c] := if_pos h
        rw [ek, e1] at hf ⊢
        have el : pre ++ ([92, c] ++ escK k ++ 34 :: post) = pre ++ 92 :: c :: (escK k ++ 34 :: post) := by simp
        rw [el]
        have g1 : (pre ++ 92 :: c :: (escK k ++ 34 :: post))[pre.length]? = some 92 := at_pre _ _ _
        have g2 : (pre ++ 92 :: c :: (escK k ++ 34 :: post))[pre.length + 1]? = some c := by
          have := at_pre (pre ++ [92]) c (escK k ++ 34 :: post)
          rw [List.length_append, List.append_assoc] at this
          exact this
        have ih := keyF_esc k (pre ++ [92, c]) post (acc ++ [c]) f (by rw [List.length_append] at hf; simp only [List.length_cons, List.length_nil] at hf; omega)
        rw [keyF, g1]
        show (if (92 : Nat) = 34 then _ else if (92 : Nat) = 92 then (match (pre ++ 92 :: c :: (escK k ++ 34 :: post))[pre.length + 1]? with | some d => _ | none => _) else _) = _
        rw [if_neg (by decide), if_pos rfl, g2]
        show (if c = 34 ∨ c = 92 then keyF _ f (pre.length + 2) (acc ++ [c]) else _) = _
        rw [if_pos h]
        rw [List.length_append] at ih
        have el2 : pre ++ [92, c] ++ (escK k ++ 34 :: post) = pre ++ 92 :: c :: (escK k ++ 34 :: post) := by simp
        rw [el2] at ih
        have ih : keyF (pre ++ 92 :: c :: (escK k ++ 34 :: post)) f (pre.length + 2) (acc ++ [c]) = .inr (pre.length + 2 + (escK k).length + 1, acc ++ [c] ++ k) := ih
        rw [ih]
        congr 2
        · rw [List.length_append]
          simp only [List.length_cons, List.length_nil]
          omega
        · simp
      · have e1 : esc1 c = [c] := if_neg h
        rw [ek, e1] at hf ⊢
        have el : pre ++ ([c] ++ escK k ++ 34 :: post) = pre ++ c :: (escK k ++ 34 :: post) := by simp
        rw [el]
        have g1 : (pre ++ c :: (escK k ++ 34 :: post))[pre.length]? = some c := at_pre _ _ _
        have ih := keyF_esc k (pre ++ [c]) post (acc ++ [c]) f (by rw [List.length_append] at hf; simp only [List.length_cons, List.length_nil] at hf; omega)
        rw [keyF, g1]
        show (if c = 34 then _ else if c = 92 then _ else keyF _ f (pre.length + 1) (acc ++ [c])) = _
        rw [if_neg (fun q => h (.inl q)), if_neg (fun q => h (.inr q))]
        rw [List.length_append] at ih
        have el2 : pre ++ [c] ++ (escK k ++ 34 :: post) = pre ++ c :: (escK k ++ 34 :: post) := by simp
        rw [el2] at ih
        have ih : keyF (pre ++ c :: (escK k ++ 34 :: post)) f (pre.length + 1) (acc ++ [c]) = .inr (pre.length + 1 + (escK k).length + 1, acc ++ [c] ++ k) := ih
        rw [ih]
        congr 2
        · rw [List.length_append]
          simp only [List.length_cons, List.length_nil]
          omega
        · simp
/-- what stands behind a step -/
def Ends1 (post : List Nat) : Prop := post = [] ∨ ∃ r, post = 47 :: r
theorem digF_num {pre ds post : List Nat} (hd : ∀ c ∈ ds, dgt c = true) (hl : ds.length ≤ 20) (h0 : ds[0]? = some 48 → ds.length = 1) (hp : Ends1 post) : ∀ (m j f : Nat), ds.length - j = m → 1 ≤ j → j ≤ ds.length → m < f → digF (pre ++ (ds ++ post)) pre.length f (pre.length + j) = .inr (pre.length + ds.length)
  | m, j, 0, _, _, _, hf => absurd hf (Nat.not_lt_zero _)
  | 0, j, f + 1, hm, h1, h2, hf => by
    have ej : j = ds.length := by omega
    subst ej
    rw [digF]
    have e : (pre ++ (ds ++ post))[pre.length + ds.length]? = post[0]? := by
      rw [List.getElem?_append_right (by omega), Nat.add_sub_cancel_left, List.getElem?_append_right (Nat.le_refl _), Nat.sub_self]
    rw [e]
    rcases hp with rfl | ⟨r, rfl⟩
    · rfl
    · show (if dgt 47 = true then _ else Sum.inr (pre.length + ds.length)) = _
      rw [if_neg (by decide)]
  | m + 1, j, f + 1, hm, h1, h2, hf => by
    have jl : j < ds.length := by omega
    have e : (pre ++ (ds ++ post))[pre.length + j]? = some ds[j] := by
      rw [List.getElem?_append_right (by omega), Nat.add_sub_cancel_left, List.getElem?_append_left jl, List.getElem?_eq_getElem jl]
    have e0 : (pre ++ (ds ++ post))[pre.length]? = ds[0]? := by
      rw [List.getElem?_append_right (Nat.le_refl _), Nat.sub_self, List.getElem?_append_left (by omega)]
    rw [digF, e]
    show (if dgt ds[j] = true then (if (pre ++ (ds ++ post))[pre.length]? = some 48 ∨ pre.length + j - pre.length = 20 then _ else digF _ _ f (pre.length + j + 1)) else _) = _
    rw [if_pos (hd _ (List.getElem_mem jl)), e0, if_neg]
    · exact digF_num hd hl h0 hp m (j + 1) f (by omega) (by omega) (by omega) (by omega)
    · rintro (q | q)
      · have := h0 q
        omega
      · omega
theorem stpF_txt {pre post : List Nat} {s : Stp} (h : s.ok) (hp : Ends1 post) : stpF (pre ++ (txtS s ++ post)) pre.length = .inr (pre.length + (txtS s).length, s) := by
  cases s with
  | key k =>
    have el : pre ++ (txtS (.key k) ++ post) = pre ++ 34 :: (escK k ++ 34 :: post) := by
      show pre ++ ((34 :: (escK k ++ [34])) ++ post) = _
      simp
    rw [el]
    unfold stpF
    rw [if_pos (at_pre _ _ _)]
    have := keyF_esc k (pre ++ [34]) post [] ((pre ++ 34 :: (escK k ++ 34 :: post)).length + 1) (by rw [List.length_append, List.length_cons, List.length_append]; omega)
    have hl1 : (pre ++ [34]).length = pre.length + 1 := by simp
    rw [hl1] at this
    have el2 : pre ++ [34] ++ (escK k ++ 34 :: post) = pre ++ 34 :: (escK k ++ 34 :: post) := by simp
    rw [el2] at this
    have this : keyF (pre ++ 34 :: (escK k ++ 34 :: post)) ((pre ++ 34 :: (escK k ++ 34 :: post)).length + 1) (pre.length + 1) [] = .inr (pre.length + 1 + (escK k).length + 1, [] ++ k) := this
    rw [this]
    show Sum.inr (pre.length + 1 + (escK k).length + 1, Stp.key ([] ++ k)) = Sum.inr (pre.length + (34 :: (escK k ++ [34])).length, Stp.key k)
    rw [List.length_cons, List.length_append, List.nil_append]
    congr 2
    simp only [List.length_cons, List.length_nil]
    omega
  | num n =>
    have h : numOk n = true := h.2
    unfold numOk at h
    simp only [Bool.and_eq_true, decide_eq_true_eq, List.all_eq_true] at h
    obtain ⟨h1, h2, h3, h4, h5⟩ := h
    show stpF (pre ++ (decL n ++ post)) pre.length = .inr (pre.length + (decL n).length, .num n)
    generalize decL n = ds at *
    have lp : 0 < ds.length := List.length_pos_iff.mpr h2
    have e0 : (pre ++ (ds ++ post))[pre.length]? = some ds[0] := by
      rw [List.getElem?_append_right (Nat.le_refl _), Nat.sub_self, List.getElem?_append_left lp, List.getElem?_eq_getElem lp]
    have hd0 := h1 _ (List.getElem_mem lp)
    unfold stpF
    rw [e0, if_neg (fun q => by
      have : ds[0] = 34 := Option.some.inj q
      rw [this] at hd0
      exact absurd hd0 (by decide))]
    unfold plcF
    rw [e0]
    have hdf := digF_num (pre := pre) (post := post) h1 h3 h4 hp (ds.length - 1) 1 ((pre ++ (ds ++ post)).length + 1) rfl (Nat.le_refl _) lp (by rw [List.length_append, List.length_append]; omega)
    simp only [hd0, if_true, hdf]
    have ev : numV (pre ++ (ds ++ post)) pre.length (pre.length + ds.length) = n := by
      unfold numV
      rw [Nat.add_sub_cancel_left, List.drop_left, List.take_left, h5]
    rw [ev]
theorem txtS_ne {s : Stp} (h : s.ok) : 0 < (txtS s).length ∧ (txtS s)[0]? ≠ some 46 := by
  cases s with
  | key k => exact ⟨Nat.succ_pos _, by show some 34 ≠ some 46; decide⟩
  | num n =>
    have h : numOk n = true := h.2
    unfold numOk at h
    simp only [Bool.and_eq_true, decide_eq_true_eq, List.all_eq_true] at h
    obtain ⟨h1, h2, h3, h4, h5⟩ := h
    have lp : 0 < (decL n).length := List.length_pos_iff.mpr h2
    refine ⟨lp, fun q => ?_⟩
    have q : (decL n)[0]? = some 46 := q
    have := h1 46 (List.mem_of_getElem? q)
    exact absurd this (by decide)
theorem pthF_join : ∀ (p : List Stp) (pre : List Nat) (acc : List Stp) (f : Nat), p ≠ [] → (∀ s ∈ p, s.ok) → p.length ≤ f → pthF (pre ++ joinT p) f pre.length acc = .inr (acc ++ p)
  | [], _, _, _, h, _, _ => absurd rfl h
  | [s], pre, acc, f, _, h, hf => by
    cases f with
    | zero => exact absurd hf (by simp)
    | succ f =>
      have e := stpF_txt (pre := pre) (post := []) (h s (List.mem_cons_self ..)) (.inl rfl)
      rw [List.append_nil] at e
      show pthF (pre ++ txtS s) (f + 1) pre.length acc = _
      rw [pthF, e]
      show (match (pre ++ txtS s)[pre.length + (txtS s).length]? with | none => _ | some c => _) = _
      rw [List.getElem?_eq_none (by rw [List.length_append]; exact Nat.le_refl _)]
  | s :: s2 :: r, pre, acc, f, _, h, hf => by
    cases f with
    | zero => exact absurd hf (by simp)
    | succ f =>
      have ej : joinT (s :: s2 :: r) = txtS s ++ 47 :: joinT (s2 :: r) := rfl
      have e := stpF_txt (pre := pre) (post := 47 :: joinT (s2 :: r)) (h s (List.mem_cons_self ..)) (.inr ⟨_, rfl⟩)
      rw [ej, pthF, e]
      show (match (pre ++ (txtS s ++ 47 :: joinT (s2 :: r)))[pre.length + (txtS s).length]? with | none => _ | some c => _) = _
      have g : (pre ++ (txtS s ++ 47 :: joinT (s2 :: r)))[pre.length + (txtS s).length]? = some 47 := by
        have := at_pre (pre ++ txtS s) 47 (joinT (s2 :: r))
        rw [List.length_append, List.append_assoc] at this
        exact this
      rw [g]
      show (if (47 : Nat) = 47 then pthF _ f (pre.length + (txtS s).length + 1) (acc ++ [s]) else _) = _
      rw [if_pos rfl]
      have ih := pthF_join (s2 :: r) (pre ++ (txtS s ++ [47])) (acc ++ [s]) f (fun z => nomatch z) (fun y hy => h y (List.mem_cons_of_mem _ hy)) (by simp only [List.length_cons] at hf ⊢; omega)
      have el : pre ++ (txtS s ++ [47]) ++ joinT (s2 :: r) = pre ++ (txtS s ++ 47 :: joinT (s2 :: r)) := by simp
      have el2 : (pre ++ (txtS s ++ [47])).length = pre.length + (txtS s).length + 1 := by
        rw [List.length_append, List.length_append, List.length_singleton]
        omega
      rw [el, el2] at ih
      rw [ih, List.append_assoc]
      rfl
theorem joinT_len : ∀ p : List Stp, (∀ s ∈ p, s.ok) → p.length ≤ (joinT p).length
  | [], _ => Nat.le_refl _
  | [s], h => (txtS_ne (h s (List.mem_cons_self ..))).1
  | s :: s2 :: r, h => by
    have := joinT_len (s2 :: r) fun y hy => h y (List.mem_cons_of_mem _ hy)
    show _ ≤ (txtS s ++ 47 :: joinT (s2 :: r)).length
    rw [List.length_append, List.length_cons]
    simp only [List.length_cons] at this ⊢
    omega
/-- the text of a path tells the path -/
theorem rdP_wrt {p : List Stp} (h : ∀ s ∈ p, s.ok) : rdP (wrt p) = .inr p := by
  by_cases c : p = []
  · subst c
    rfl
  · unfold wrt
    rw [if_neg c]
    unfold rdP
    have h0 : (joinT p)[0]? ≠ some 46 := by
      cases p with
      | nil => exact absurd rfl c
      | cons s r =>
        have ht := txtS_ne (h s (List.mem_cons_self ..))
        cases r with
        | nil => exact ht.2
        | cons s2 r =>
          show (txtS s ++ 47 :: joinT (s2 :: r))[0]? ≠ some 46
          rw [List.getElem?_append_left ht.1]
          exact ht.2
    rw [if_neg h0]
    have := pthF_join p [] [] ((joinT p).length + 1) c h (by have := joinT_len p h; omega)
    exact this
end G58

set_option Elab.async false
set_option linter.all false
set_option maxRecDepth 100000
set_option maxHeartbeats 4000000
/-! k75: the law's source of draws, its picks. -/
namespace G58
open PySem PySem.Spec PyProof.Rows L2 NumText
/-- a source stands at S -/
def SrcAt (H : Hp) (S : Addr) : Prop := ∃ x y z : Int, H S = some (.lst [.int x, .int y, .int z])
def spSrc : Sp := fun vs H Q _ => ∃ n : Int, vs = [.int n] ∧ ∀ p H', H p = none → Same H H' → SrcAt H' p → Q (.ref p) H'
/-- all that was tracked stays but what is at S -/
def But (S : Addr) (H H' : Hp) : Prop := ∀ b o, H b = some o → b ≠ S → H' b = some o
theorem But.refl (S : Addr) (H : Hp) : But S H H := fun _ _ h _ => h
theorem But.trans {S : Addr} {H H1 H2 : Hp} (x : But S H H1) (y : But S H1 H2) : But S H H2 := fun b o h n => y b o (x b o h n) n
theorem But.same {S : Addr} {H H1 H2 : Hp} (x : But S H H1) (y : Same H1 H2) : But S H H2 := fun b o h n => y b o (x b o h n)
theorem But.upd {S : Addr} {H : Hp} {o : HO} : But S H (L2.upd H S o) := fun b u h n => by
  rw [upd_ne n]
  exact h
theorem Same.but {S : Addr} {H H1 : Hp} (x : Same H H1) : But S H H1 := fun b o h _ => x b o h
def spDrw : Sp := fun vs H Q _ => ∃ (S : Addr) (m : Int), vs = [.ref S, .int m] ∧ SrcAt H S ∧ 0 < m ∧ m < 1073741824 ∧ ∀ (r : Int) (H' : Hp), 0 ≤ r → r < m → SrcAt H' S → But S H H' → (∀ b, H b = none → H' b = none) → Q (.int r) H'
def spPik : Sp := fun vs H Q _ => ∃ (S L : Addr) (xs : List V), vs = [.ref S, .ref L] ∧ SrcAt H S ∧ H L = some (.lst xs) ∧ L ≠ S ∧ 0 < xs.length ∧ xs.length < 1000 ∧ ∀ (i : Nat) (x : V) (H' : Hp), xs[i]? = some x → SrcAt H' S → But S H H' → (∀ b, H b = none → H' b = none) → Q x H'
section
variable {P : Program} {w : World} {K : PySem.W.Frag} {mg : Str → Option Value} {base : Heap} {a : Ad}
theorem scSrc : FnScope ["_law_cell"] ["_law_cell"] (defScope sSrc) := ⟨rfl, rfl, rfl, by decide +kernel, rfl, by decide +kernel, by decide +kernel⟩
theorem scDrw : FnScope ["_law_source_here", "_law_many", "_law_found", "_law_mixed"] ["_law_source_here", "_law_many"] (defScope sDrw) := ⟨rfl, rfl, rfl, by decide +kernel, rfl, by decide +kernel, by decide +kernel⟩
theorem scPik : FnScope ["_law_source_here", "_law_items"] ["_law_source_here", "_law_items"] (defScope sPik) := ⟨rfl, rfl, rfl, by decide +kernel, rfl, by decide +kernel, by decide +kernel⟩
theorem ok_src (D : Df K a) (T : Txt K mg a) : FnOk P w K mg base CX0 1 a.fSrc D.dSrc ["_law_cell"] spSrc := by
  refine D.FSrc.ok scSrc (fun vs H Q E h => ?_) (fun cdv A outer s H vs Q E hr h => ?_)
  · obtain ⟨n, rfl, _⟩ := h
    rfl
  · obtain ⟨n, rfl, k⟩ := h
    refine ⟨_, (pss_one (ps_ret (pe_lst (pa_cons (pe_callB call_abs (by rfl) T.babs (by decide +kernel) (pa_cons (pv 0) pa_nil)) (pa_cons (pe_op op_mod (pe_callTy call_int1 (by rfl) T.bint (by decide +kernel) (pa_cons (pv 0) pa_nil)) pe_int) (pa_cons pe_int pa_nil)))))), ?_⟩
    refine ⟨_, rfl, n, rfl, _, rfl, .inl ⟨_, rfl, _, _, rfl, rfl, by show (0 : Int) < 2147483629; decide, by show 3 ≤ sizeLine; decide, fun p hp => ?_⟩⟩
    exact k p _ hp (same_new (Same.refl H) hp) ⟨_, _, _, upd_same⟩
theorem ok_drw (D : Df K a) (T : Txt K mg a) : FnOk P w K mg base CX0 1 a.fDrw D.dDrw ["_law_source_here", "_law_many"] spDrw := by
  refine D.FDrw.ok scDrw (fun vs H Q E h => ?_) (fun cdv A outer s H vs Q E hr h => ?_)
  · obtain ⟨S, m, rfl, _⟩ := h
    rfl
  · obtain ⟨S, m, rfl, ⟨x, y, z, hS⟩, h0, h1, k⟩ := h
    refine ⟨_, (pss_cons (ps_if (pt_cmpR op_ge (pe_ix ix_list (pv 0) pe_int (fun _ _ => rfl)) (pe_op op_pow pe_int pe_int) (nomark _)) (pss_cons (ps_set (i := 2) scDrw.nd rfl (.inl rfl) (pe_op op_mod (pe_callTy call_int1 (by rfl) T.bint (by decide +kernel) (pa_cons (pe_ix ix_list (pv 0) pe_int (fun _ _ => rfl)) pa_nil)) (pv 1))) (pss_cons (ps_asg (pe_op op_fdiv (pe_ix ix_list (pv 0) pe_int (fun _ _ => rfl)) (pv 1)) (pg_sub (pv 0) pe_int set_list)) (pss_one (ps_ret (pv 2))))) pss_nil) (pss_cons (ps_asg (pe_op op_add (pe_ix ix_list (pv 0) pe_int (fun _ _ => rfl)) pe_int) (pg_sub (pv 0) pe_int set_list)) (pss_cons (ps_set (i := 3) scDrw.nd rfl (.inl rfl) (pe_op op_mod (pe_callTy call_int1 (by rfl) T.bint (by decide +kernel) (pa_cons (pe_op op_mul (pe_op op_add (pe_op op_add (pe_ix ix_list (pv 0) pe_int (fun _ _ => rfl)) (pe_op op_mul pe_int (pe_ix ix_list (pv 0) pe_int (fun _ _ => rfl)))) pe_int) pe_int) pa_nil)) pe_int)) (pss_cons (ps_set (i := 3) scDrw.nd rfl (.inl rfl) (pe_op op_mod (pe_callTy call_int1 (by rfl) T.bint (by decide +kernel) (pa_cons (pe_op op_mul (pv 3) (pe_op op_add (pe_op op_fdiv (pv 3) pe_int) pe_int)) pa_nil)) pe_int)) (pss_one (ps_ret (pe_op op_mod (pe_callTy call_int1 (by rfl) T.bint (by decide +kernel) (pa_cons (pe_op op_mod (pe_callTy call_int1 (by rfl) T.bint (by decide +kernel) (pa_cons (pe_op op_add (pe_op op_fdiv (pv 3) pe_int) (pe_op op_mul (pe_op op_mod (pe_callTy call_int1 (by rfl) T.bint (by decide +kernel) (pa_cons (pv 3) pa_nil)) pe_int) pe_int)) pa_nil)) pe_int) pa_nil)) (pv 1)))))))), ?_⟩
    have at0 : ∀ {u v t : V}, atI [u, v, t] 0 = some u := rfl
    have at1 : ∀ {u v t : V}, atI [u, v, t] 1 = some v := rfl
    have at2 : ∀ {u v t : V}, atI [u, v, t] 2 = some t := rfl
    have fr : ∀ {o : HO}, ∀ b, H b = none → (upd H S o) b = none := fun b hb => by
      rw [upd_ne (ne_of_none hS hb).symm]
      exact hb
    refine ⟨_, rfl, S, _, _, _, rfl, rfl, .inl (.inl hS), at0, _, _, rfl, rfl, ⟨by decide, by decide, by decide⟩, _, _, rfl, rfl, _, rfl, ?_⟩
    refine ite2 (fun _ => ?_) (fun _ => ?_)
    · refine ⟨_, rfl, S, _, _, _, rfl, rfl, .inl (.inl hS), at0, .inl ⟨_, rfl, _, rfl, _, _, rfl, rfl, h0, ?_⟩⟩
      refine ⟨_, rfl, S, _, _, _, rfl, rfl, .inl (.inl hS), at0, _, rfl, _, _, rfl, rfl, ⟨h0, h1⟩, _, rfl, S, _, _, 0, rfl, rfl, hS, rfl, ?_⟩
      refine ⟨_, rfl, k _ _ (Int.emod_nonneg _ (by omega)) (Int.emod_lt_of_pos _ h0) ⟨_, _, _, upd_same⟩ But.upd fr⟩
    · refine ⟨_, rfl, S, _, _, _, rfl, rfl, .inl (.inl hS), at2, _, _, rfl, rfl, _, rfl, S, _, _, 2, rfl, rfl, hS, rfl, ?_⟩
      refine ⟨_, rfl, S, _, _, _, rfl, rfl, .inl (.inl upd_same), at1, _, rfl, S, _, _, _, rfl, rfl, .inl (.inl upd_same), at2, _, _, rfl, rfl, .inl ⟨by decide, by decide⟩, _, _, rfl, rfl, _, _, rfl, rfl, _, _, rfl, rfl, .inr ⟨by decide, by decide⟩,
        .inl ⟨_, rfl, _, _, rfl, rfl, by show (0 : Int) < 2147483647; decide, ?_⟩⟩
      generalize hm : ((y + 7919 * (z + 1) + 1) * 48271 : Int) % 2147483647 = q
      have q0 : 0 ≤ q := by rw [← hm]; exact Int.emod_nonneg _ (by decide)
      have q1 : q < 2147483647 := by rw [← hm]; exact Int.emod_lt_of_pos _ (by decide)
      refine ⟨_, rfl, _, rfl, _, _, rfl, rfl, ⟨by decide, by decide⟩, _, _, rfl, rfl, _, _, rfl, rfl, .inl ⟨by omega, by omega⟩, .inl ⟨_, rfl, _, _, rfl, rfl, by show (0 : Int) < 2147483587; decide, ?_⟩⟩
      refine ⟨_, rfl, _, _, rfl, rfl, ⟨by decide, by decide⟩, _, rfl, .inl ⟨_, rfl, _, _, rfl, rfl, by show (0 : Int) < 7919; decide, _, _, rfl, rfl, .inr ⟨by decide, by decide⟩, _, _, rfl, rfl, .inl ⟨_, rfl, _, _, rfl, rfl, by show (0 : Int) < 2147483399; decide,
        .inl ⟨_, rfl, _, rfl, _, _, rfl, rfl, h0, ?_⟩⟩⟩⟩
      exact k _ _ (Int.emod_nonneg _ (by omega)) (Int.emod_lt_of_pos _ h0) ⟨_, _, _, upd_same⟩ But.upd fr
theorem ok_pik (D : Df K a) (T : Txt K mg a) : FnOk P w K mg base CX0 2 a.fPik D.dPik ["_law_source_here", "_law_items"] spPik := by
  have GDrw : FnOk P w K mg base CX0 1 a.fDrw D.dDrw ["_law_source_here", "_law_many"] spDrw := ok_drw D T
  refine D.FPik.ok scPik (fun vs H Q E h => ?_) (fun cdv A outer s H vs Q E hr h => ?_)
  · obtain ⟨S, L, xs, rfl, _⟩ := h
    rfl
  · obtain ⟨S, L1, xs, rfl, hS, hL, ne, l0, l1, k⟩ := h
    refine ⟨_, (pss_one (ps_ret (pe_ix ix_list (pv 1) (pe_call GDrw hr rfl T.gDrw D.FDrw.kp D.bDrw .nil pass0 (pa_cons (pv 0) (pa_cons (pe_callB call_len_seq (by rfl) T.blen PySem.boot_len (pa_cons (pv 1) pa_nil)) pa_nil))) (fun _ _ => rfl)))), ?_⟩
    refine ⟨_, rfl, _, rfl, _, rfl, L1, xs, rfl, .inl (.inl (.inl hL)), S, _, rfl, hS, by omega, by omega, fun r H' r0 r1 hS' hB hF => ?_⟩
    have hi : r.toNat < xs.length := by omega
    refine ⟨L1, xs, r, xs[r.toNat], rfl, rfl, .inl (.inl (hB L1 _ hL ne)), ?_, k r.toNat _ H' (by simp [hi]) hS' hB hF⟩
    exact at_of (j := r.toNat) (by omega) (by simp [hi])
end
end G58

set_option Elab.async false
set_option linter.all false
set_option pp.maxSteps 2500
set_option maxRecDepth 100000
set_option maxHeartbeats 4000000
/-! The reader of texts. -/
namespace G58
open PySem PySem.Spec PyProof.Rows L2 NumText
abbrev plc (v : V) : List (Str × V) := [("place", v)]
def scF (l : List Nat) (p : Nat) : List (Str × V) := [("text", .str (strN l)), ("place", .int ((p : Nat) : Int))]
/-- a scanner at p of a text -/
def ScAt (a : Ad) (H : Hp) (x : Addr) (l : List Nat) (p : Nat) : Prop := ∃ dx, H x = some (.ins a.cScanner dx (scF l p))
def ButX (x : Addr) (H H' : Hp) : Prop := ∀ b o, H b = some o → b ≠ x → H' b = some o
theorem ButX.refl (x : Addr) (H : Hp) : ButX x H H := fun _ _ h _ => h
theorem ButX.trans {x : Addr} {H H1 H2 : Hp} (s : ButX x H H1) (t : ButX x H1 H2) : ButX x H H2 := fun b o h n => t b o (s b o h n) n
theorem ButX.same {x : Addr} {H H1 H2 : Hp} (s : ButX x H H1) (t : Same H1 H2) : ButX x H H2 := fun b o h n => t b o (s b o h n)
theorem ButX.of {x : Addr} {H H1 : Hp} (t : Same H H1) : ButX x H H1 := fun b o h _ => t b o h
theorem ButX.put {x : Addr} {H : Hp} {o : HO} : ButX x H (upd H x o) := fun b u h n => by
  rw [upd_ne n]
  exact h
/-- BadText with a place leaves -/
def OutB (a : Ad) (H : Hp) (E : XK) (x : Addr) (q : Nat) : Prop := ∀ d H', ButX x H H' → H' d = some (.xd (plc (.int ((q : Nat) : Int)))) → E (.ref a.cBadText) (some d) H'
theorem OutB.but {a : Ad} {H H1 : Hp} {E : XK} {x : Addr} {q : Nat} (h : OutB a H E x q) (s : ButX x H H1) : OutB a H1 E x q := fun d H' s' hd => h d H' (s.trans s') hd
def spEI (C : Addr) : Sp := fun vs H Q _ => ∃ (a : Addr) (v : V), vs = [.ref a, v] ∧ H a = some (exo a C none) ∧ ∀ dx, H dx = none → dx ≠ a → Q .non (upd (upd H dx (exd dx [(("place" : Str), v)])) a (exo a C (some dx)))
def spSin (a : Ad) : Sp := fun vs H Q _ => ∃ (x dx : Addr) (l : List Nat), vs = [.ref x, .str (strN l)] ∧ H x = some (.ins a.cScanner dx []) ∧ ∀ H', ButX x H H' → ScAt a H' x l 0 → Q .non H'
def spSgn (a : Ad) : Sp := fun vs H Q _ => ∃ (x : Addr) (l : List Nat) (p : Nat), vs = [.ref x] ∧ ScAt a H x l p ∧ l.length ≤ 100000 ∧ Q (.str (strN ((l.drop p).take 1))) H
def isAt (l g : List Nat) (p : Nat) : Bool := match l[p]? with
  | some c => decide (c ∈ g)
  | none => false
def spIsa (a : Ad) : Sp := fun vs H Q _ => ∃ (x : Addr) (l g : List Nat) (p : Nat), vs = [.ref x, .str (strN g)] ∧ ScAt a H x l p ∧ l.length ≤ 100000 ∧ Q (.bl (isAt l g p)) H
def spRfu (a : Ad) : Sp := fun vs H Q E => ∃ (x : Addr) (l : List Nat) (p : Nat), vs = [.ref x] ∧ ScAt a H x l p ∧ OutB a H E x p
def spExp (a : Ad) : Sp := fun vs H Q E => ∃ (x : Addr) (l : List Nat) (p c : Nat), vs = [.ref x, .str (strN [c])] ∧ ScAt a H x l p ∧ l.length ≤ 100000 ∧ (l[p]? = some c → ∀ H', ButX x H H' → ScAt a H' x l (p + 1) → Q .non H') ∧ (l[p]? ≠ some c → OutB a H E x p)
def spFns (a : Ad) : Sp := fun vs H Q E => ∃ (x : Addr) (l : List Nat) (p : Nat), vs = [.ref x] ∧ ScAt a H x l p ∧ l.length ≤ 100000 ∧ (l[p]? = none → Q .non H) ∧ (l[p]? ≠ none → OutB a H E x p)
def spFig (a : Ad) : Sp := fun vs H Q E => ∃ (x : Addr) (l : List Nat) (p : Nat), vs = [.ref x] ∧ ScAt a H x l p ∧ l.length ≤ 100000 ∧ (∀ q, plcF l p = .inl q → OutB a H E x q) ∧ (∀ e n, plcF l p = .inr (e, n) → ∀ H', ButX x H H' → ScAt a H' x l e → Q (.int ((n : Nat) : Int)) H')
theorem sg_some {l : List Nat} {p c : Nat} (h : l[p]? = some c) : strN ((l.drop p).take 1) = strN [c] := by
  have pl := at_lt h
  rw [List.drop_eq_getElem_cons pl, List.take_succ_cons, List.take_zero]
  have : l[p] = c := by
    have := (List.getElem?_eq_some_iff.mp h).2
    exact this
  rw [this]
theorem sg_none {l : List Nat} {p : Nat} (h : l[p]? = none) : strN ((l.drop p).take 1) = strN [] := by
  rw [List.drop_eq_nil_of_le (List.getElem?_eq_none_iff.mp h)]
  rfl
theorem sg_eq {l : List Nat} {p c : Nat} : (V.str (strN ((l.drop p).take 1)) = V.str (strN [c])) ↔ l[p]? = some c := by
  constructor
  · intro h
    have := strN_inj (V.str.inj h)
    cases e : l[p]? with
    | none =>
      rw [List.drop_eq_nil_of_le (List.getElem?_eq_none_iff.mp e)] at this
      cases this
    | some d =>
      have q := strN_inj (sg_some e)
      rw [q] at this
      injection this with this
      rw [this]
  · intro h
    rw [sg_some h]
theorem sg_nil {l : List Nat} {p : Nat} : (V.str (strN ((l.drop p).take 1)) = V.str (strN [])) ↔ l[p]? = none := by
  constructor
  · intro h
    have := strN_inj (V.str.inj h)
    cases e : l[p]? with
    | none => rfl
    | some d =>
      have q := strN_inj (sg_some e)
      rw [q] at this
      cases this
  · intro h
    rw [sg_none h]
theorem cut1 (l : List Nat) (p q : Nat) : cutS (strN l) (some ((p : Nat) : Int)) (some ((q : Nat) : Int)) = strN ((l.drop p).take (q - p)) := by
  unfold cutS
  rw [HT.sIx_nat, HT.sIx_nat, cps_strN, strN_len]
  unfold strN
  congr 1
  by_cases h1 : p ≤ l.length
  · rw [Nat.min_eq_left h1]
    by_cases h2 : q ≤ l.length
    · rw [Nat.min_eq_left h2]
    · rw [Nat.min_eq_right (by omega), List.take_of_length_le (by rw [List.length_drop]; exact Nat.le_refl _), List.take_of_length_le (by rw [List.length_drop]; omega)]
  · have h1' : min p l.length = l.length := by omega
    rw [h1', List.drop_length, List.drop_eq_nil_of_le (by omega), List.take_nil, List.take_nil]
theorem scF_text {l : List Nat} {p : Nat} : (scF l p).lookup ("text" : Str) = some (.str (strN l)) := by simp [scF, List.lookup]
theorem scF_place {l : List Nat} {p : Nat} : (scF l p).lookup ("place" : Str) = some (.int ((p : Nat) : Int)) := rfl
theorem scF_put {l : List Nat} {p q : Nat} : putF ("place" : Str) (.int ((q : Nat) : Int)) (scF l p) = scF l q := by
  show (if ("text" : Str) = "place" then _ else _) = _
  rw [if_neg (by decide +kernel)]
  show _ :: (if ("place" : Str) = "place" then _ else _) = _
  rw [if_pos rfl]
  rfl
theorem mk_read {C : Addr} {v : V} {H1 : Hp} {Qx : XK} (h : ∀ d, H1 d = none → Qx (.ref C) (some d) (upd H1 d (.xd (plc v)))) (x : Addr) (hx : H1 x = none) :
    spEI C (.ref x :: ([v] ++ [])) (upd H1 x (exo x C none)) (fun u H2 => u = .non ∧ ∃ (d : Addr) (fs : List (Str × V)), H2 x = some (exo x C (some d)) ∧ H2 d = some (exd d fs) ∧ H1 d = none ∧ Qx (.ref C) (some d) (upd (del H2 x) d (.xd fs))) (fun _ _ _ => False) := by
  refine ⟨x, v, rfl, upd_same, fun dx h1 h2 => ?_⟩
  rw [upd_ne h2] at h1
  refine ⟨rfl, dx, plc v, upd_same, by rw [upd_ne h2, upd_same], h1, ?_⟩
  have e : upd (del (upd (upd (upd H1 x (exo x C none)) dx (exd dx (plc v))) x (exo x C (some dx))) x) dx (.xd (plc v)) = upd H1 dx (.xd (plc v)) := by
    funext b
    by_cases hb : b = dx
    · rw [hb, upd_same, upd_same]
    · rw [upd_ne hb, upd_ne hb]
      by_cases hc : b = x
      · rw [hc, del_same, hx]
      · rw [del_ne hc, upd_ne hc, upd_ne hb, upd_ne hc]
  rw [e]
  exact h dx h1
theorem scF_no {l : List Nat} {p : Nat} {m : Str} (h1 : m ≠ "text") (h2 : m ≠ "place") : (scF l p).lookup m = none := by
  simp [scF, List.lookup, beq_eq_false_iff_ne.mpr h1, beq_eq_false_iff_ne.mpr h2]
theorem sg_nil' {l : List Nat} {p : Nat} : (V.str (strN ((l.drop p).take 1)) = V.str ("" : Str)) ↔ l[p]? = none := sg_nil
theorem str1 (c : Nat) : strN [c] = ⟨#[c]⟩ := rfl
section
variable {P : Program} {w : World} {K : PySem.W.Frag} {mg : Str → Option Value} {base : Heap} {a : Ad}
theorem sciT : FnScope ["self", "place"] ["self", "place"] (defScope siT) := ⟨rfl, rfl, rfl, by decide +kernel, rfl, by decide +kernel, by decide +kernel⟩
theorem ok_iT (D : Df K a) (T : Txt K mg a) : FnOk P w K mg base CX0 1 a.fiT D.diT ["self", "place"] (spEI a.cBadText) := by
  refine D.FiT.ok sciT (fun vs H Q E h => ?_) (fun cdv A outer s H vs Q E hr h => ?_)
  · obtain ⟨x, v, rfl, _⟩ := h
    rfl
  · obtain ⟨x, v, rfl, hx, k⟩ := h
    refine ⟨_, pss_one (ps_ost (pv 0) (pv 1)), ?_⟩
    exact ⟨_, rfl, _, rfl, x, a.cBadText, rfl, T.xBadText.ox, T.noBadText_place, .inl ⟨hx, fun dx h1 h2 => k dx h1 h2⟩⟩
theorem scSin : FnScope ["self", "text"] ["self", "text"] (defScope sSin) := ⟨rfl, rfl, rfl, by decide +kernel, rfl, by decide +kernel, by decide +kernel⟩
theorem ok_sin (D : Df K a) (T : Txt K mg a) : FnOk P w K mg base CX0 1 a.fSin D.dSin ["self", "text"] (spSin a) := by
  refine D.FSin.ok scSin (fun vs H Q E h => ?_) (fun cdv A outer s H vs Q E hr h => ?_)
  · obtain ⟨x, dx, l, rfl, _⟩ := h
    rfl
  · obtain ⟨x, dx, l, rfl, hx, k⟩ := h
    refine ⟨_, (pss_cons (ps_fld (pv 0) (pv 1) rfl) (pss_one (ps_fld (pv 0) pe_int rfl))), ?_⟩
    refine ⟨_, rfl, _, rfl, x, a.cScanner, dx, [], rfl, hx, T.clScanner, T.nScanner_text, by show 0 < 1000; decide, ?_⟩
    refine ⟨_, rfl, x, a.cScanner, dx, _, rfl, upd_same, T.clScanner, T.nScanner_place, by show 1 < 1000; decide, ?_⟩
    refine k _ (ButX.put.trans ButX.put) ⟨dx, ?_⟩
    rw [upd_same]
    rfl
theorem scSgn : FnScope ["self"] ["self"] (defScope sSgn) := ⟨rfl, rfl, rfl, by decide +kernel, rfl, by decide +kernel, by decide +kernel⟩
theorem ok_sgn (D : Df K a) (T : Txt K mg a) : FnOk P w K mg base CX0 1 a.fSgn D.dSgn ["self"] (spSgn a) := by
  refine D.FSgn.ok scSgn (fun vs H Q E h => ?_) (fun cdv A outer s H vs Q E hr h => ?_)
  · obtain ⟨x, l, p, rfl, _⟩ := h
    rfl
  · obtain ⟨x, l, p, rfl, ⟨dx, hx⟩, hl, k⟩ := h
    refine ⟨_, (pss_one (ps_ret (pe_slice sl_str (pe_fld (pv 0) rfl) (po_some (pe_fld (pv 0) rfl)) (po_some (pe_op op_add (pe_fld (pv 0) rfl) pe_int))))), ?_⟩
    refine ⟨_, rfl, x, a.cScanner, dx, _, _, rfl, hx, T.clScanner, T.nScanner_text, scF_text, ?_⟩
    refine ⟨_, rfl, x, a.cScanner, dx, _, _, rfl, hx, T.clScanner, T.nScanner_place, scF_place, _, rfl, ?_⟩
    refine ⟨_, rfl, x, a.cScanner, dx, _, _, rfl, hx, T.clScanner, T.nScanner_place, scF_place, _, _, rfl, rfl, _, rfl, strN l, rfl, by rw [strN_len]; exact Nat.le_trans hl (by decide), ?_⟩
    have e := cut1 l p (p + 1)
    rw [Nat.add_sub_cancel_left] at e
    show Q (.str (cutS (strN l) (some ((p : Nat) : Int)) (some (((p + 1 : Nat)) : Int)))) H
    rw [e]
    exact k
theorem scIsa : FnScope ["self", "signs"] ["self", "signs"] (defScope sIsa) := ⟨rfl, rfl, rfl, by decide +kernel, rfl, by decide +kernel, by decide +kernel⟩
theorem ok_isa (D : Df K a) (T : Txt K mg a) : FnOk P w K mg base CX0 2 a.fIsa D.dIsa ["self", "signs"] (spIsa a) := by
  have GSgn : FnOk P w K mg base CX0 1 a.fSgn D.dSgn ["self"] (spSgn a) := ok_sgn D T
  refine D.FIsa.ok scIsa (fun vs H Q E h => ?_) (fun cdv A outer s H vs Q E hr h => ?_)
  · obtain ⟨x, l, g, p, rfl, _⟩ := h
    rfl
  · obtain ⟨x, l, g, p, rfl, hS, hl, k⟩ := h
    refine ⟨_, (pss_one (ps_ret (pe_and (pe_cmpR op_ne (pe_meth0 (pv 0) T.clScanner T.mtSgn GSgn hr D.bSgn .nil pass0) pe_str (nomark _)) (pe_one (pe_cmpR op_in_sign (pe_meth0 (pv 0) T.clScanner T.mtSgn GSgn hr D.bSgn .nil pass0) (pv 1) rfl))))), ?_⟩
    obtain ⟨dx, hx⟩ := hS
    refine ⟨_, rfl, x, dx, _, rfl, hx, scF_no (by decide +kernel) (by decide +kernel), x, l, p, rfl, ⟨dx, hx⟩, hl, ?_⟩
    cases e : l[p]? with
    | none =>
      refine ⟨rfl, false, congrArg V.bl (by rw [decide_eq_true (sg_nil'.mpr e)]; rfl), iteF ?_⟩
      have e2 : isAt l g p = false := by unfold isAt; rw [e]
      rw [e2] at k
      exact k
    | some c =>
      refine ⟨rfl, true, congrArg V.bl (by rw [decide_eq_false (fun q => by rw [sg_nil'.mp q] at e; cases e)]; rfl), iteT ?_⟩
      refine ⟨_, rfl, x, dx, _, rfl, hx, scF_no (by decide +kernel) (by decide +kernel), x, l, p, rfl, ⟨dx, hx⟩, hl, _, rfl, c, strN g, by rw [sg_some e, str1], rfl, ?_⟩
      have e2 : isAt l g p = decide (c ∈ g) := by unfold isAt; rw [e]
      rw [e2] at k
      rw [cps_strN]
      exact k
theorem scRfu : FnScope ["self"] ["self"] (defScope sRfu) := ⟨rfl, rfl, rfl, by decide +kernel, rfl, by decide +kernel, by decide +kernel⟩
theorem ok_rfu (D : Df K a) (T : Txt K mg a) : FnOk P w K mg base (L2.CX P w) 3 a.fRfu D.dRfu ["self"] (spRfu a) := by
  have GiT : FnOk P w K mg base CX0 1 a.fiT D.diT ["self", "place"] (spEI a.cBadText) := ok_iT D T
  refine D.FRfu.okX scRfu (fun vs H Q E h => ?_) (fun cdv A outer s H vs Q E hr h => ?_)
  · obtain ⟨x, l, p, rfl, _⟩ := h
    rfl
  · obtain ⟨x, l, p, rfl, ⟨dx, hx⟩, k⟩ := h
    refine ⟨_, (pss_one (ps_raise rfl (takes_of rfl rfl rfl rfl) (pmk_oex T.xBadText.ox T.xBadText.ini T.xBadText.ti GiT hr D.biT .nil pass0 rfl T.gcBadText (pa_cons (pe_fld (pv 0) rfl) pa_nil)))), ?_⟩
    refine ⟨_, rfl, x, a.cScanner, dx, _, _, rfl, hx, T.clScanner, T.nScanner_place, scF_place, by show 1 ≤ 1000; decide, mk_read fun d hd => ?_⟩
    exact k d _ (ButX.of (same_new (Same.refl H) hd)) upd_same
theorem scExp : FnScope ["self", "signs", "sign"] ["self", "signs"] (defScope sExp) := ⟨rfl, rfl, rfl, by decide +kernel, rfl, by decide +kernel, by decide +kernel⟩
theorem ok_exp (D : Df K a) (T : Txt K mg a) : FnOk P w K mg base (L2.CX P w) 4 a.fExp D.dExp ["self", "signs"] (spExp a) := by
  have GSgn : FnOk P w K mg base CX0 1 a.fSgn D.dSgn ["self"] (spSgn a) := ok_sgn D T
  have GRfu : FnOk P w K mg base (L2.CX P w) 3 a.fRfu D.dRfu ["self"] (spRfu a) := ok_rfu D T
  refine D.FExp.okX scExp (fun vs H Q E h => ?_) (fun cdv A outer s H vs Q E hr h => ?_)
  · obtain ⟨x, l, p, c, rfl, _⟩ := h
    rfl
  · obtain ⟨x, l, p, c, rfl, ⟨dx, hx⟩, hl, k1, k2⟩ := h
    have hr1 : Room 1 _ := hr.mono (by decide)
    refine ⟨_, (pss_one (ps_for (passes_of rfl) rfl (pi_str (pv 1)) (pg_name (i := 2) scExp.nd rfl (.inl rfl)) (pss_cons (ps_if (pt_cmpR op_ne (pe_meth0 (pv 0) T.clScanner T.mtSgn GSgn hr1 D.bSgn .nil pass0) (pv 2) (nomark _)) (pss_one (ps_expr (pe_meth0 (pv 0) T.clScanner T.mtRfu GRfu hr D.bRfu .nil (passes_call (takes_of rfl rfl rfl rfl) (fun _ _ _ _ q => q))))) pss_nil) (pss_one (ps_fldaug (pv 0) pe_int in_add))))), ?_⟩
    refine ⟨_, rfl, strN [c], rfl, for_it (walk_str (z := strN [c])) (fun i st H' => ∃ u, st = [some (.ref x), some (.str (strN [c])), u] ∧ ((i = 0 ∧ H' = H) ∨ (i = 1 ∧ l[p]? = some c ∧ ButX x H H' ∧ ScAt a H' x l (p + 1)))) ⟨_, rfl, .inl ⟨rfl, rfl⟩⟩ (fun _ _ _ _ _ => True.intro) ?_ ?_⟩
    · rintro i y st H1 H2 hi ⟨u, rfl, hc⟩ ⟨rfl, d, hd, rfl⟩
      have hi : i < 1 := hi
      rcases hc with ⟨rfl, rfl⟩ | ⟨rfl, _⟩
      · have hd : (strN [c]).cps[0]? = some d := hd
        have ed : d = c := by
          have : some c = some d := hd
          exact (Option.some.inj this).symm
        subst ed
        refine ⟨_, rfl, x, dx, _, rfl, hx, scF_no (by decide +kernel) (by decide +kernel), x, l, p, rfl, ⟨dx, hx⟩, hl, _, rfl, rfl, ?_⟩
        by_cases e : l[p]? = some d
        · refine ⟨false, congrArg V.bl (by rw [← str1, decide_eq_true (sg_eq.mpr e)]; rfl), iteF ?_⟩
          refine ⟨_, rfl, x, a.cScanner, dx, _, _, rfl, hx, T.clScanner, T.nScanner_place, scF_place, _, _, rfl, rfl, dx, _, hx, by show 2 < 1000; decide, _, rfl, .inr ⟨rfl, e, ButX.put, dx, ?_⟩⟩
          rw [upd_same]
          exact congrArg (fun z => some (HO.ins a.cScanner dx z)) (scF_put (l := l) (p := p) (q := p + 1))
        · refine ⟨true, congrArg V.bl (by rw [← str1, decide_eq_false (fun q => e (sg_eq.mp q))]; rfl), iteT ?_⟩
          exact ⟨_, rfl, x, dx, _, rfl, hx, scF_no (by decide +kernel) (by decide +kernel), x, l, p, rfl, ⟨dx, hx⟩, k2 e⟩
      · exact absurd hi (Nat.lt_irrefl _)
    · rintro st H1 ⟨u, rfl, hc⟩
      have e1 : (strN [c]).cps.size = 1 := rfl
      rcases hc with ⟨q, _⟩ | ⟨_, e, b, s⟩
      · rw [e1] at q
        exact absurd q (by decide)
      · exact k1 e H1 b s
theorem scFns : FnScope ["self"] ["self"] (defScope sFns) := ⟨rfl, rfl, rfl, by decide +kernel, rfl, by decide +kernel, by decide +kernel⟩
theorem ok_fns (D : Df K a) (T : Txt K mg a) : FnOk P w K mg base (L2.CX P w) 4 a.fFns D.dFns ["self"] (spFns a) := by
  have GSgn : FnOk P w K mg base CX0 1 a.fSgn D.dSgn ["self"] (spSgn a) := ok_sgn D T
  have GRfu : FnOk P w K mg base (L2.CX P w) 3 a.fRfu D.dRfu ["self"] (spRfu a) := ok_rfu D T
  refine D.FFns.okX scFns (fun vs H Q E h => ?_) (fun cdv A outer s H vs Q E hr h => ?_)
  · obtain ⟨x, l, p, rfl, _⟩ := h
    rfl
  · obtain ⟨x, l, p, rfl, ⟨dx, hx⟩, hl, k1, k2⟩ := h
    have hr1 : Room 1 _ := hr.mono (by decide)
    refine ⟨_, (pss_one (ps_if (pt_cmpR op_ne (pe_meth0 (pv 0) T.clScanner T.mtSgn GSgn hr1 D.bSgn .nil pass0) pe_str (nomark _)) (pss_one (ps_expr (pe_meth0 (pv 0) T.clScanner T.mtRfu GRfu hr D.bRfu .nil (passes_call (takes_of rfl rfl rfl rfl) (fun _ _ _ _ q => q))))) pss_nil)), ?_⟩
    refine ⟨_, rfl, x, dx, _, rfl, hx, scF_no (by decide +kernel) (by decide +kernel), x, l, p, rfl, ⟨dx, hx⟩, hl, ?_⟩
    cases e : l[p]? with
    | none => exact ⟨rfl, false, congrArg V.bl (by rw [decide_eq_true (sg_nil'.mpr e)]; rfl), iteF (k1 e)⟩
    | some c =>
      refine ⟨rfl, true, congrArg V.bl (by rw [decide_eq_false (fun q => by rw [sg_nil'.mp q] at e; cases e)]; rfl), iteT ?_⟩
      exact ⟨_, rfl, x, dx, _, rfl, hx, scF_no (by decide +kernel) (by decide +kernel), x, l, p, rfl, ⟨dx, hx⟩, k2 (by rw [e]; exact fun q => nomatch q)⟩
end
end G58

set_option Elab.async false
set_option linter.all false
set_option pp.maxSteps 2500
set_option maxRecDepth 100000
set_option maxHeartbeats 4000000
/-! Numbers and keys of a path's text. -/
namespace G58
open PySem PySem.Spec PyProof.Rows L2 NumText TL
abbrev figL : List Nat := [48, 49, 50, 51, 52, 53, 54, 55, 56, 57]
theorem fig_str : ("0123456789" : Str) = strN figL := by decide +kernel
theorem fig_mem (c : Nat) : decide (c ∈ figL) = dgt c := by
  unfold dgt
  refine decide_eq_decide.mpr ?_
  simp only [List.mem_cons, List.not_mem_nil, or_false]
  omega
theorem isAt_fig (l : List Nat) (p : Nat) : isAt l figL p = match l[p]? with
    | some c => dgt c
    | none => false := by
  unfold isAt
  cases l[p]? with
  | none => rfl
  | some c => exact fig_mem c
theorem join_ones : ∀ ns : List Nat, Txt.join Str.empty (ns.map fun n => strN [n]) = strN ns := by
  intro ns
  rw [join_eq]
  refine ext_tl ?_
  rw [tl_join]
  show joinL [] ((ns.map fun n => strN [n]).map tl) = ns
  rw [List.map_map]
  show joinL [] (ns.map fun n => [n]) = ns
  induction ns with
  | nil => rfl
  | cons n r ih =>
    cases r with
    | nil => rfl
    | cons m r =>
      show [n] ++ ([] ++ joinL [] ((m :: r).map fun n => [n])) = n :: (m :: r)
      rw [ih, List.nil_append]
      rfl
theorem ones_len : ∀ ns : List Nat, ((ns.map fun n => strN [n]).map (·.length)).sum = ns.length
  | [] => rfl
  | n :: r => by
    show 1 + ((r.map fun n => strN [n]).map (·.length)).sum = r.length + 1
    rw [ones_len r]
    omega
theorem with_rest {G : Prop} (R : L2.St → Hp → Prop) (C : (L2.St → Hp → Prop) → Prop) (h : C R → G) (c : C R) : G := h c
abbrev onesV (acc : List Nat) : List V := (acc.map fun n => strN [n]).map V.str
theorem onesV_app (acc : List Nat) (d : Nat) : onesV acc ++ [V.str (strN [d])] = onesV (acc ++ [d]) := by
  unfold onesV
  rw [List.map_append, List.map_append]
  rfl
theorem keyF_step (l : List Nat) (f e : Nat) (acc : List Nat) : keyF l (f + 1) e acc = match l[e]? with
    | none => .inl e
    | some c => if c = 34 then .inr (e + 1, acc) else if c = 92 then (match l[e + 1]? with
      | some d => if d = 34 ∨ d = 92 then keyF l f (e + 2) (acc ++ [d]) else .inl (e + 1)
      | none => .inl (e + 1))
      else keyF l f (e + 1) (acc ++ [c]) := by
  rw [keyF]
  all_goals (cases l[e]? <;> rfl)
def spStg (a : Ad) : Sp := fun vs H Q E => ∃ (x : Addr) (l : List Nat) (p : Nat), vs = [.ref x] ∧ ScAt a H x l p ∧ l.length ≤ 100000 ∧ l[p]? = some 34 ∧ (∀ q, keyF l (l.length + 1) (p + 1) [] = .inl q → OutB a H E x q) ∧ (∀ e n, keyF l (l.length + 1) (p + 1) [] = .inr (e, n) → ∀ H', ButX x H H' → ScAt a H' x l e → Q (.str (strN n)) H')
section
variable {P : Program} {w : World} {K : PySem.W.Frag} {mg : Str → Option Value} {base : Heap} {a : Ad}
theorem scFig : FnScope ["self", "begin"] ["self"] (defScope sFig) := ⟨rfl, rfl, rfl, by decide +kernel, rfl, by decide +kernel, by decide +kernel⟩
theorem ok_fig (D : Df K a) (T : Txt K mg a) : FnOk P w K mg base (L2.CX P w) 4 a.fFig D.dFig ["self"] (spFig a) := by
  have GIsa : FnOk P w K mg base CX0 2 a.fIsa D.dIsa ["self", "signs"] (spIsa a) := ok_isa D T
  have GRfu : FnOk P w K mg base (L2.CX P w) 3 a.fRfu D.dRfu ["self"] (spRfu a) := ok_rfu D T
  obtain ⟨t1, kFIGURES⟩ := T.kFIGURES
  obtain ⟨t2, kMOST_FIGURES⟩ := T.kMOST_FIGURES
  refine D.FFig.okX scFig (fun vs H Q E h => ?_) (fun cdv A outer s H vs Q E hr h => ?_)
  · obtain ⟨x, l, p, rfl, _⟩ := h
    rfl
  · obtain ⟨x, l, p, rfl, ⟨dx, hx⟩, hl, k1, k2⟩ := h
    have hr2 : Room 2 _ := hr.mono (by decide)
    refine ⟨_, (pss_cons (ps_set (i := 1) scFig.nd rfl (.inl rfl) (pe_fld (pv 0) rfl)) (pss_cons (ps_if (pt_not (pt_val (pe_meth (pv 0) T.clScanner T.mtIsa GIsa hr2 D.bIsa .nil pass0 (pa_cons (pe_glob (v := .str "0123456789") rfl kFIGURES ⟨_, rfl⟩) pa_nil)))) (pss_one (ps_expr (pe_meth0 (pv 0) T.clScanner T.mtRfu GRfu hr D.bRfu .nil (passes_call (takes_of rfl rfl rfl rfl) (fun _ _ _ _ q => q))))) pss_nil) (pss_cons (ps_fldaug (pv 0) pe_int in_add) (pss_cons (ps_while (passes_of rfl) (pt_val (pe_meth (pv 0) T.clScanner T.mtIsa GIsa hr2 D.bIsa .nil pass0 (pa_cons (pe_glob (v := .str "0123456789") rfl kFIGURES ⟨_, rfl⟩) pa_nil))) (pss_cons (ps_if (PW.pt (pw_or (pt_cmpR op_eq (pe_ix ix_str (pe_fld (pv 0) rfl) (pv 1) (fun _ _ => rfl)) pe_str (nomark _)) (pw_or1 (pt_cmpR op_eq (pe_op op_sub (pe_fld (pv 0) rfl) (pv 1)) (pe_glob (v := .int 20) rfl kMOST_FIGURES ⟨_, rfl⟩) (nomark _))))) (pss_one (ps_expr (pe_meth0 (pv 0) T.clScanner T.mtRfu GRfu hr D.bRfu .nil (passes_call (takes_of rfl rfl rfl rfl) (fun _ _ _ _ q => q))))) pss_nil) (pss_one (ps_fldaug (pv 0) pe_int in_add)))) (pss_one (ps_ret (pe_callTy call_int_str (by rfl) T.bint (by decide +kernel) (pa_cons (pe_slice sl_str (pe_fld (pv 0) rfl) (po_some (pv 1)) (po_some (pe_fld (pv 0) rfl))) pa_nil)))))))), ?_⟩
    refine ⟨_, rfl, x, a.cScanner, dx, _, _, rfl, hx, T.clScanner, T.nScanner_place, scF_place, ?_⟩
    refine ⟨_, rfl, x, dx, _, rfl, hx, scF_no (by decide +kernel) (by decide +kernel), x, l, figL, p, by rw [← fig_str]; rfl, ⟨dx, hx⟩, hl, _, rfl, ?_⟩
    cases e0 : l[p]? with
    | none =>
      rw [show isAt l figL p = false by rw [isAt_fig, e0], Bool.not_false]
      exact iteT ⟨_, rfl, x, dx, _, rfl, hx, scF_no (by decide +kernel) (by decide +kernel), x, l, p, rfl, ⟨dx, hx⟩, k1 p (by unfold plcF; rw [e0])⟩
    | some c =>
      cases ed : dgt c with
      | false =>
        rw [show isAt l figL p = false by rw [isAt_fig, e0]; exact ed, Bool.not_false]
        exact iteT ⟨_, rfl, x, dx, _, rfl, hx, scF_no (by decide +kernel) (by decide +kernel), x, l, p, rfl, ⟨dx, hx⟩, k1 p (by unfold plcF; rw [e0]; simp [ed])⟩
      | true =>
        have pl := at_lt e0
        have ep : plcF l p = match digF l p (l.length + 1) (p + 1) with
          | .inl q => .inl q
          | .inr e => .inr (e, numV l p e) := by
          unfold plcF
          rw [e0]
          simp only [ed, if_true]
          all_goals (cases digF l p (l.length + 1) (p + 1) <;> rfl)
        rw [show isAt l figL p = true by rw [isAt_fig, e0]; exact ed, Bool.not_true]
        refine iteF ?_
        refine ⟨_, rfl, x, a.cScanner, dx, _, _, rfl, hx, T.clScanner, T.nScanner_place, scF_place, _, _, rfl, rfl, dx, _, hx, by show 2 < 1000; decide, ?_⟩
        have hx1 : (upd H x (.ins a.cScanner dx (putF "place" (.int (((p : Nat) : Int) + 1)) (scF l p)))) x = some (.ins a.cScanner dx (scF l (p + 1))) := by
          rw [upd_same]
          exact congrArg (fun z => some (HO.ins a.cScanner dx z)) (scF_put (l := l) (p := p) (q := p + 1))
        have b1 : ButX x H (upd H x (.ins a.cScanner dx (putF "place" (.int (((p : Nat) : Int) + 1)) (scF l p)))) := ButX.put
        refine ⟨fun m st H' => ∃ e f, m = l.length + 1 - e ∧ st = [some (.ref x), some (.int ((p : Nat) : Int))] ∧ ButX x H H' ∧ ScAt a H' x l e ∧ digF l p (l.length + 1) (p + 1) = digF l p f e ∧ l.length < f + e ∧ p < e ∧ e ≤ l.length, ⟨_, p + 1, l.length + 1, rfl, rfl, b1, ⟨dx, hx1⟩, rfl, by omega, by omega, by omega⟩, ?_⟩
        rintro m st H' ⟨e, f, rfl, rfl, b2, ⟨d2, hx2⟩, eq, hf, pe, el⟩
        obtain ⟨f, rfl⟩ : ∃ g, f = g + 1 := ⟨f - 1, by omega⟩
        refine ⟨_, rfl, x, d2, _, rfl, hx2, scF_no (by decide +kernel) (by decide +kernel), x, l, figL, e, by rw [← fig_str]; rfl, ⟨d2, hx2⟩, hl, _, rfl, ?_⟩
        have stop : digF l p (l.length + 1) (p + 1) = .inr e → (tRet (tCB (fun xs H Q => ∃ a n, xs = [V.str a] ∧ intText? a = some n ∧ a.length ≤ 640 ∧ Q (V.int n) H) (tCons (tSl rSlS (tFld K (tVar 0) "text") (tPart (tVar 1)) (tPart (tFld K (tVar 0) "place"))) tNil))) { nx := fun x H' => Q V.non H', rt := Q } [some (.ref x), some (.int ((p : Nat) : Int))] H' := fun ee => by
          refine ⟨_, rfl, x, a.cScanner, d2, _, _, rfl, hx2, T.clScanner, T.nScanner_text, scF_text, _, rfl, _, rfl, ?_⟩
          refine ⟨_, rfl, x, a.cScanner, d2, _, _, rfl, hx2, T.clScanner, T.nScanner_place, scF_place, _, rfl, strN l, rfl, by rw [strN_len]; exact Nat.le_trans hl (by decide), ?_⟩
          rw [cut1]
          have h20 := digF_20 ee (by omega)
          obtain ⟨q1, q2, q3⟩ := digF_le ee pl
          obtain ⟨n1, n2⟩ := num_text pe el h20 (fun i h1 h2 => by
            by_cases hi : i = p
            · subst hi
              exact ⟨c, e0, ed⟩
            · exact q3 i (by omega) h2)
          refine ⟨_, _, rfl, n1, by omega, ?_⟩
          exact k2 e _ (by rw [ep, ee]) H' b2 ⟨d2, hx2⟩
        have dstep : digF l p (f + 1) e = (match l[e]? with
          | none => .inr e
          | some c => if dgt c = true then (if l[p]? = some 48 ∨ e - p = 20 then .inl e else digF l p f (e + 1)) else .inr e) := by
          rw [digF]
          all_goals (cases l[e]? <;> rfl)
        cases e1 : l[e]? with
        | none =>
          rw [show isAt l figL e = false by rw [isAt_fig, e1]]
          refine iteF ?_
          rw [dstep, e1] at eq
          exact stop eq
        | some c1 =>
          cases ed1 : dgt c1 with
          | false =>
            rw [show isAt l figL e = false by rw [isAt_fig, e1]; exact ed1]
            refine iteF ?_
            rw [dstep, e1] at eq
            simp only [ed1] at eq
            exact stop eq
          | true =>
            have el1 := at_lt e1
            rw [dstep, e1] at eq
            simp only [ed1, if_true] at eq
            rw [show isAt l figL e = true by rw [isAt_fig, e1]; exact ed1]
            refine iteT ⟨fun st H' => ∃ m', m' < l.length + 1 - e ∧ ∃ e f, m' = l.length + 1 - e ∧ st = [some (.ref x), some (.int ((p : Nat) : Int))] ∧ ButX x H H' ∧ ScAt a H' x l e ∧ digF l p (l.length + 1) (p + 1) = digF l p f e ∧ l.length < f + e ∧ p < e ∧ e ≤ l.length, fun _ _ q => q, ?_⟩
            refine ⟨_, rfl, x, a.cScanner, d2, _, _, rfl, hx2, T.clScanner, T.nScanner_text, scF_text, _, rfl, strN l, _, c, rfl, rfl, by rw [strN_len]; exact Nat.le_trans hl (by decide), by rw [cps_strN]; exact atI_nat e0, ?_⟩
            have z48 : (decide (V.str ⟨#[c]⟩ = V.str ("0" : Str))) = decide (l[p]? = some 48) := by
              rw [e0]
              refine decide_eq_decide.mpr ⟨fun q => ?_, fun q => ?_⟩
              · have q2 : strN [c] = strN [48] := V.str.inj q
                have := strN_inj q2
                injection this with this
                rw [this]
              · rw [Option.some.inj q]
                rfl
            refine ⟨rfl, _, rfl, ?_⟩
            rw [z48]
            by_cases c48 : l[p]? = some 48
            · rw [decide_eq_true c48]
              rw [if_pos (.inl c48)] at eq
              exact iteT (iteT ⟨_, rfl, x, d2, _, rfl, hx2, scF_no (by decide +kernel) (by decide +kernel), x, l, e, rfl, ⟨d2, hx2⟩, (k1 e (by rw [ep, eq])).but b2⟩)
            · rw [decide_eq_false c48]
              refine iteF ⟨_, rfl, x, a.cScanner, d2, _, _, rfl, hx2, T.clScanner, T.nScanner_place, scF_place, _, rfl, _, _, rfl, rfl, rfl, _, rfl, ?_⟩
              have z20 : decide (V.int (((e : Nat) : Int) - ((p : Nat) : Int)) = V.int 20) = decide (e - p = 20) := decide_eq_decide.mpr ⟨fun q => by have := V.int.inj q; omega, fun q => congrArg V.int (by omega)⟩
              rw [z20]
              by_cases c20 : e - p = 20
              · rw [decide_eq_true c20]
                rw [if_pos (.inr c20)] at eq
                exact iteT ⟨_, rfl, x, d2, _, rfl, hx2, scF_no (by decide +kernel) (by decide +kernel), x, l, e, rfl, ⟨d2, hx2⟩, (k1 e (by rw [ep, eq])).but b2⟩
              · rw [decide_eq_false c20]
                rw [if_neg (fun q => q.elim c48 c20)] at eq
                refine iteF ⟨_, rfl, x, a.cScanner, d2, _, _, rfl, hx2, T.clScanner, T.nScanner_place, scF_place, _, _, rfl, rfl, d2, _, hx2, by show 2 < 1000; decide, _, by omega, e + 1, f, rfl, rfl, b2.trans ButX.put, ⟨d2, ?_⟩, eq, by omega, by omega, el1⟩
                rw [upd_same]
                exact congrArg (fun z => some (HO.ins a.cScanner d2 z)) (scF_put (l := l) (p := e) (q := e + 1))
theorem scStg : FnScope ["self", "found"] ["self"] (defScope sStg) := ⟨rfl, rfl, rfl, by decide +kernel, rfl, by decide +kernel, by decide +kernel⟩
theorem ok_stg (D : Df K a) (T : Txt K mg a) : FnOk P w K mg base (L2.CX P w) 5 a.fStg D.dStg ["self"] (spStg a) := by
  have GSgn : FnOk P w K mg base CX0 1 a.fSgn D.dSgn ["self"] (spSgn a) := ok_sgn D T
  have GIsa : FnOk P w K mg base CX0 2 a.fIsa D.dIsa ["self", "signs"] (spIsa a) := ok_isa D T
  have GRfu : FnOk P w K mg base (L2.CX P w) 3 a.fRfu D.dRfu ["self"] (spRfu a) := ok_rfu D T
  have GExp : FnOk P w K mg base (L2.CX P w) 4 a.fExp D.dExp ["self", "signs"] (spExp a) := ok_exp D T
  refine D.FStg.okX scStg (fun vs H Q E h => ?_) (fun cdv A outer s H vs Q E hr h => ?_)
  · obtain ⟨x, l, p, rfl, _⟩ := h
    rfl
  · obtain ⟨x, l, p, rfl, ⟨dx, hx⟩, hl, h34, k1, k2⟩ := h
    have hr1 : Room 1 _ := hr.mono (by decide)
    have hr2 : Room 2 _ := hr.mono (by decide)
    have hr3 : Room 3 _ := hr.mono (by decide)
    refine ⟨_, (pss_cons (ps_expr (pe_meth (pv 0) T.clScanner T.mtExp GExp hr D.bExp .nil (passes_call (takes_of rfl rfl rfl rfl) (fun _ _ _ _ q => q)) (pa_cons pe_str pa_nil))) (pss_cons (ps_set (i := 1) scStg.nd rfl (.inl rfl) (pe_lst pa_nil)) (pss_cons (ps_while (passes_of rfl) (pt_cmpR op_ne (pe_meth0 (pv 0) T.clScanner T.mtSgn GSgn hr1 D.bSgn .nil pass0) pe_str (nomark _)) (pss_cons (ps_if (pt_cmpR op_eq (pe_meth0 (pv 0) T.clScanner T.mtSgn GSgn hr1 D.bSgn .nil pass0) pe_str (nomark _)) (pss_cons (ps_fldaug (pv 0) pe_int in_add) (pss_one (ps_if (pt_not (pt_val (pe_meth (pv 0) T.clScanner T.mtIsa GIsa hr2 D.bIsa .nil pass0 (pa_cons pe_str pa_nil)))) (pss_one (ps_expr (pe_meth0 (pv 0) T.clScanner T.mtRfu GRfu hr3 D.bRfu .nil (passes_call (takes_of rfl rfl rfl rfl) (fun _ _ _ _ q => q))))) pss_nil))) pss_nil) (pss_cons (ps_if (pt_cmpR op_eq (pe_meth0 (pv 0) T.clScanner T.mtSgn GSgn hr1 D.bSgn .nil pass0) pe_str (nomark _)) (pss_one (ps_expr (pe_meth0 (pv 0) T.clScanner T.mtRfu GRfu hr3 D.bRfu .nil (passes_call (takes_of rfl rfl rfl rfl) (fun _ _ _ _ q => q))))) pss_nil) (pss_cons (ps_expr (pe_bm PySem.F.plainAttrs_list PySem.F.slot_list_append PySem.F.type_list_append mt_append (pv 1) (pa_cons (pe_meth0 (pv 0) T.clScanner T.mtSgn GSgn hr1 D.bSgn .nil pass0) pa_nil))) (pss_one (ps_fldaug (pv 0) pe_int in_add)))))) (pss_cons (ps_fldaug (pv 0) pe_int in_add) (pss_one (ps_ret (pe_join pe_str (pv 1)))))))), ?_⟩
    have pl := at_lt h34
    refine ⟨_, rfl, x, dx, _, rfl, hx, scF_no (by decide +kernel) (by decide +kernel), x, l, p, 34, rfl, ⟨dx, hx⟩, hl, fun _ H1 b1 hS1 => ?_, fun q => absurd h34 q⟩
    obtain ⟨d1, hx1⟩ := hS1
    refine ⟨by show 0 ≤ sizeLine; decide, fun FL hFL => ?_⟩
    have s2 := same_new (o := .lst []) (Same.refl H1) hFL
    have eFL : (upd H1 FL (.lst [])) FL = some (.lst (onesV [])) := upd_same
    have hx2 := s2 _ _ hx1
    have nFL : FL ≠ x := fun z => by rw [z, hx1] at hFL; cases hFL
    have b2 := b1.same s2
    have HFL : ∀ {H' : Hp}, ButX x H H' → ∀ o, ButX x H (upd H' FL o) := fun b o b' o' e n => by
      by_cases z : b' = FL
      · subst z
        have := b1 _ _ e n
        rw [hFL] at this
        cases this
      · rw [upd_ne z]
        exact b _ _ e n
    generalize upd H1 FL (.lst []) = H2 at s2 eFL hx2 b2 ⊢
    let I : Nat → L2.St → Hp → Prop := fun m st H' => ∃ e f acc, m = l.length + 1 - e ∧ st = [some (.ref x), some (.ref FL)] ∧ ButX x H H' ∧ ScAt a H' x l e ∧ H' FL = some (.lst (onesV acc)) ∧ keyF l (l.length + 1) (p + 1) [] = keyF l f e acc ∧ l.length < f + e ∧ acc.length ≤ e ∧ e ≤ l.length
    refine ⟨I, ⟨_, p + 1, l.length + 1, [], rfl, rfl, b2, ⟨d1, hx2⟩, eFL, rfl, by omega, Nat.zero_le _, pl⟩, ?_⟩
    rintro m st H' ⟨e, f, acc, rfl, rfl, b3, ⟨d3, hx3⟩, eF3, eq, hf, la, el⟩
    obtain ⟨f, rfl⟩ : ∃ g, f = g + 1 := ⟨f - 1, by omega⟩
    refine ⟨_, rfl, x, d3, _, rfl, hx3, scF_no (by decide +kernel) (by decide +kernel), x, l, e, rfl, ⟨d3, hx3⟩, hl, rfl, !decide (l[e]? = some 34), congrArg V.bl (by rw [show ("\"" : Str) = strN [34] from by decide +kernel]; exact congrArg (fun z => !z) (decide_eq_decide.mpr sg_eq)), ?_⟩
    by_cases c34 : l[e]? = some 34
    · rw [decide_eq_true c34]
      refine iteF ?_
      rw [keyF_step l f e acc, c34] at eq
      have eq : keyF l (l.length + 1) (p + 1) [] = .inr (e + 1, acc) := eq
      refine ⟨_, rfl, x, a.cScanner, d3, _, _, rfl, hx3, T.clScanner, T.nScanner_place, scF_place, _, _, rfl, rfl, d3, _, hx3, by show 2 < 1000; decide, ?_⟩
      have hx4 : (upd H' x (.ins a.cScanner d3 (putF "place" (.int (((e : Nat) : Int) + 1)) (scF l e)))) x = some (.ins a.cScanner d3 (scF l (e + 1))) := by
        rw [upd_same]
        exact congrArg (fun z => some (HO.ins a.cScanner d3 z)) (scF_put (l := l) (p := e) (q := e + 1))
      refine ⟨⟨_, rfl⟩, _, rfl, Str.empty, FL, acc.map fun n => strN [n], rfl, rfl, .inl (.inl (.inl (by rw [upd_ne nFL]; exact eF3))), ?_, ?_⟩
      · rw [ones_len]
        show acc.length + _ * 0 ≤ _
        omega
      · rw [join_ones]
        exact k2 _ _ eq _ (b3.trans ButX.put) ⟨d3, hx4⟩
    · rw [decide_eq_false c34]
      refine iteT ⟨fun st H' => ∃ m', m' < l.length + 1 - e ∧ I m' st H', fun _ _ q => q, ?_⟩
      refine' with_rest _ (fun R => ∀ (e' : Nat) (H4 : Hp), ButX x H H4 → ScAt a H4 x l e' → H4 FL = some (.lst (onesV acc)) → (l[e']? = none → keyF l (l.length + 1) (p + 1) [] = .inl e') → (∀ d, l[e']? = some d → ∃ f', keyF l (l.length + 1) (p + 1) [] = keyF l f' (e' + 1) (acc ++ [d]) ∧ l.length < f' + (e' + 1)) → e ≤ e' → R [some (.ref x), some (.ref FL)] H4) (fun rest => ?_) ?_
      rotate_left
      · refine ⟨_, rfl, x, d3, _, rfl, hx3, scF_no (by decide +kernel) (by decide +kernel), x, l, e, rfl, ⟨d3, hx3⟩, hl, rfl, decide (l[e]? = some 92), congrArg V.bl (by rw [show ("\\" : Str) = strN [92] from by decide +kernel]; exact decide_eq_decide.mpr sg_eq), ?_⟩
        by_cases c92 : l[e]? = some 92
        · rw [decide_eq_true c92]
          rw [keyF_step l f e acc, c92] at eq
          have eq : keyF l (l.length + 1) (p + 1) [] = (match l[e + 1]? with
            | some d => if d = 34 ∨ d = 92 then keyF l f (e + 2) (acc ++ [d]) else .inl (e + 1)
            | none => .inl (e + 1)) := eq
          refine iteT ⟨_, rfl, x, a.cScanner, d3, _, _, rfl, hx3, T.clScanner, T.nScanner_place, scF_place, _, _, rfl, rfl, d3, _, hx3, by show 2 < 1000; decide, ?_⟩
          have hx4 : (upd H' x (.ins a.cScanner d3 (putF "place" (.int (((e : Nat) : Int) + 1)) (scF l e)))) x = some (.ins a.cScanner d3 (scF l (e + 1))) := by
            rw [upd_same]
            exact congrArg (fun z => some (HO.ins a.cScanner d3 z)) (scF_put (l := l) (p := e) (q := e + 1))
          have eF4 : (upd H' x (.ins a.cScanner d3 (putF "place" (.int (((e : Nat) : Int) + 1)) (scF l e)))) FL = some (.lst (onesV acc)) := by rw [upd_ne nFL]; exact eF3
          have b4 : ButX x H (upd H' x (.ins a.cScanner d3 (putF "place" (.int (((e : Nat) : Int) + 1)) (scF l e)))) := b3.trans ButX.put
          generalize upd H' x (.ins a.cScanner d3 (putF "place" (.int (((e : Nat) : Int) + 1)) (scF l e))) = H4 at hx4 eF4 b4 ⊢
          refine ⟨_, rfl, x, d3, _, rfl, hx4, scF_no (by decide +kernel) (by decide +kernel), x, l, [34, 92], e + 1, by rw [show ("\"\\" : Str) = strN [34, 92] from by decide +kernel]; rfl, ⟨d3, hx4⟩, hl, _, rfl, ?_⟩
          cases e1 : l[e + 1]? with
          | none =>
            rw [e1] at eq
            rw [show isAt l [34, 92] (e + 1) = false by unfold isAt; rw [e1], Bool.not_false]
            exact iteT ⟨_, rfl, x, d3, _, rfl, hx4, scF_no (by decide +kernel) (by decide +kernel), x, l, e + 1, rfl, ⟨d3, hx4⟩, (k1 _ eq).but b4⟩
          | some d =>
            rw [e1] at eq
            have eq : keyF l (l.length + 1) (p + 1) [] = if d = 34 ∨ d = 92 then keyF l f (e + 2) (acc ++ [d]) else .inl (e + 1) := eq
            by_cases cd : d = 34 ∨ d = 92
            · rw [if_pos cd] at eq
              rw [show isAt l [34, 92] (e + 1) = true by unfold isAt; rw [e1]; exact decide_eq_true (by simpa using cd), Bool.not_true]
              have g1 : l[e + 1]? = none → keyF l (l.length + 1) (p + 1) [] = .inl (e + 1) := fun q => by rw [e1] at q; cases q
              have g2 : ∀ d', l[e + 1]? = some d' → ∃ f', keyF l (l.length + 1) (p + 1) [] = keyF l f' (e + 1 + 1) (acc ++ [d']) ∧ l.length < f' + (e + 1 + 1) := fun d' q => by
                rw [e1] at q
                cases q
                exact ⟨f, eq, by omega⟩
              refine iteF ?_
              exact rest (e + 1) H4 b4 ⟨d3, hx4⟩ eF4 g1 g2 (Nat.le_succ _)
            · rw [if_neg cd] at eq
              rw [show isAt l [34, 92] (e + 1) = false by unfold isAt; rw [e1]; exact decide_eq_false (by simpa using cd), Bool.not_false]
              exact iteT ⟨_, rfl, x, d3, _, rfl, hx4, scF_no (by decide +kernel) (by decide +kernel), x, l, e + 1, rfl, ⟨d3, hx4⟩, (k1 _ eq).but b4⟩
        · rw [decide_eq_false c92]
          have g1 : l[e]? = none → keyF l (l.length + 1) (p + 1) [] = .inl e := fun q => by
            rw [keyF_step l f e acc, q] at eq
            exact eq
          have g2 : ∀ d, l[e]? = some d → ∃ f', keyF l (l.length + 1) (p + 1) [] = keyF l f' (e + 1) (acc ++ [d]) ∧ l.length < f' + (e + 1) := fun d q => by
            rw [keyF_step l f e acc, q] at eq
            refine ⟨f, ?_, by omega⟩
            rw [eq]
            show (if d = 34 then _ else if d = 92 then _ else _) = _
            rw [if_neg (fun z => c34 (by rw [q, z])), if_neg (fun z => c92 (by rw [q, z]))]
          refine iteF ?_
          exact rest e H' b3 ⟨d3, hx3⟩ eF3 g1 g2 (Nat.le_refl _)
      intro e' H4 b4 hS4 eF4 kn kd le
      obtain ⟨d4, hx4⟩ := hS4
      refine ⟨_, rfl, x, d4, _, rfl, hx4, scF_no (by decide +kernel) (by decide +kernel), x, l, e', rfl, ⟨d4, hx4⟩, hl, rfl, decide (l[e']? = none), congrArg V.bl (decide_eq_decide.mpr sg_nil'), ?_⟩
      cases e1 : l[e']? with
      | none =>
        rw [decide_eq_true rfl]
        exact iteT ⟨_, rfl, x, d4, _, rfl, hx4, scF_no (by decide +kernel) (by decide +kernel), x, l, e', rfl, ⟨d4, hx4⟩, (k1 _ (kn e1)).but b4⟩
      | some d =>
        obtain ⟨f', g1, g2⟩ := kd d e1
        have el' := at_lt e1
        rw [decide_eq_false (fun z => nomatch z)]
        refine iteF ⟨_, rfl, .inl ⟨rfl, _, .inl (.inl eF4)⟩, _, rfl, x, d4, _, rfl, hx4, scF_no (by decide +kernel) (by decide +kernel), x, l, e', rfl, ⟨d4, hx4⟩, hl, FL, _, _, rfl, rfl, eF4, ?_, ?_⟩
        · rw [List.length_map, List.length_map]
          exact Nat.lt_of_le_of_lt (by omega : _ ≤ 100000) (by decide)
        · rw [sg_some e1, onesV_app]
          have hx5 : (upd H4 FL (.lst (onesV (acc ++ [d])))) x = some (.ins a.cScanner d4 (scF l e')) := by rw [upd_ne nFL.symm]; exact hx4
          refine ⟨_, rfl, x, a.cScanner, d4, _, _, rfl, hx5, T.clScanner, T.nScanner_place, scF_place, _, _, rfl, rfl, d4, _, hx5, by show 2 < 1000; decide, _, by omega, e' + 1, f', acc ++ [d], rfl, rfl, (HFL b4 _).trans ButX.put, ⟨d4, ?_⟩, ?_, g1, g2, ?_, el'⟩
          · rw [upd_same]
            exact congrArg (fun z => some (HO.ins a.cScanner d4 z)) (scF_put (l := l) (p := e') (q := e' + 1))
          · rw [upd_ne nFL, upd_same]
          · rw [List.length_append, List.length_singleton]
            omega
end
end G58

set_option Elab.async false
set_option linter.all false
set_option pp.maxSteps 2500
set_option maxRecDepth 100000
set_option maxHeartbeats 4000000
/-! A path's text read and written. -/
namespace G58
open PySem PySem.Spec PyProof.Rows L2 NumText TL
def Out0 (a : Ad) (H : Hp) (E : XK) (q : Nat) : Prop := ∀ d H', Same H H' → H' d = some (.xd (plc (.int ((q : Nat) : Int)))) → E (.ref a.cBadText) (some d) H'
theorem Out0.but {a : Ad} {H H1 : Hp} {E : XK} {q : Nat} {x : Addr} (h : Out0 a H E q) (hx : H x = none) (s : Same H H1) : OutB a H1 E x q := fun d H' b hd => h d H' (fun b' o e => b b' o (s b' o e) fun z => by rw [z, hx] at e; cases e) hd
def spRdp (a : Ad) : Sp := fun vs H Q E => ∃ (l : List Nat), vs = [.str (strN l)] ∧ l.length ≤ 100000 ∧ (∀ q, rdP l = .inl q → Out0 a H E q) ∧ (∀ p, rdP l = .inr p → ∀ t H', Same H H' → H' t = some (.tup (p.map Stp.v)) → Q (.ref t) H')
theorem stpF_key {l : List Nat} {p : Nat} (h : l[p]? = some 34) : stpF l p = match keyF l (l.length + 1) (p + 1) [] with
    | .inl q => .inl q
    | .inr (e, k) => .inr (e, .key k) := by
  unfold stpF
  rw [if_pos h]
  all_goals (cases keyF l (l.length + 1) (p + 1) [] <;> rfl)
theorem stpF_num {l : List Nat} {p : Nat} (h : ¬ l[p]? = some 34) : stpF l p = match plcF l p with
    | .inl q => .inl q
    | .inr (e, n) => .inr (e, .num n) := by
  unfold stpF
  rw [if_neg h]
  all_goals (cases plcF l p <;> rfl)
theorem plcF_le {l : List Nat} {p e n : Nat} (h : plcF l p = .inr (e, n)) : p < e ∧ e ≤ l.length := by
  unfold plcF at h
  cases hc : l[p]? with
  | none =>
    rw [hc] at h
    cases h
  | some c =>
    rw [hc] at h
    simp only at h
    split at h
    · cases hd : digF l p (l.length + 1) (p + 1) with
      | inl q =>
        rw [hd] at h
        cases h
      | inr e' =>
        rw [hd] at h
        cases h
        obtain ⟨q1, q2, _⟩ := digF_le hd (at_lt hc)
        omega
    · cases h
theorem stpF_le {l : List Nat} {p e : Nat} {s : Stp} (h : stpF l p = .inr (e, s)) : p < e ∧ e ≤ l.length := by
  by_cases c : l[p]? = some 34
  · rw [stpF_key c] at h
    cases hk : keyF l (l.length + 1) (p + 1) [] with
    | inl q =>
      rw [hk] at h
      cases h
    | inr z =>
      obtain ⟨e', k⟩ := z
      rw [hk] at h
      cases h
      obtain ⟨q1, q2, _⟩ := keyF_le hk
      omega
  · rw [stpF_num c] at h
    cases hk : plcF l p with
    | inl q =>
      rw [hk] at h
      cases h
    | inr z =>
      obtain ⟨e', k⟩ := z
      rw [hk] at h
      cases h
      exact plcF_le hk
/-- what follows behind a step -/
def nxtF (l : List Nat) (f e : Nat) (acc : List Stp) : Sum Nat (List Stp) := match l[e]? with
  | none => .inr acc
  | some c => if c = 47 then pthF l f (e + 1) acc else .inl e
theorem pthF_step (l : List Nat) (f p : Nat) (acc : List Stp) : pthF l (f + 1) p acc = match stpF l p with
    | .inl q => .inl q
    | .inr (e, s) => nxtF l f e (acc ++ [s]) := by
  rw [pthF]
  all_goals (cases stpF l p <;> rfl)
theorem step_tIf {a : Ad} {x d : Addr} {l : List Nat} {p : Nat} {σ : L2.St} {H : Hp} {Q : VK} {E : XK} (hσ : σ[1]? = some (some (V.ref x))) (hx : H x = some (.ins a.cScanner d (scF l p))) (hl : l.length ≤ 100000) (out : ∀ q, stpF l p = .inl q → OutB a H E x q)
    (k : ∀ e s H', stpF l p = .inr (e, s) → ButX x H H' → ScAt a H' x l e → Q s.v H') :
    tIf (tTest (tOp rEq (tMeth a.cScanner "sign" (spSgn a) [] E0 (tVar 1) tNil) (tC (.str "\"")))) (tMeth a.cScanner "string" (spStg a) [] E (tVar 1) tNil) (tMeth a.cScanner "figures_here" (spFig a) [] E (tVar 1) tNil) σ H Q := by
  refine ⟨_, hσ, x, d, _, rfl, hx, scF_no (by decide +kernel) (by decide +kernel), x, l, p, rfl, ⟨d, hx⟩, hl, rfl, decide (l[p]? = some 34), congrArg V.bl (by rw [show ("\"" : Str) = strN [34] from by decide +kernel]; exact decide_eq_decide.mpr sg_eq), ?_⟩
  by_cases c : l[p]? = some 34
  · rw [decide_eq_true c]
    refine iteT ⟨_, hσ, x, d, _, rfl, hx, scF_no (by decide +kernel) (by decide +kernel), x, l, p, rfl, ⟨d, hx⟩, hl, c, fun q e => out q (by rw [stpF_key c, e]), fun e n eq H' b hS => k e (.key n) H' (by rw [stpF_key c, eq]) b hS⟩
  · rw [decide_eq_false c]
    refine iteF ⟨_, hσ, x, d, _, rfl, hx, scF_no (by decide +kernel) (by decide +kernel), x, l, p, rfl, ⟨d, hx⟩, hl, fun q e => out q (by rw [stpF_num c, e]), fun e n eq H' b hS => k e (.num n) H' (by rw [stpF_num c, eq]) b hS⟩
section
variable {P : Program} {w : World} {K : PySem.W.Frag} {mg : Str → Option Value} {base : Heap} {a : Ad}
theorem scRdp : FnScope ["text", "scanner", "found"] ["text"] (defScope sRdp) := ⟨rfl, rfl, rfl, by decide +kernel, rfl, by decide +kernel, by decide +kernel⟩
theorem ok_rdp (D : Df K a) (T : Txt K mg a) : FnOk P w K mg base (L2.CX P w) 6 a.fRdp D.dRdp ["text"] (spRdp a) := by
  have GSin : FnOk P w K mg base CX0 1 a.fSin D.dSin ["self", "text"] (spSin a) := ok_sin D T
  have GSgn : FnOk P w K mg base CX0 1 a.fSgn D.dSgn ["self"] (spSgn a) := ok_sgn D T
  have GFns : FnOk P w K mg base (L2.CX P w) 4 a.fFns D.dFns ["self"] (spFns a) := ok_fns D T
  have GExp : FnOk P w K mg base (L2.CX P w) 4 a.fExp D.dExp ["self", "signs"] (spExp a) := ok_exp D T
  have GFig : FnOk P w K mg base (L2.CX P w) 4 a.fFig D.dFig ["self"] (spFig a) := ok_fig D T
  have GStg : FnOk P w K mg base (L2.CX P w) 5 a.fStg D.dStg ["self"] (spStg a) := ok_stg D T
  refine D.FRdp.okX scRdp (fun vs H Q E h => ?_) (fun cdv A outer s H vs Q E hr h => ?_)
  · obtain ⟨l, rfl, _⟩ := h
    rfl
  · obtain ⟨l, rfl, hl, k1, k2⟩ := h
    have hr1 : Room 1 _ := hr.mono (by decide)
    have hr2 : Room 2 _ := hr.mono (by decide)
    have hr4 : Room 4 _ := hr.mono (by decide)
    refine ⟨_, (pss_cons (ps_set (i := 1) scRdp.nd rfl (.inl rfl) (pe_make T.mkScanner GSin hr2 rfl T.gcScanner D.bSin .nil pass0 (pa_cons (pv 0) pa_nil))) (pss_cons (ps_if (pt_cmpR op_eq (pe_meth0 (pv 1) T.clScanner T.mtSgn GSgn hr1 D.bSgn .nil pass0) pe_str (nomark _)) (pss_cons (ps_expr (pe_meth (pv 1) T.clScanner T.mtExp GExp hr4 D.bExp .nil (passes_call (takes_of rfl rfl rfl rfl) (fun _ _ _ _ q => q)) (pa_cons pe_str pa_nil))) (pss_cons (ps_expr (pe_meth0 (pv 1) T.clScanner T.mtFns GFns hr4 D.bFns .nil (passes_call (takes_of rfl rfl rfl rfl) (fun _ _ _ _ q => q)))) (pss_one (ps_ret (pe_tup pa_nil))))) pss_nil) (pss_cons (ps_set (i := 2) scRdp.nd rfl (.inl rfl) (pe_lst (pa_cons (pe_ifExp (pt_cmpR op_eq (pe_meth0 (pv 1) T.clScanner T.mtSgn GSgn hr1 D.bSgn .nil pass0) pe_str (nomark _)) (pe_meth0 (pv 1) T.clScanner T.mtStg GStg hr D.bStg .nil (passes_call (takes_of rfl rfl rfl rfl) (fun _ _ _ _ q => q))) (pe_meth0 (pv 1) T.clScanner T.mtFig GFig hr4 D.bFig .nil (passes_call (takes_of rfl rfl rfl rfl) (fun _ _ _ _ q => q)))) pa_nil))) (pss_cons (ps_while (passes_of rfl) (pt_cmpR op_ne (pe_meth0 (pv 1) T.clScanner T.mtSgn GSgn hr1 D.bSgn .nil pass0) pe_str (nomark _)) (pss_cons (ps_expr (pe_meth (pv 1) T.clScanner T.mtExp GExp hr4 D.bExp .nil (passes_call (takes_of rfl rfl rfl rfl) (fun _ _ _ _ q => q)) (pa_cons pe_str pa_nil))) (pss_one (ps_expr (pe_bm PySem.F.plainAttrs_list PySem.F.slot_list_append PySem.F.type_list_append mt_append (pv 2) (pa_cons (pe_ifExp (pt_cmpR op_eq (pe_meth0 (pv 1) T.clScanner T.mtSgn GSgn hr1 D.bSgn .nil pass0) pe_str (nomark _)) (pe_meth0 (pv 1) T.clScanner T.mtStg GStg hr D.bStg .nil (passes_call (takes_of rfl rfl rfl rfl) (fun _ _ _ _ q => q))) (pe_meth0 (pv 1) T.clScanner T.mtFig GFig hr4 D.bFig .nil (passes_call (takes_of rfl rfl rfl rfl) (fun _ _ _ _ q => q)))) pa_nil)))))) (pss_one (ps_ret (pe_callTy call_tuple_of (by rfl) T.btuple (by decide +kernel) (pa_cons (pv 2) pa_nil)))))))), ?_⟩
    refine ⟨_, rfl, fun x dx h1 h2 h3 => ⟨x, dx, l, rfl, upd_same, fun H1 b1 hS1 => ⟨rfl, ?_⟩⟩⟩
    have s1 : Same H H1 := fun b o e => b1 b o (by rw [upd_ne (ne_of_none e h1), upd_ne (ne_of_none e h2)]; exact e) (ne_of_none e h1)
    obtain ⟨d1, hx1⟩ := hS1
    have keepH : ∀ {H' : Hp}, ButX x H1 H' → Same H H' := fun b b' o e => b b' o (s1 b' o e) fun z => by rw [z, h1] at e; cases e
    refine ⟨_, rfl, x, d1, _, rfl, hx1, scF_no (by decide +kernel) (by decide +kernel), x, l, 0, rfl, ⟨d1, hx1⟩, hl, rfl, decide (l[0]? = some 46), congrArg V.bl (by rw [show ("." : Str) = strN [46] from by decide +kernel]; exact decide_eq_decide.mpr sg_eq), ?_⟩
    by_cases c46 : l[0]? = some 46
    · rw [decide_eq_true c46]
      have er : rdP l = if l.length = 1 then .inr [] else .inl 1 := by unfold rdP; rw [if_pos c46]
      refine iteT ⟨_, rfl, x, d1, _, rfl, hx1, scF_no (by decide +kernel) (by decide +kernel), x, l, 0, 46, by rw [show ("." : Str) = strN [46] from by decide +kernel]; rfl, ⟨d1, hx1⟩, hl, fun _ H2 b2 hS2 => ?_, fun q => absurd c46 q⟩
      obtain ⟨d2, hx2⟩ := hS2
      have l0 := at_lt c46
      refine ⟨_, rfl, x, d2, _, rfl, hx2, scF_no (by decide +kernel) (by decide +kernel), x, l, 1, rfl, ⟨d2, hx2⟩, hl, fun e => ?_, fun e => ?_⟩
      · have := List.getElem?_eq_none_iff.mp e
        rw [if_pos (by omega)] at er
        exact ⟨by show 0 ≤ sizeLine; decide, fun t ht => k2 [] er t _ (same_new (keepH b2) ht) upd_same⟩
      · have : ¬ l.length ≤ 1 := fun z => e (List.getElem?_eq_none_iff.mpr z)
        rw [if_neg (by omega)] at er
        exact (k1 1 er).but h1 (keepH b2)
    · rw [decide_eq_false c46]
      have er : rdP l = match stpF l 0 with
        | .inl q => .inl q
        | .inr (e, s) => nxtF l l.length e ([] ++ [s]) := by
        unfold rdP
        rw [if_neg c46, pthF_step]
      refine iteF (step_tIf rfl hx1 hl (fun q eq => (k1 q (by rw [er, eq])).but h1 s1) fun e s H2 eq b2 hS2 => ⟨by show 1 ≤ sizeLine; decide, fun FL hFL => ?_⟩)
      obtain ⟨d2, hx2⟩ := hS2
      have le2 := stpF_le eq
      rw [eq] at er
      have er : rdP l = nxtF l l.length e [s] := er
      have s2 := same_new (o := .lst [s.v]) (Same.refl H2) hFL
      have eFL : (upd H2 FL (.lst [s.v])) FL = some (.lst ([s].map Stp.v)) := upd_same
      have hx3 := s2 _ _ hx2
      have nFL : FL ≠ x := fun z => by rw [z, hx2] at hFL; cases hFL
      have b3 := b2.same s2
      have HFL : ∀ {H' : Hp}, ButX x H1 H' → ∀ o, ButX x H1 (upd H' FL o) := fun b o b' o' e n => by
        by_cases z : b' = FL
        · subst z
          have := b2 _ _ e n
          rw [hFL] at this
          cases this
        · rw [upd_ne z]
          exact b _ _ e n
      generalize upd H2 FL (.lst [s.v]) = H3 at s2 eFL hx3 b3 ⊢
      let I : Nat → L2.St → Hp → Prop := fun m st H' => ∃ e f acc, m = l.length + 1 - e ∧ st = [some (.str (strN l)), some (.ref x), some (.ref FL)] ∧ ButX x H1 H' ∧ ScAt a H' x l e ∧ H' FL = some (.lst (acc.map Stp.v)) ∧ rdP l = nxtF l f e acc ∧ l.length < f + e ∧ acc.length ≤ e ∧ e ≤ l.length
      refine ⟨I, ⟨_, e, l.length, [s], rfl, rfl, b3, ⟨d2, hx3⟩, eFL, er, by omega, by show 1 ≤ e; omega, le2.2⟩, ?_⟩
      clear er eq le2
      rintro m st H' ⟨e, f, acc, rfl, rfl, b4, ⟨d4, hx4⟩, eF4, er, hf, la, el⟩
      refine ⟨_, rfl, x, d4, _, rfl, hx4, scF_no (by decide +kernel) (by decide +kernel), x, l, e, rfl, ⟨d4, hx4⟩, hl, rfl, !decide (l[e]? = none), congrArg V.bl (congrArg (fun z => !z) (decide_eq_decide.mpr sg_nil')), ?_⟩
      unfold nxtF at er
      cases e1 : l[e]? with
      | none =>
        rw [e1] at er
        rw [decide_eq_true rfl]
        refine iteF ⟨_, rfl, FL, _, rfl, .inl ⟨.inl (.inl eF4), fun t ht => ?_⟩⟩
        exact k2 acc er t _ (same_new (keepH b4) ht) upd_same
      | some c =>
        rw [e1] at er
        have er : rdP l = if c = 47 then pthF l f (e + 1) acc else .inl e := er
        have el1 := at_lt e1
        rw [decide_eq_false (fun z => nomatch z)]
        refine iteT ⟨fun st H' => ∃ m', m' < l.length + 1 - e ∧ I m' st H', fun _ _ q => q, ?_⟩
        refine ⟨_, rfl, x, d4, _, rfl, hx4, scF_no (by decide +kernel) (by decide +kernel), x, l, e, 47, by rw [show ("/" : Str) = strN [47] from by decide +kernel]; rfl, ⟨d4, hx4⟩, hl, fun q H5 b5 hS5 => ?_, fun q => ?_⟩
        · obtain ⟨d5, hx5⟩ := hS5
          rw [e1] at q
          have c47 : c = 47 := Option.some.inj q
          rw [if_pos c47] at er
          obtain ⟨f, rfl⟩ : ∃ g, f = g + 1 := ⟨f - 1, by omega⟩
          rw [pthF_step] at er
          have b15 := b4.trans b5
          have eF5 := b5 _ _ eF4 nFL
          refine ⟨_, rfl, .inl ⟨rfl, _, .inl (.inl eF5)⟩, step_tIf rfl hx5 hl (fun q2 eq => (k1 q2 (by rw [er, eq])).but h1 (keepH b15)) fun e6 s6 H6 eq b6 hS6 => ?_⟩
          obtain ⟨d6, hx6⟩ := hS6
          have le6 := stpF_le eq
          rw [eq] at er
          have eF6 := b6 _ _ eF5 nFL
          refine ⟨FL, _, _, rfl, rfl, eF6, ?_, _, ?_, e6, f, acc ++ [s6], rfl, rfl, HFL (b15.trans b6) _, ⟨d6, by rw [upd_ne nFL.symm]; exact hx6⟩, ?_, er, by omega, ?_, le6.2⟩
          · rw [List.length_map]
            exact Nat.lt_of_le_of_lt (by omega : _ ≤ 100000) (by decide)
          · omega
          · rw [upd_same, List.map_append]
            rfl
          · rw [List.length_append, List.length_singleton]
            omega
        · rw [if_neg (fun z => q (by rw [e1, z]))] at er
          exact (k1 e er).but h1 (keepH b4)
end
end G58

set_option Elab.async false
set_option linter.all false
set_option pp.maxSteps 2500
set_option maxRecDepth 100000
set_option maxHeartbeats 4000000
/-! A path's text written. -/
namespace G58
open PySem PySem.Spec PyProof.Rows L2 NumText TL
def spInq : Sp := fun vs H Q _ => ∃ (k : List Nat), vs = [.str (strN k)] ∧ k.length ≤ 1000 ∧ ∀ H', Same H H' → Q (.str (strN (34 :: (escK k ++ [34])))) H'
def spPtx (K : PySem.W.Frag) : Sp := fun vs H Q _ => ∃ (tp : Addr) (p : List Stp), vs = [.ref tp] ∧ (SqL K H tp (p.map Stp.v) ∨ SqT K H tp (p.map Stp.v)) ∧ p.length ≤ 100 ∧ (∀ s ∈ p, s.ok) ∧ ∀ H', Same H H' → Q (.str (strN (wrt p))) H'
theorem str_app (l r : List Nat) : strN l ++ strN r = strN (l ++ r) := ext_tl (tl_append _ _)
theorem join_L (sep : List Nat) (ls : List (List Nat)) : Txt.join (strN sep) (ls.map strN) = strN (joinL sep ls) := by
  rw [join_eq]
  refine ext_tl ?_
  rw [tl_join, List.map_map]
  show joinL sep (ls.map fun l => l) = _
  rw [List.map_id']
  rfl
theorem escK_len : ∀ k : List Nat, (escK k).length ≤ 2 * k.length
  | [] => Nat.le_refl _
  | c :: k => by
    have := escK_len k
    show (esc1 c ++ escK k).length ≤ _
    rw [List.length_append, List.length_cons]
    have : (esc1 c).length ≤ 2 := by unfold esc1; split <;> simp
    omega
theorem txt_len {s : Stp} (h : s.ok) : (txtS s).length ≤ 2002 := by
  cases s with
  | key k =>
    have h : k.length ≤ 1000 := h
    have := escK_len k
    show (34 :: (escK k ++ [34])).length ≤ 2002
    rw [List.length_cons, List.length_append, List.length_singleton]
    omega
  | num n =>
    have h : numOk n = true := h.2
    unfold numOk at h
    simp only [Bool.and_eq_true, decide_eq_true_eq] at h
    show (decL n).length ≤ 2002
    have := h.2.2.1
    omega
theorem join_path : ∀ p : List Stp, joinL [47] (p.map txtS) = joinT p
  | [] => rfl
  | [s] => rfl
  | s :: s2 :: r => by
    show txtS s ++ ([47] ++ joinL [47] ((s2 :: r).map txtS)) = txtS s ++ 47 :: joinT (s2 :: r)
    rw [join_path (s2 :: r)]
    rfl
theorem esc_joins : ∀ k : List Nat, joinL [] (k.map esc1) = escK k
  | [] => rfl
  | [c] => by
    show esc1 c = esc1 c ++ []
    rw [List.append_nil]
  | c :: d :: r => by
    show esc1 c ++ ([] ++ joinL [] ((d :: r).map esc1)) = esc1 c ++ escK (d :: r)
    rw [esc_joins (d :: r), List.nil_append]
theorem qb_mem (d : Nat) : decide (d ∈ ("\"\\" : Str).cps.toList) = decide (d = 34 ∨ d = 92) := by
  rw [show ("\"\\" : Str) = strN [34, 92] from by decide +kernel, cps_strN]
  exact decide_eq_decide.mpr (by simp)
theorem strs_len {f : α → List Nat} {b : Nat} : ∀ k : List α, (∀ c ∈ k, (f c).length ≤ b) → (((k.map f).map strN).map (·.length)).sum ≤ b * k.length
  | [], _ => Nat.zero_le _
  | c :: k, h => by
    have := strs_len k fun d hd => h d (List.mem_cons_of_mem _ hd)
    show (strN (f c)).length + (((k.map f).map strN).map (·.length)).sum ≤ b * (k.length + 1)
    rw [strN_len, Nat.mul_add]
    have := h c (List.mem_cons_self ..)
    omega
theorem esc1_len (c : Nat) : (esc1 c).length ≤ 2 := by unfold esc1; split <;> simp
theorem log_ok {n : Nat} (h : n < 100000000000000000000) : ((n : Nat) : Int).natAbs.log2 < 1920 := PySem.Spec.log2_small (Nat.lt_of_lt_of_le (by omega : ((n : Nat) : Int).natAbs < 100000000000000000000) (by decide +kernel))
theorem dec_str (n : Nat) : (Str.ofString (toString ((n : Nat) : Int))) = strN (decL n) := (strN_cps _).symm
def rStrI (xs : List V) (H : Hp) (Q : VK) : Prop := ∃ n : Int, xs = [.int n] ∧ n.natAbs.log2 < 1920 ∧ Q (.str (toString n)) H
section
variable {P : Program} {w : World} {K : PySem.W.Frag} {mg : Str → Option Value} {base : Heap} {a : Ad}
theorem scInq : FnScope ["word", "sign"] ["word"] (defScope sInq) := ⟨rfl, rfl, rfl, by decide +kernel, rfl, by decide +kernel, by decide +kernel⟩
theorem ok_inq (D : Df K a) (T : Txt K mg a) : FnOk P w K mg base CX0 1 a.fInq D.dInq ["word"] spInq := by
  refine D.FInq.ok scInq (fun vs H Q E h => ?_) (fun cdv A outer s H vs Q E hr h => ?_)
  · obtain ⟨k, rfl, _⟩ := h
    rfl
  · obtain ⟨k, rfl, hl, kQ⟩ := h
    refine ⟨_, (pss_one (ps_ret (pe_op op_add_str (pe_op op_add_str pe_str (pe_join pe_str (pe_lc (own := [("sign", 1)]) (g := (gName 1)) (tt := tYes) rfl scInq.nd (pi_str (pv 0)) (blkOk_by (N := ["word", "sign"]) (sc := defScope sInq) (by decide +kernel)) (fun _ _ _ _ _ => (pg_name (i := 1) scInq.nd rfl (.inl rfl))) (fun _ _ _ _ _ => pts_nil) (fun _ _ _ _ _ => (pe_ifExp (pt_cmpR op_in_sign (pv 1) pe_str rfl) (pe_op op_add_str pe_str (pv 1)) (pv 1)))))) pe_str))), ?_⟩
    refine ⟨⟨_, rfl⟩, _, rfl, strN k, rfl, fun DL hDL => lc_it (walk_str (z := strN k)) (fun i H' => H' DL = some (.lst ((((k.take i).map esc1).map strN).map V.str)) ∧ Same H H') ⟨by rw [List.take_zero]; exact upd_same, same_new (Same.refl H) hDL⟩ (fun _ _ _ _ => True.intro) ?_ ?_⟩
    · rintro i y H1' H1 hi ⟨e1, s1⟩ ⟨rfl, d, hd, rfl⟩
      have hk : k[i]? = some d := by
        have : (strN k).cps.toList[i]? = some d := by rw [Array.getElem?_toList]; exact hd
        rw [cps_strN] at this
        exact this
      have il := at_lt hk
      have fin : ∃ acc, H1 DL = some (.lst acc) ∧ acc.length < sizeLine ∧ (upd H1 DL (.lst (acc ++ [V.str (strN (esc1 d))]))) DL = some (.lst ((((k.take (i + 1)).map esc1).map strN).map V.str)) ∧ Same H (upd H1 DL (.lst (acc ++ [V.str (strN (esc1 d))]))) := by
        refine ⟨_, e1, ?_, ?_, fun b o e => ?_⟩
        · rw [List.length_map, List.length_map, List.length_map, List.length_take]
          exact Nat.lt_of_le_of_lt (by omega : _ ≤ 1000) (by decide)
        · rw [upd_same, List.take_add_one, hk, List.map_append, List.map_append, List.map_append]
          rfl
        · rw [upd_ne (ne_of_none e hDL)]
          exact s1 _ _ e
      refine ⟨rfl, _, rfl, d, _, rfl, rfl, _, rfl, ?_⟩
      rw [qb_mem]
      by_cases c : d = 34 ∨ d = 92
      · have ee : esc1 d = [92, d] := if_pos c
        rw [ee] at fin
        rw [decide_eq_true c]
        exact iteT ⟨_, rfl, _, _, rfl, rfl, by show 1 + 1 ≤ sizeLine; decide, fin⟩
      · have ee : esc1 d = [d] := if_neg c
        rw [ee] at fin
        rw [decide_eq_false c]
        exact iteF ⟨_, rfl, fin⟩
    · rintro H1 ⟨e1, s1⟩
      have ek : (strN k).cps.size = k.length := strN_len k
      rw [ek, List.take_length] at e1
      refine ⟨Str.empty, DL, (k.map esc1).map strN, rfl, rfl, .inl (.inl (.inl e1)), ?_, ?_⟩
      · have := strs_len (b := 2) k fun c _ => esc1_len c
        show _ + _ * 0 ≤ _
        omega
      · have ej : Txt.join Str.empty ((k.map esc1).map strN) = strN (escK k) := by
          have := join_L [] (k.map esc1)
          rw [esc_joins] at this
          exact this
        rw [ej]
        have le := escK_len k
        refine ⟨_, _, rfl, rfl, ?_, _, _, rfl, rfl, ?_, ?_⟩
        · rw [strN_len]
          show 1 + (escK k).length ≤ sizeLine
          exact Nat.le_trans (by omega : _ ≤ 3000) (by decide)
        · rw [show ("\"" : Str) = strN [34] from by decide +kernel, str_app, strN_len, strN_len, List.length_append]
          show 1 + (escK k).length + 1 ≤ sizeLine
          exact Nat.le_trans (by omega : _ ≤ 3000) (by decide)
        · rw [show ("\"" : Str) = strN [34] from by decide +kernel, str_app, str_app]
          exact kQ H1 s1
theorem scPtx : FnScope ["path", "step"] ["path"] (defScope sPtx) := ⟨rfl, rfl, rfl, by decide +kernel, rfl, by decide +kernel, by decide +kernel⟩
theorem ok_ptx (D : Df K a) (T : Txt K mg a) : FnOk P w K mg base CX0 2 a.fPtx D.dPtx ["path"] (spPtx K) := by
  have GInq : FnOk P w K mg base CX0 1 a.fInq D.dInq ["word"] spInq := ok_inq D T
  refine D.FPtx.ok scPtx (fun vs H Q E h => ?_) (fun cdv A outer s H vs Q E hr h => ?_)
  · obtain ⟨tp, p, rfl, _⟩ := h
    rfl
  · obtain ⟨tp, p, rfl, hS, hl, hok, kQ⟩ := h
    refine ⟨_, (pss_cons (ps_if (pt_cmpR op_eq (pe_callB call_len_seq (by rfl) T.blen PySem.boot_len (pa_cons (pv 0) pa_nil)) pe_int (nomark _)) (pss_one (ps_ret pe_str)) pss_nil) (pss_one (ps_ret (pe_join pe_str (pe_lc (te := (tIf (tB (tCB (rIsi K) (tCons (tVar 1) (tCons (tC (.ty "str")) tNil)))) (tCall spInq [] E0 (tCons (tVar 1) tNil)) (tCB rStrI (tCons (tVar 1) tNil)))) (own := [("step", 1)]) (g := (gName 1)) (tt := tYes) rfl scPtx.nd (pi_or (pi_list (pv 0)) (pi_tup (pv 0))) (blkOk_by (N := ["path", "step"]) (sc := defScope sPtx) (by decide +kernel)) (fun _ _ _ _ _ => (pg_name (i := 1) scPtx.nd rfl (.inl rfl))) (fun _ _ _ _ _ => pts_nil) (fun _ _ _ _ _ => (pe_ifExp (pt_val (pe_callB call_isi (by rfl) T.bisinstance (by decide +kernel) (pa_cons (pv 1) (pa_cons (pe_bltn (v := .ty "str") rfl T.bstr (by decide +kernel) rfl) pa_nil)))) (pe_call GInq hr rfl T.gInq D.FInq.kp D.bInq .nil pass0 (pa_cons (pv 1) pa_nil)) (pe_callTy call_str_int (by rfl) T.bstr (by decide +kernel) (pa_cons (pv 1) pa_nil))))))))), ?_⟩
    refine ⟨_, rfl, tp, _, rfl, hS, rfl, decide (p = []), congrArg V.bl (decide_eq_decide.mpr ⟨fun q => ?_, fun q => by rw [q]; rfl⟩), ?_⟩
    · have := V.int.inj q
      rw [List.length_map] at this
      exact List.eq_nil_of_length_eq_zero (by omega)
    by_cases c : p = []
    · rw [decide_eq_true c]
      refine iteT ?_
      have := kQ H (Same.refl H)
      rw [c] at this
      exact this
    · rw [decide_eq_false c]
      have ew : wrt p = joinT p := by unfold wrt; rw [if_neg c]
      rw [ew] at kQ
      have step : ∀ (DL : Addr), H DL = none → ∀ (i : Nat) (y : V) (H1 : Hp), i < p.length → (H1 DL = some (.lst ((((p.take i).map txtS).map strN).map V.str)) ∧ Same H H1) → (p.map Stp.v)[i]? = some y → (tIf (tB (tCB (rIsi K) (tCons (tVar 1) (tCons (tC (.ty "str")) tNil)))) (tCall spInq [] E0 (tCons (tVar 1) tNil)) (tCB rStrI (tCons (tVar 1) tNil))) [some (.ref tp), some y] H1 (fun y H4 => ∃ acc, H4 DL = some (.lst acc) ∧ acc.length < sizeLine ∧ (upd H4 DL (.lst (acc ++ [y]))) DL = some (.lst ((((p.take (i + 1)).map txtS).map strN).map V.str)) ∧ Same H (upd H4 DL (.lst (acc ++ [y])))) := by
        intro DL hDL i y H1 hi ⟨e1, s1⟩ hy
        rw [List.getElem?_map] at hy
        obtain ⟨s2, hs2, rfl⟩ := Option.map_eq_some_iff.mp hy
        have ok2 := hok s2 (List.mem_of_getElem? hs2)
        have fin : ∀ H4, Same H1 H4 → ∃ acc, H4 DL = some (.lst acc) ∧ acc.length < sizeLine ∧ (upd H4 DL (.lst (acc ++ [V.str (strN (txtS s2))]))) DL = some (.lst ((((p.take (i + 1)).map txtS).map strN).map V.str)) ∧ Same H (upd H4 DL (.lst (acc ++ [V.str (strN (txtS s2))]))) := fun H4 s4 => by
          refine ⟨_, s4 _ _ e1, ?_, ?_, fun b o e => ?_⟩
          · rw [List.length_map, List.length_map, List.length_map, List.length_take]
            exact Nat.lt_of_le_of_lt (by omega : _ ≤ 1000) (by decide)
          · rw [upd_same, List.take_add_one, hs2, List.map_append, List.map_append, List.map_append]
            rfl
          · rw [upd_ne (ne_of_none e hDL)]
            exact s4 _ _ (s1 _ _ e)
        cases s2 with
        | num n =>
          refine ⟨_, rfl, .int ((n : Nat) : Int), .ty "str", _, _, false, rfl, .ty _, .base (.int _), kit_ty (by decide +kernel), _, rfl, ?_⟩
          refine iteF ⟨_, rfl, _, rfl, log_ok ok2.1, ?_⟩
          have := fin H1 (Same.refl H1)
          rw [show txtS (.num n) = decL n from rfl, ← dec_str] at this
          exact this
        | key kk =>
          refine ⟨_, rfl, .str (strN kk), .ty "str", _, _, true, rfl, .ty _, .base (.str _), kit_ty (by decide +kernel), _, rfl, ?_⟩
          exact iteT ⟨_, rfl, kk, rfl, ok2, fun H4 s4 => fin H4 s4⟩
      have last : ∀ (DL : Addr) (H1 : Hp), (H1 DL = some (.lst ((((p.take p.length).map txtS).map strN).map V.str)) ∧ Same H H1) → ∃ (a_1 : Str) (q : Addr) (ys : List Str), V.str ("/" : Str) = V.str a_1 ∧ [V.ref DL] = [V.ref q] ∧ (SqL K H1 q (ys.map V.str) ∨ SqT K H1 q (ys.map V.str)) ∧ (ys.map (fun x => x.length)).sum + ys.length * a_1.length ≤ 16777216 ∧ Q (.str (Txt.join a_1 ys)) H1 := by
        intro DL H1 ⟨e1, s1⟩
        rw [List.take_length] at e1
        refine ⟨"/", DL, (p.map txtS).map strN, rfl, rfl, .inl (.inl (.inl e1)), ?_, ?_⟩
        · have := strs_len (f := txtS) (b := 2002) p fun c hc => txt_len (hok c hc)
          rw [List.length_map, List.length_map]
          show _ + p.length * 1 ≤ _
          omega
        · have ej : Txt.join ("/" : Str) ((p.map txtS).map strN) = strN (joinT p) := by
            have := join_L [47] (p.map txtS)
            rw [join_path] at this
            exact this
          rw [ej]
          exact kQ H1 s1
      rcases hS with hS | hS
      · refine iteF ⟨⟨_, rfl⟩, .inl ⟨_, rfl, tp, rfl, ⟨_, hS⟩, fun DL hDL => lc_it (walk_list (K := K) (a := tp) (xs := p.map Stp.v)) (fun i H' => H' DL = some (.lst ((((p.take i).map txtS).map strN).map V.str)) ∧ Same H H') ⟨by rw [List.take_zero]; exact upd_same, same_new (Same.refl H) hDL⟩ (fun _ _ _ q => Same.seq q.2 hS) ?_ ?_⟩⟩
        · rintro i y H1' H1 hi q ⟨rfl, hy⟩
          exact ⟨rfl, step DL hDL i y H1 (by rw [List.length_map] at hi; exact hi) q hy⟩
        · rintro H1 q
          rw [List.length_map] at q
          exact last DL H1 q
      · refine iteF ⟨⟨_, rfl⟩, .inr ⟨_, rfl, tp, rfl, ⟨_, hS⟩, fun DL hDL => lc_it (walk_tup (K := K) (a := tp) (xs := p.map Stp.v)) (fun i H' => H' DL = some (.lst ((((p.take i).map txtS).map strN).map V.str)) ∧ Same H H') ⟨by rw [List.take_zero]; exact upd_same, same_new (Same.refl H) hDL⟩ (fun _ _ _ q => Same.tup q.2 hS) ?_ ?_⟩⟩
        · rintro i y H1' H1 hi q ⟨rfl, hy⟩
          exact ⟨rfl, step DL hDL i y H1 (by rw [List.length_map] at hi; exact hi) q hy⟩
        · rintro H1 q
          rw [List.length_map] at q
          exact last DL H1 q
end
end G58



set_option Elab.async false
set_option linter.all false
set_option maxRecDepth 100000
set_option maxHeartbeats 4000000
/-! A list compared with an empty one. -/
namespace G58
open PySem PySem.Spec PyProof.Rows L2
def rNeNil (K : PySem.W.Frag) : R2 := fun x y H Q => ∃ p q xs, x = .ref p ∧ y = .ref q ∧ SqL K H p xs ∧ SqL K H q [] ∧ Q (.bl (!xs.isEmpty)) H
def rEqNil (K : PySem.W.Frag) : R2 := fun x y H Q => ∃ p q xs, x = .ref p ∧ y = .ref q ∧ SqL K H p xs ∧ SqL K H q [] ∧ Q (.bl xs.isEmpty) H
section
variable {X : Cx}
theorem op_neNil (hu : X.A.units < cLine) : OpR X (compareOp .NotEq) (rNeNil X.K) := by
  intro pins s σ H x y v u Q I rx ry h
  obtain ⟨p, q, xs, rfl, rfl, hp, hq, k⟩ := h
  cases rx
  cases ry
  obtain ⟨its, rv, hl, _⟩ := I.list hp
  obtain ⟨its2, rv2, hl2, _⟩ := I.list hq
  have e2 : its2 = [] := List.eq_nil_of_length_eq_zero (by rw [← rv2.length]; rfl)
  subst e2
  cases xs with
  | nil =>
    have e1 : its = [] := List.eq_nil_of_length_eq_zero (by rw [← rv.length]; rfl)
    subst e1
    exact SeqAt.RcNeAt.lists (e := fun _ => true) hl.isList hl2.isList rfl hu (fun j h1 _ => absurd h1 (by simp)) _ _ _ _ ⟨.bl _, H, I, rfl, k⟩
  | cons x xs =>
    refine SeqAt.RcNeAt.lists_lengths hl.isList hl2.isList ?_ hu _ _ _ _ ⟨.bl _, H, I, rfl, k⟩
    have : its.length = xs.length + 1 := by rw [← rv.length]; rfl
    simp [this]
theorem op_eqNil (hu : X.A.units < cLine) : OpR X (compareOp .Eq) (rEqNil X.K) := by
  intro pins s σ H x y v u Q I rx ry h
  obtain ⟨p, q, xs, rfl, rfl, hp, hq, k⟩ := h
  cases rx
  cases ry
  obtain ⟨its, rv, hl, _⟩ := I.list hp
  obtain ⟨its2, rv2, hl2, _⟩ := I.list hq
  have e2 : its2 = [] := List.eq_nil_of_length_eq_zero (by rw [← rv2.length]; rfl)
  subst e2
  cases xs with
  | nil =>
    have e1 : its = [] := List.eq_nil_of_length_eq_zero (by rw [← rv.length]; rfl)
    subst e1
    exact SeqAt.RcAt.lists (e := fun _ => true) hl.isList hl2.isList rfl hu (fun j h1 _ => absurd h1 (by simp)) _ _ _ _ ⟨.bl _, H, I, rfl, k⟩
  | cons x xs =>
    refine SeqAt.RcAt.lists_lengths hl.isList hl2.isList ?_ hu _ _ _ _ ⟨.bl _, H, I, rfl, k⟩
    have : its.length = xs.length + 1 := by rw [← rv.length]; rfl
    simp [this]
end
end G58

set_option Elab.async false
set_option linter.all false
set_option pp.maxSteps 2500
set_option maxRecDepth 100000
set_option maxHeartbeats 4000000
/-! Drawn keys, ways; their texts by the law. -/
namespace G58
open PySem PySem.Spec PyProof.Rows L2 NumText TL StrLaws
theorem pe_addT {X : Cx} {r : R2} (ho : OpR X (binaryOp .Add) r) {c : Str} {j : Nat} {cp pos : Pos} {f : Expr} {tf : TE} (hf : PET X f tf) : PE X (.BinOp (.Constant (.str c) j cp) .Add f pos) (tOp r (tC (.str c)) tf) := by
  refine ⟨fun pins s σ H Q I h => ?_⟩
  refine wpAny_BinOp (Calls.Constant_str ?_)
  exact thn (hf pins { s with toks := s.toks + 1 } σ H _ (by show 1 ≤ s.toks + 1; omega) (I.tok _) h) fun u s2 ⟨y, H2, I2, r2, q2⟩ => ho pins s2 σ H2 (.str c) y (.str c s.toks) u Q I2 ⟨_, rfl⟩ r2 q2
def Stp.sm : Stp → Prop
  | .num _ => True
  | .key k => ∀ c ∈ k, c < 1000
def spKey : Sp := fun vs H Q _ => ∃ S : Addr, vs = [.ref S] ∧ SrcAt H S ∧ ∀ (k : List Nat) (H' : Hp), k.length ≤ 7 → (∀ c ∈ k, c < 1000) → SrcAt H' S → But S H H' → Q (.str (strN k)) H'
def spWay : Sp := fun vs H Q _ => ∃ S : Addr, vs = [.ref S] ∧ SrcAt H S ∧ ∀ (p : List Stp) (t : Addr) (H' : Hp), p.length ≤ 6 → (∀ s ∈ p, s.ok ∧ s.sm) → SrcAt H' S → But S H H' → H' t = some (.tup (p.map Stp.v)) → Q (.ref t) H'
def spWri (K : PySem.W.Frag) : Sp := fun vs H Q _ => ∃ (tp : Addr) (p : List Stp), vs = [.ref tp] ∧ H tp = some (.tup (p.map Stp.v)) ∧ p.length ≤ 100 ∧ (∀ s ∈ p, s.ok) ∧ ∀ H', Same H H' → Q (.str (strN (wrt p))) H'
theorem catV {H : Hp} {q r : Addr} {xs ys : List V} {Q : VK} (h1 : H q = some (.lst xs)) (h2 : H r = some (.lst ys)) (hl : xs.length + ys.length ≤ 1000000) (k : ∀ p H', H p = none → Same H H' → H' p = some (.lst (xs ++ ys)) → Q (.ref p) H') : rCat (.ref q) (.ref r) H Q :=
  ⟨q, r, _, _, rfl, rfl, h1, h2, Nat.le_trans hl (by decide), fun p hp => k p _ hp (same_new (Same.refl H) hp) upd_same⟩
theorem src_same {H H' : Hp} {S : Addr} (h : SrcAt H S) (s : Same H H') : SrcAt H' S := by
  obtain ⟨x, y, z, q⟩ := h
  exact ⟨x, y, z, s _ _ q⟩
theorem src_put {H : Hp} {S p : Addr} {o : HO} (h : SrcAt H S) (n : p ≠ S) : SrcAt (upd H p o) S := by
  obtain ⟨x, y, z, q⟩ := h
  exact ⟨x, y, z, by rw [upd_ne n.symm]; exact q⟩
theorem src_ne {H : Hp} {S p : Addr} (h : SrcAt H S) (hp : H p = none) : p ≠ S := fun z => by
  obtain ⟨x, y, w, q⟩ := h
  rw [z, q] at hp
  cases hp
/-- what is new in H1 is new in H -/
theorem But.free {S : Addr} {H H1 : Hp} (b : But S H H1) (hS : SrcAt H1 S) {p : Addr} (hp : H1 p = none) : H p = none := by
  cases e : H p with
  | none => rfl
  | some o =>
    have := b p o e (src_ne hS hp)
    rw [hp] at this
    cases this
theorem But.put {S p : Addr} {H H1 : Hp} {o : HO} (b : But S H H1) (hp : H p = none) : But S H (L2.upd H1 p o) := fun b' u e n => by
  rw [upd_ne (ne_of_none e hp)]
  exact b b' u e n
abbrev signZ : Str := "abz AZ09~!\"\\/'.,:[]{}-_"
theorem signZ_len : signZ.length = 23 := by decide +kernel
theorem signZ_len2 : signZ.cps.toList.length = 23 := by decide +kernel
theorem signZ_sm : ∀ c ∈ signZ.cps.toList, c < 1000 := by decide +kernel
theorem num_ok {n : Nat} (h : n < 1000) : (Stp.num n).ok := ⟨by omega, numOk_small n h⟩
theorem replL_one (y : Nat) (z : List Nat) : ∀ l : List Nat, replL [y] z l = l.flatMap fun c => if c = y then z else [c]
  | [] => replL_nil
  | c :: r => by
    by_cases h : c = y
    · rw [replL_hit (y := [y]) (z := z) (by simp) (by subst h; rfl), List.flatMap_cons, if_pos h]
      show z ++ replL [y] z r = _
      rw [replL_one y z r]
    · rw [replL_miss (y := [y]) (z := z) (fun q => h (by injection q)), List.flatMap_cons, if_neg h, replL_one y z r]
      rfl
theorem repl1_len (k : List Nat) : (Txt.replace (strN k) "\\" "\\\\").length ≤ 2 * k.length := by
  have e1 : ("\\" : Str).cps.toList = [92] := by decide +kernel
  have e2 : ("\\\\" : Str).cps.toList = [92, 92] := by decide +kernel
  show (Txt.replace (strN k) "\\" "\\\\").cps.size ≤ _
  rw [← Array.length_toList, replace_list (by decide +kernel), e1, e2, cps_strN, replL_one]
  induction k with
  | nil => exact Nat.le_refl _
  | cons c r ih =>
    rw [List.flatMap_cons, List.length_append, List.length_cons]
    have : (if c = 92 then [92, 92] else [c]).length ≤ 2 := by split <;> simp
    omega
theorem repl_esc (k : List Nat) : Txt.replace (Txt.replace (strN k) "\\" "\\\\") "\"" "\\\"" = strN (escK k) := by
  have e1 : ("\\" : Str).cps.toList = [92] := by decide +kernel
  have e2 : ("\\\\" : Str).cps.toList = [92, 92] := by decide +kernel
  have e3 : ("\"" : Str).cps.toList = [34] := by decide +kernel
  have e4 : ("\\\"" : Str).cps.toList = [92, 34] := by decide +kernel
  refine ext_tl ?_
  show (Txt.replace (Txt.replace (strN k) "\\" "\\\\") "\"" "\\\"").cps.toList = (strN (escK k)).cps.toList
  rw [replace_list (by decide +kernel), replace_list (by decide +kernel), e1, e2, e3, e4, cps_strN, cps_strN, replL_one, replL_one]
  induction k with
  | nil => rfl
  | cons c r ih =>
    rw [List.flatMap_cons, List.flatMap_append, ih]
    show _ = esc1 c ++ escK r
    congr 1
    unfold esc1
    by_cases h1 : c = 92
    · subst h1
      rfl
    · by_cases h2 : c = 34
      · subst h2
        rfl
      · rw [if_neg h1, if_neg (fun q => q.elim h2 h1), List.flatMap_cons, if_neg h2]
        rfl
section
variable {P : Program} {w : World} {K : PySem.W.Frag} {mg : Str → Option Value} {base : Heap} {a : Ad}
theorem scKey : FnScope ["_law_source_here", "_law_signs", "_law_many", "_law_k"] ["_law_source_here"] (defScope sKey) := ⟨rfl, rfl, rfl, by decide +kernel, rfl, by decide +kernel, by decide +kernel⟩
theorem ok_key (D : Df K a) (T : Txt K mg a) : FnOk P w K mg base CX0 3 a.fKey D.dKey ["_law_source_here"] spKey := by
  have GDrw : FnOk P w K mg base CX0 1 a.fDrw D.dDrw ["_law_source_here", "_law_many"] spDrw := ok_drw D T
  have GPik : FnOk P w K mg base CX0 2 a.fPik D.dPik ["_law_source_here", "_law_items"] spPik := ok_pik D T
  refine D.FKey.ok scKey (fun vs H Q E h => ?_) (fun cdv A outer s H vs Q E hr h => ?_)
  · obtain ⟨S, rfl, _⟩ := h
    rfl
  · obtain ⟨S, rfl, hS, kQ⟩ := h
    have hr1 : Room 1 _ := hr.mono (by decide)
    have hr2 : Room 2 _ := hr.mono (by decide)
    refine ⟨_, (pss_cons (ps_set (i := 1) scKey.nd rfl (.inr rfl) pe_str) (pss_cons (ps_set (i := 2) scKey.nd rfl (.inl rfl) (pe_call GPik hr2 rfl T.gPik D.FPik.kp D.bPik .nil pass0 (pa_cons (pv 0) (pa_cons (pe_lst (pa_cons pe_int (pa_cons pe_int (pa_cons pe_int (pa_cons pe_int (pa_cons pe_int (pa_cons pe_int pa_nil))))))) pa_nil)))) (pss_one (ps_ret (pe_join pe_str (pe_lc (own := [("_law_k", 3)]) (g := (gName 3)) (tt := tYes) rfl scKey.nd (pi_range1 (by rfl) T.brange (pa_cons (pv 2) pa_nil)) (blkOk_by (N := ["_law_source_here", "_law_signs", "_law_many", "_law_k"]) (sc := defScope sKey) (by decide +kernel)) (fun _ _ _ _ _ => (pg_name (i := 3) scKey.nd rfl (.inl rfl))) (fun _ _ _ _ _ => pts_nil) (fun _ _ _ _ _ => (pe_ix ix_str (pv 1) (pe_call GDrw hr1 rfl T.gDrw D.FDrw.kp D.bDrw .nil pass0 (pa_cons (pv 0) (pa_cons (pe_callB call_len_str (by rfl) T.blen PySem.boot_len (pa_cons (pv 1) pa_nil)) pa_nil))) (fun _ _ => rfl))))))))), ?_⟩
    refine ⟨_, rfl, by show 6 ≤ sizeLine; decide, fun q hq => ?_⟩
    have s1 := same_new (o := .lst (vInts [0, 1, 1, 2, 3, 7])) (Same.refl H) hq
    refine ⟨S, q, vInts [0, 1, 1, 2, 3, 7], rfl, src_same hS s1, upd_same, src_ne hS hq, by show 0 < 6; decide, by show 6 < 1000; decide, fun i x H2 hx hS2 b2 _ => ?_⟩
    obtain ⟨m, hm, rfl⟩ := vInts_get hx
    have m7 : m ≤ 7 := by
      have := List.mem_of_getElem? hm
      simp only [List.mem_cons, List.not_mem_nil, or_false] at this
      omega
    have b02 : But S H H2 := (Same.but s1).trans b2
    refine ⟨⟨_, rfl⟩, _, rfl, (m : Int), rfl, by omega, by omega, fun DL hDL => lc_it walk_range (fun i H' => ∃ k : List Nat, k.length = i ∧ (∀ c ∈ k, c < 1000) ∧ H' DL = some (.lst (onesV k)) ∧ SrcAt H' S ∧ But S H H') ⟨[], rfl, (fun _ q => nomatch q), upd_same, src_same hS2 (same_new (Same.refl _) hDL), b02.same (same_new (Same.refl _) hDL)⟩ (fun _ _ _ _ => True.intro) ?_ ?_⟩
    · rintro i y H3' H3 hi ⟨k, lk, ksm, eD, hS3, b3⟩ ⟨rfl, rfl⟩
      have hi : i < (m : Int).toNat := hi
      have nD : DL ≠ S := src_ne hS2 hDL
      refine ⟨rfl, _, rfl, _, rfl, _, rfl, signZ, rfl, Nat.le_trans (Nat.le_of_eq signZ_len) (by decide), S, _, rfl, hS3, by rw [signZ_len]; decide, by rw [signZ_len]; decide, fun r H4 r0 r1 hS4 b4 _ => ?_⟩
      rw [signZ_len] at r1
      obtain ⟨rn, rfl⟩ : ∃ n : Nat, r = ((n : Nat) : Int) := ⟨r.toNat, by omega⟩
      have rl : rn < signZ.cps.toList.length := by rw [signZ_len2]; omega
      have eD4 := b4 _ _ eD nD
      refine ⟨signZ, _, signZ.cps.toList[rn], rfl, rfl, Nat.le_trans (Nat.le_of_eq signZ_len) (by decide), atI_nat (List.getElem?_eq_getElem rl), _, eD4, ?_, k ++ [signZ.cps.toList[rn]], by rw [List.length_append, lk]; rfl, ?_, ?_, src_put hS4 nD, (b3.trans b4).put (b02.free hS2 hDL)⟩
      · rw [List.length_map, List.length_map, lk]
        exact Nat.lt_of_le_of_lt (by omega : _ ≤ 100) (by decide)
      · intro c hc
        rcases List.mem_append.mp hc with q | q
        · exact ksm c q
        · rw [List.mem_singleton.mp q]
          exact signZ_sm _ (List.getElem_mem rl)
      · rw [upd_same, ← onesV_app]
        rfl
    · rintro H3 ⟨k, lk, ksm, eD, hS3, b3⟩
      rw [Int.toNat_natCast] at lk
      refine ⟨Str.empty, DL, k.map fun n => strN [n], rfl, rfl, .inl (.inl (.inl eD)), ?_, ?_⟩
      · rw [ones_len]
        show k.length + _ * 0 ≤ _
        omega
      · rw [join_ones]
        exact kQ k H3 (by omega) ksm hS3 b3
theorem scWay : FnScope ["_law_source_here", "_law_found", "_law_k", "_law_some"] ["_law_source_here"] (defScope sWay) := ⟨rfl, rfl, rfl, by decide +kernel, rfl, by decide +kernel, by decide +kernel⟩
theorem ok_wayP (D : Df K a) (T : Txt K mg a) : FnOk P w K mg base CX0 4 a.fWay D.dWay ["_law_source_here"] spWay := by
  have GDrw : FnOk P w K mg base CX0 1 a.fDrw D.dDrw ["_law_source_here", "_law_many"] spDrw := ok_drw D T
  have GPik : FnOk P w K mg base CX0 2 a.fPik D.dPik ["_law_source_here", "_law_items"] spPik := ok_pik D T
  have GKey : FnOk P w K mg base CX0 3 a.fKey D.dKey ["_law_source_here"] spKey := ok_key D T
  refine D.FWay.ok scWay (fun vs H Q E h => ?_) (fun cdv A outer s H vs Q E hr h => ?_)
  · obtain ⟨S, rfl, _⟩ := h
    rfl
  · obtain ⟨S, rfl, hS, kQ⟩ := h
    have hr1 : Room 1 _ := hr.mono (by decide)
    have hr2 : Room 2 _ := hr.mono (by decide)
    refine ⟨_, (pss_cons (ps_set (i := 1) scWay.nd rfl (.inl rfl) (pe_lst pa_nil)) (pss_cons (ps_for PassesOwn.never rfl (pi_range1 (by rfl) T.brange (pa_cons (pe_call GPik hr2 rfl T.gPik D.FPik.kp D.bPik .nil pass0 (pa_cons (pv 0) (pa_cons (pe_lst (pa_cons pe_int (pa_cons pe_int (pa_cons pe_int (pa_cons pe_int (pa_cons pe_int (pa_cons pe_int pa_nil))))))) pa_nil))) pa_nil)) (pg_name (i := 2) scWay.nd rfl (.inl rfl)) (pss_cons (ps_set (i := 3) scWay.nd rfl (.inl rfl) (pe_lst (pa_cons pe_int (pa_cons pe_int (pa_cons pe_int (pa_cons pe_int (pa_cons (pe_op op_pow pe_int pe_int) (pa_cons (pe_op op_sub (pe_op op_pow pe_int pe_int) pe_int) (pa_cons (pe_call GDrw hr1 rfl T.gDrw D.FDrw.kp D.bDrw .nil pass0 (pa_cons (pv 0) (pa_cons pe_int pa_nil))) (pa_cons (pe_call GKey hr rfl T.gKey D.FKey.kp D.bKey .nil pass0 (pa_cons (pv 0) pa_nil)) (pa_cons (pe_call GKey hr rfl T.gKey D.FKey.kp D.bKey .nil pass0 (pa_cons (pv 0) pa_nil)) pa_nil))))))))))) (pss_one (ps_expr (pe_bm PySem.F.plainAttrs_list PySem.F.slot_list_append PySem.F.type_list_append mt_append (pv 1) (pa_cons (pe_call GPik hr2 rfl T.gPik D.FPik.kp D.bPik .nil pass0 (pa_cons (pv 0) (pa_cons (pe_op op_cat (pv 3) (pe_lst (pa_cons (pe_call GKey hr rfl T.gKey D.FKey.kp D.bKey .nil pass0 (pa_cons (pv 0) pa_nil)) pa_nil))) pa_nil))) pa_nil)))))) (pss_one (ps_ret (pe_callTy call_tuple_of (by rfl) T.btuple (by decide +kernel) (pa_cons (pv 1) pa_nil)))))), ?_⟩
    refine ⟨by show 0 ≤ sizeLine; decide, fun FL hFL => ?_⟩
    have s0 := same_new (o := .lst []) (Same.refl H) hFL
    have nF : FL ≠ S := src_ne hS hFL
    have eF0 : (upd H FL (.lst [])) FL = some (.lst []) := upd_same
    have hS0 := src_same hS s0
    generalize upd H FL (.lst []) = H0 at s0 eF0 hS0 ⊢
    refine ⟨_, rfl, by show 6 ≤ sizeLine; decide, fun q hq => ?_⟩
    have s1 := same_new (o := .lst (vInts [0, 1, 1, 2, 3, 6])) (Same.refl H0) hq
    refine ⟨S, q, vInts [0, 1, 1, 2, 3, 6], rfl, src_same hS0 s1, upd_same, src_ne hS0 hq, by show 0 < 6; decide, by show 6 < 1000; decide, fun i x H2 hx hS2 b2 _ => ?_⟩
    obtain ⟨m, hm, rfl⟩ := vInts_get hx
    have m6 : m ≤ 6 := by
      have := List.mem_of_getElem? hm
      simp only [List.mem_cons, List.not_mem_nil, or_false] at this
      omega
    have b02 : But S H0 H2 := (Same.but s1).trans b2
    have eF2 := b02 _ _ eF0 nF
    refine ⟨(m : Int), rfl, by omega, by omega, for_it walk_range (fun j st H3 => ∃ u2 u3 p, st = [some (.ref S), some (.ref FL), u2, u3] ∧ p.length = j ∧ (∀ s ∈ p, Stp.ok s ∧ Stp.sm s) ∧ H3 FL = some (.lst (p.map Stp.v)) ∧ SrcAt H3 S ∧ But S H H3) ⟨_, _, [], rfl, rfl, (fun _ q => nomatch q), eF2, hS2, (Same.but s0).trans b02⟩ (fun _ _ _ _ _ => True.intro) ?_ ?_⟩
    · rintro j y st H3' H3 hj ⟨u2, u3, p, rfl, lp, pok, eF3, hS3, b3⟩ ⟨rfl, rfl⟩
      have hj : j < (m : Int).toNat := hj
      refine ⟨_, _, rfl, rfl, ⟨by decide, by decide, by decide⟩, _, _, rfl, rfl, ⟨by decide, by decide, by decide⟩, _, _, rfl, rfl, _, rfl, S, 1000, rfl, hS3, by decide, by decide, fun r H4 r0 r1 hS4 b4 _ => ⟨_, rfl, S, rfl, hS4, fun k1 H5 l1 c1 hS5 b5 => ⟨_, rfl, S, rfl, hS5, fun k2 H6 l2 c2 hS6 b6 => ⟨by show 9 ≤ sizeLine; decide, fun L1 hL1 => ?_⟩⟩⟩⟩
      have b36 := b4.trans (b5.trans b6)
      have eF6 := b36 _ _ eF3 nF
      obtain ⟨xs9, e9⟩ : ∃ xs, xs = [V.int 0, .int 1, .int 7, .int 10, .int (10 ^ (19 : Int).toNat), .int (10 ^ (20 : Int).toNat - 1), .int r, .str (strN k1), .str (strN k2)] := ⟨_, rfl⟩
      have s7 := same_new (o := .lst xs9) (Same.refl H6) hL1
      have eL7 : (upd H6 L1 (.lst xs9)) L1 = some (.lst xs9) := upd_same
      have l9 : xs9.length = 9 := by rw [e9]; rfl
      have all9 : ∀ v ∈ xs9, ∃ s : Stp, v = s.v ∧ s.ok ∧ s.sm := by
        intro v hv
        rw [e9] at hv
        simp only [List.mem_cons, List.not_mem_nil, or_false] at hv
        rcases hv with rfl | rfl | rfl | rfl | rfl | rfl | rfl | rfl | rfl
        · exact ⟨.num 0, rfl, num_ok (by decide), True.intro⟩
        · exact ⟨.num 1, rfl, num_ok (by decide), True.intro⟩
        · exact ⟨.num 7, rfl, num_ok (by decide), True.intro⟩
        · exact ⟨.num 10, rfl, num_ok (by decide), True.intro⟩
        · exact ⟨.num 10000000000000000000, by decide +kernel, ⟨by decide, numOk_19⟩, True.intro⟩
        · exact ⟨.num 99999999999999999999, by decide +kernel, ⟨by decide, numOk_20⟩, True.intro⟩
        · exact ⟨.num r.toNat, congrArg V.int (by omega), num_ok (by omega), True.intro⟩
        · exact ⟨.key k1, rfl, Nat.le_trans l1 (by decide), c1⟩
        · exact ⟨.key k2, rfl, Nat.le_trans l2 (by decide), c2⟩
      rw [← e9]
      have eF7 := s7 _ _ eF6
      have hS7 := src_same hS6 s7
      generalize upd H6 L1 (.lst xs9) = H7 at s7 eL7 eF7 hS7 ⊢
      refine ⟨_, rfl, .inl ⟨rfl, _, .inl (.inl eF7)⟩, _, rfl, _, rfl, _, rfl, S, rfl, hS7, fun k3 H8 l3 c3 hS8 b8 => ⟨by show 1 ≤ sizeLine; decide, fun L2 hL2 => ?_⟩⟩
      have nL1 : L1 ≠ S := src_ne hS6 hL1
      have eL8 := b8 _ _ eL7 nL1
      have eF8 := b8 _ _ eF7 nF
      have s9 := same_new (o := .lst [V.str (strN k3)]) (Same.refl H8) hL2
      have eL2 : (upd H8 L2 (.lst [V.str (strN k3)])) L2 = some (.lst [V.str (strN k3)]) := upd_same
      refine catV (s9 _ _ eL8) eL2 (by rw [l9]; show 9 + 1 ≤ 1000000; decide) fun L3 H10 hL3 s10 eL3 => ?_
      have s810 := s9.trans s10
      have hS10 := src_same hS8 s810
      have eF10 := s810 _ _ eF8
      refine ⟨S, L3, xs9 ++ [V.str (strN k3)], rfl, hS10, eL3, fun z => ?_, by rw [List.length_append, l9]; show 0 < 9 + 1; decide, by rw [List.length_append, l9]; show 9 + 1 < 1000; decide, fun i x H11 hx hS11 b11 _ => ?_⟩
      · obtain ⟨_, _, _, q⟩ := hS10
        rw [z, q] at eL3
        injection eL3 with eL3
        injection eL3 with eL3
        have := congrArg List.length eL3
        rw [List.length_append, l9] at this
        exact absurd (show (3 : Nat) = 9 + 1 from this) (by decide)
      · obtain ⟨s, rfl, sok⟩ : ∃ s : Stp, x = s.v ∧ s.ok ∧ s.sm := by
          rcases List.mem_append.mp (List.mem_of_getElem? hx) with q | q
          · exact all9 x q
          · rw [List.mem_singleton.mp q]
            exact ⟨.key k3, rfl, Nat.le_trans l3 (by decide), c3⟩
        have eF11 := b11 _ _ eF10 nF
        have b311 : But S H H11 := (b3.trans b36).trans (((Same.but s7).trans b8).trans ((Same.but s810).trans b11))
        refine ⟨FL, _, _, rfl, rfl, eF11, ?_, _, _, p ++ [s], rfl, by rw [List.length_append, lp]; rfl, ?_, ?_, src_put hS11 nF, b311.put hFL⟩
        · rw [List.length_map, lp]
          exact Nat.lt_of_le_of_lt (by omega : _ ≤ 100) (by decide)
        · intro s' hs
          rcases List.mem_append.mp hs with q | q
          · exact pok s' q
          · rw [List.mem_singleton.mp q]
            exact sok
        · rw [upd_same, List.map_append]
          rfl
    · rintro st H3 ⟨u2, u3, p, rfl, lp, pok, eF3, hS3, b3⟩
      rw [Int.toNat_natCast] at lp
      refine ⟨_, rfl, FL, _, rfl, .inl ⟨.inl (.inl eF3), fun t ht => ?_⟩⟩
      exact kQ p t _ (by omega) pok (src_same hS3 (same_new (Same.refl _) ht)) (b3.same (same_new (Same.refl _) ht)) upd_same
theorem scWri : FnScope ["_law_way_here", "_law_found", "_law_one"] ["_law_way_here"] (defScope sWri) := ⟨rfl, rfl, rfl, by decide +kernel, rfl, by decide +kernel, by decide +kernel⟩
theorem ok_wri (D : Df K a) (T : Txt K mg a) : FnOk P w K mg base CX0 1 a.fWri D.dWri ["_law_way_here"] (spWri K) := by
  refine D.FWri.ok scWri (fun vs H Q E h => ?_) (fun cdv A outer s H vs Q E hr h => ?_)
  · obtain ⟨tp, p, rfl, _⟩ := h
    rfl
  · obtain ⟨tp, p, rfl, hS, hl, hok, kQ⟩ := h
    refine ⟨_, (pss_cons (ps_set (i := 1) scWri.nd rfl (.inl rfl) (pe_lst pa_nil)) (pss_cons (ps_for PassesOwn.never rfl (pi_tup (pv 0)) (pg_name (i := 2) scWri.nd rfl (.inl rfl)) (pss_one (ps_if (pt_val (pe_callB call_isi (by rfl) T.bisinstance (by decide +kernel) (pa_cons (pv 2) (pa_cons (pe_bltn (v := .ty "str") rfl T.bstr (by decide +kernel) rfl) pa_nil)))) (pss_one (ps_expr (pe_bm PySem.F.plainAttrs_list PySem.F.slot_list_append PySem.F.type_list_append mt_append (pv 1) (pa_cons (pe_op op_add_str (pe_addT op_add_str (CwR.pet_replT (CwR.pet_replC (pv 2)))) pe_str) pa_nil)))) (pss_one (ps_expr (pe_bm PySem.F.plainAttrs_list PySem.F.slot_list_append PySem.F.type_list_append mt_append (pv 1) (pa_cons (pe_callTy call_str_int (by rfl) T.bstr (by decide +kernel) (pa_cons (pv 2) pa_nil)) pa_nil))))))) (pss_one (ps_ret (pe_ifExp (pt_cmpR (op_neNil hr.units0) (pv 1) (pe_lst pa_nil) (nomark _)) (pe_join pe_str (pv 1)) pe_str))))), ?_⟩
    refine ⟨by show 0 ≤ sizeLine; decide, fun FL hFL => ?_⟩
    have s0 := same_new (o := .lst []) (Same.refl H) hFL
    refine ⟨_, rfl, tp, rfl, ⟨_, .inl (.inl (s0 _ _ hS))⟩, for_it (walk_tup (K := K) (a := tp) (xs := p.map Stp.v)) (fun j st H1 => ∃ u2, st = [some (.ref tp), some (.ref FL), u2] ∧ H1 FL = some (.lst ((((p.take j).map txtS).map strN).map V.str)) ∧ Same H H1) ⟨_, rfl, by rw [List.take_zero]; exact upd_same, s0⟩ (fun _ _ _ _ q => by
      obtain ⟨_, _, _, q⟩ := q
      exact .inl (.inl (q _ _ hS))) ?_ ?_⟩
    · rintro j y st H1' H1 hj ⟨u2, rfl, e1, s1⟩ ⟨rfl, hy⟩
      rw [List.length_map] at hj
      rw [List.getElem?_map] at hy
      obtain ⟨s2, hs2, rfl⟩ := Option.map_eq_some_iff.mp hy
      have ok2 := hok s2 (List.mem_of_getElem? hs2)
      have lj : ((((p.take j).map txtS).map strN).map V.str).length < sizeLine := by
        rw [List.length_map, List.length_map, List.length_map, List.length_take]
        exact Nat.lt_of_le_of_lt (by omega : _ ≤ 1000) (by decide)
      have fin : ∀ u, ∃ u2, [some (V.ref tp), some (.ref FL), u] = [some (V.ref tp), some (.ref FL), u2] ∧ (upd H1 FL (.lst ((((p.take j).map txtS).map strN).map V.str ++ [V.str (strN (txtS s2))]))) FL = some (.lst ((((p.take (j + 1)).map txtS).map strN).map V.str)) ∧ Same H (upd H1 FL (.lst ((((p.take j).map txtS).map strN).map V.str ++ [V.str (strN (txtS s2))]))) := fun u => by
        refine ⟨u, rfl, ?_, fun b o e => ?_⟩
        · rw [upd_same, List.take_add_one, hs2, List.map_append, List.map_append, List.map_append]
          rfl
        · rw [upd_ne (ne_of_none e hFL)]
          exact s1 _ _ e
      cases s2 with
      | num n =>
        refine ⟨_, rfl, .int ((n : Nat) : Int), .ty "str", _, _, false, rfl, .ty _, .base (.int _), kit_ty (by decide +kernel), _, rfl, ?_⟩
        refine iteF ⟨_, rfl, .inl ⟨rfl, _, .inl (.inl e1)⟩, _, rfl, _, rfl, log_ok ok2.1, FL, _, _, rfl, rfl, e1, lj, ?_⟩
        rw [dec_str]
        exact fin _
      | key kk =>
        have ok2 : kk.length ≤ 1000 := ok2
        refine ⟨_, rfl, .str (strN kk), .ty "str", _, _, true, rfl, .ty _, .base (.str _), kit_ty (by decide +kernel), _, rfl, ?_⟩
        refine iteT ⟨_, rfl, .inl ⟨rfl, _, .inl (.inl e1)⟩, _, rfl, strN kk, rfl, ?_, _, rfl, ?_, ?_⟩
        · rw [strN_len]
          show kk.length + (kk.length + 1) * 2 ≤ _
          omega
        · have lr := repl1_len kk
          show _ + (_ + 1) * 2 ≤ _
          omega
        · rw [repl_esc]
          have le := escK_len kk
          refine ⟨_, _, rfl, rfl, ?_, _, _, rfl, rfl, ?_, FL, _, _, rfl, rfl, e1, lj, ?_⟩
          · rw [strN_len]
            show 1 + (escK kk).length ≤ sizeLine
            exact Nat.le_trans (by omega : _ ≤ 3000) (by decide)
          · rw [show ("\"" : Str) = strN [34] from by decide +kernel, str_app, strN_len, strN_len, List.length_append]
            show 1 + (escK kk).length + 1 ≤ sizeLine
            exact Nat.le_trans (by omega : _ ≤ 3000) (by decide)
          · rw [show ("\"" : Str) = strN [34] from by decide +kernel, str_app, str_app]
            exact fin _
    · rintro st H1 ⟨u2, rfl, e1, s1⟩
      rw [List.length_map, List.take_length] at e1
      refine ⟨_, rfl, by show 0 ≤ sizeLine; decide, fun q hq => ?_⟩
      have s2 := same_new (o := .lst []) (Same.refl H1) hq
      have e2 := s2 _ _ e1
      refine ⟨FL, q, _, rfl, rfl, .inl (.inl e2), .inl (.inl upd_same), !decide (p = []), congrArg V.bl (by cases p <;> rfl), ?_⟩
      generalize upd H1 q (.lst []) = H2 at s2 e2 ⊢
      by_cases c : p = []
      · rw [decide_eq_true c]
        have := kQ H2 (s1.trans s2)
        rw [c] at this
        exact iteF this
      · rw [decide_eq_false c]
        have ew : wrt p = joinT p := by unfold wrt; rw [if_neg c]
        rw [ew] at kQ
        refine iteT ⟨⟨_, rfl⟩, _, rfl, "/", FL, (p.map txtS).map strN, rfl, rfl, .inl (.inl (.inl e2)), ?_, ?_⟩
        · have := strs_len (f := txtS) (b := 2002) p fun c hc => txt_len (hok c hc)
          rw [List.length_map, List.length_map]
          show _ + p.length * 1 ≤ _
          omega
        · have ej : Txt.join ("/" : Str) ((p.map txtS).map strN) = strN (joinT p) := by
            have := join_L [47] (p.map txtS)
            rw [join_path] at this
            exact this
          rw [ej]
          exact kQ H2 (s1.trans s2)
end
end G58

set_option Elab.async false
set_option linter.all false
set_option pp.maxSteps 2500
set_option maxRecDepth 100000
set_option maxHeartbeats 4000000
/-! The law's own reading of a path's text. -/
namespace G58
open PySem PySem.Spec PyProof.Rows L2 NumText TL
def spKen : Sp := fun vs H Q _ => ∃ (l : List Nat) (p : Nat), vs = [.str (strN l), .int ((p : Nat) : Int)] ∧ l.length ≤ 100000 ∧ p < l.length ∧ (∀ q, keyF l (l.length + 1) (p + 1) [] = .inl q → ∀ t H', Same H H' → H' t = some (.tup [.int (-1), .int ((q : Nat) : Int)]) → Q (.ref t) H') ∧
  (∀ e k, keyF l (l.length + 1) (p + 1) [] = .inr (e, k) → ∀ t H', Same H H' → H' t = some (.tup [.int ((e : Nat) : Int), .str (strN k)]) → Q (.ref t) H')
def spPlc : Sp := fun vs H Q _ => ∃ (l : List Nat) (p : Nat), vs = [.str (strN l), .int ((p : Nat) : Int)] ∧ l.length ≤ 100000 ∧ p ≤ l.length ∧ (∀ q, plcF l p = .inl q → ∀ t H', Same H H' → H' t = some (.tup [.int (-1), .int ((q : Nat) : Int)]) → Q (.ref t) H') ∧
  (∀ e n, plcF l p = .inr (e, n) → ∀ t H', Same H H' → H' t = some (.tup [.int ((e : Nat) : Int), .int ((n : Nat) : Int)]) → Q (.ref t) H')
def dueV (l : List Nat) (H : Hp) (t : Addr) : Prop := match rdP l with
  | .inl q => H t = some (.tup [.str "fault", .int ((q : Nat) : Int)])
  | .inr p => ∃ u, H t = some (.tup [.str "told", .ref u]) ∧ H u = some (.tup (p.map Stp.v))
def spDue : Sp := fun vs H Q _ => ∃ (l : List Nat), vs = [.str (strN l)] ∧ l.length ≤ 100000 ∧ ∀ t H', Same H H' → dueV l H' t → Q (.ref t) H'
theorem sl1 {σ : L2.St} {H : Hp} {Q : VK} {l : List Nat} {p : Nat} (h0 : σ[0]? = some (some (V.str (strN l)))) (h1 : σ[1]? = some (some (V.int ((p : Nat) : Int)))) (hl : l.length ≤ 100000) (k : Q (.str (strN ((l.drop p).take 1))) H) : tSl rSlS (tVar 0) (tPart (tVar 1)) (tPart (tOp (rI0 fun i j => V.int (i + j)) (tVar 1) (tC (V.int 1)))) σ H Q := by
  refine ⟨_, h0, _, h1, _, rfl, _, h1, _, _, rfl, rfl, _, rfl, strN l, rfl, by rw [strN_len]; exact Nat.le_trans hl (by decide), ?_⟩
  have e : cutS (strN l) (some ((p : Nat) : Int)) (some (((p : Nat) : Int) + 1)) = strN ((l.drop p).take 1) := by
    have := cut1 l p (p + 1)
    rw [Nat.add_sub_cancel_left] at this
    exact this
  rw [e]
  exact k
theorem strLen (l : List Nat) : (((strN l).length : Nat) : Int) = ((l.length : Nat) : Int) := by rw [strN_len]
theorem at_len {l : List Nat} {p : Nat} (h : p ≤ l.length) : decide (V.int ((p : Nat) : Int) = V.int (((strN l).length : Nat) : Int)) = decide (l[p]? = none) := by
  rw [strLen]
  refine decide_eq_decide.mpr ⟨fun q => ?_, fun q => ?_⟩
  · have := V.int.inj q
    exact List.getElem?_eq_none_iff.mpr (by omega)
  · have := List.getElem?_eq_none_iff.mp q
    exact congrArg V.int (by omega)
theorem in_qs (l : List Nat) (p : Nat) : inV (.str (strN ((l.drop p).take 1))) [.str "\"", .str "\\"] = (match l[p]? with
    | some d => decide (d = 34 ∨ d = 92)
    | none => false) := by
  have q34 : ("\"" : Str) = strN [34] := by decide +kernel
  have q92 : ("\\" : Str) = strN [92] := by decide +kernel
  rw [q34, q92]
  have e : ∀ c : Nat, eqV (.str (strN [c])) (.str (strN ((l.drop p).take 1))) = decide (l[p]? = some c) := fun c => by
    show decide (strN [c] = strN ((l.drop p).take 1)) = _
    refine decide_eq_decide.mpr ⟨fun q => sg_eq.mp (congrArg V.str q.symm), fun q => (V.str.inj (sg_eq.mpr q)).symm⟩
  show (eqV _ _ || (eqV _ _ || false)) = _
  rw [e, e, Bool.or_false]
  cases l[p]? with
  | none => rfl
  | some d =>
    show (decide (some d = some 34) || decide (some d = some 92)) = decide _
    rw [← Bool.decide_or]
    refine decide_eq_decide.mpr ⟨fun q => q.imp Option.some.inj Option.some.inj, fun q => q.imp (congrArg some) (congrArg some)⟩
theorem cut01 (l : List Nat) : cutS (strN l) none (some 1) = strN ((l.drop 0).take 1) := by
  have h := cut1 l 0 1
  have e : cutS (strN l) none (some 1) = cutS (strN l) (some ((0 : Nat) : Int)) (some ((1 : Nat) : Int)) := by
    unfold cutS
    rw [show HT.sIx (strN l).length 0 (some ((0 : Nat) : Int)) = HT.sIx (strN l).length 0 none from by
      rw [HT.sIx_nat, Nat.zero_min]
      rfl]
    rfl
  rw [e]
  exact h
theorem due_tIf {σ : L2.St} {H : Hp} {Q : VK} {l : List Nat} {p : Nat} (h0 : σ[0]? = some (some (V.str (strN l)))) (h1 : σ[1]? = some (some (V.int ((p : Nat) : Int)))) (hl : l.length ≤ 100000) (hp : p ≤ l.length)
    (k1 : ∀ q, stpF l p = .inl q → ∀ t H', Same H H' → H' t = some (.tup [.int (-1), .int ((q : Nat) : Int)]) → Q (.ref t) H')
    (k2 : ∀ e s, stpF l p = .inr (e, s) → ∀ t H', Same H H' → H' t = some (.tup [.int ((e : Nat) : Int), s.v]) → Q (.ref t) H') :
    tIf (tTest (tOp rEq (tSl rSlS (tVar 0) (tPart (tVar 1)) (tPart (tOp (rI0 fun i j => V.int (i + j)) (tVar 1) (tC (V.int 1))))) (tC (V.str "\"")))) (tCall spKen [] E0 (tCons (tVar 0) (tCons (tVar 1) tNil))) (tCall spPlc [] E0 (tCons (tVar 0) (tCons (tVar 1) tNil))) σ H Q := by
  have q34 : ("\"" : Str) = strN [34] := by decide +kernel
  refine sl1 (p := p) h0 h1 hl ⟨rfl, decide (l[p]? = some 34), congrArg V.bl (by rw [q34]; exact decide_eq_decide.mpr sg_eq), ?_⟩
  by_cases c : l[p]? = some 34
  · rw [decide_eq_true c]
    exact iteT ⟨_, h0, _, h1, l, p, rfl, hl, at_lt c, fun q e => k1 q (by rw [stpF_key c, e]), fun e k eq => k2 e (.key k) (by rw [stpF_key c, eq])⟩
  · rw [decide_eq_false c]
    exact iteF ⟨_, h0, _, h1, l, p, rfl, hl, hp, fun q e => k1 q (by rw [stpF_num c, e]), fun e k eq => k2 e (.num k) (by rw [stpF_num c, eq])⟩
theorem pthF_nx (l : List Nat) (f p : Nat) (acc : List Stp) : pthF l (f + 1) p acc = match stpF l p with
    | .inl q => .inl q
    | .inr (e, s) => (match l[e]? with
      | none => .inr (acc ++ [s])
      | some c => if c = 47 then pthF l f (e + 1) (acc ++ [s]) else .inl e) := by
  rw [pthF_step]
  rfl
section
variable {P : Program} {w : World} {K : PySem.W.Frag} {mg : Str → Option Value} {base : Heap} {a : Ad}
theorem scKen : FnScope ["_law_word", "_law_at", "_law_found"] ["_law_word", "_law_at"] (defScope sKen) := ⟨rfl, rfl, rfl, by decide +kernel, rfl, by decide +kernel, by decide +kernel⟩
theorem ok_ken (D : Df K a) (T : Txt K mg a) : FnOk P w K mg base CX0 1 a.fKen D.dKen ["_law_word", "_law_at"] spKen := by
  refine D.FKen.ok scKen (fun vs H Q E h => ?_) (fun cdv A outer s H vs Q E hr h => ?_)
  · obtain ⟨l, p, rfl, _⟩ := h
    rfl
  · obtain ⟨l, p, rfl, hl, hp, k1, k2⟩ := h
    refine ⟨_, (pss_cons (ps_set (i := 1) scKen.nd rfl (.inl rfl) (pe_op op_add (pv 1) pe_int)) (pss_cons (ps_set (i := 2) scKen.nd rfl (.inl rfl) pe_str) (pss_cons (ps_while PassesOwn.never (pt_cmpR op_ne (pe_slice sl_str (pv 0) (po_some (pv 1)) (po_some (pe_op op_add (pv 1) pe_int))) pe_str (nomark _)) (pss_cons (ps_if (pt_cmpR op_eq (pe_slice sl_str (pv 0) (po_some (pv 1)) (po_some (pe_op op_add (pv 1) pe_int))) pe_str (nomark _)) (pss_cons (ps_set (i := 1) scKen.nd rfl (.inl rfl) (pe_op op_add (pv 1) pe_int)) (pss_one (ps_if (pt_cmpR op_notIn_seq (pe_slice sl_str (pv 0) (po_some (pv 1)) (po_some (pe_op op_add (pv 1) pe_int))) (pe_lst (pa_cons pe_str (pa_cons pe_str pa_nil))) rfl) (pss_one (ps_ret (pe_tup (pa_cons (pe_un un_neg pe_int) (pa_cons (pv 1) pa_nil))))) pss_nil))) pss_nil) (pss_cons (ps_if (pt_cmpR op_eq (pv 1) (pe_callB call_len_str (by rfl) T.blen PySem.boot_len (pa_cons (pv 0) pa_nil)) (nomark _)) (pss_one (ps_ret (pe_tup (pa_cons (pe_un un_neg pe_int) (pa_cons (pv 1) pa_nil))))) pss_nil) (pss_cons (ps_set (i := 2) scKen.nd rfl (.inl rfl) (pe_op op_add_str (pv 2) (pe_ix ix_str (pv 0) (pv 1) (fun _ _ => rfl)))) (pss_one (ps_set (i := 1) scKen.nd rfl (.inl rfl) (pe_op op_add (pv 1) pe_int))))))) (pss_one (ps_ret (pe_tup (pa_cons (pe_op op_add (pv 1) pe_int) (pa_cons (pv 2) pa_nil)))))))), ?_⟩
    have q34 : ("\"" : Str) = strN [34] := by decide +kernel
    have q92 : ("\\" : Str) = strN [92] := by decide +kernel
    refine ⟨_, rfl, _, _, rfl, rfl, ?_⟩
    let I : Nat → L2.St → Hp → Prop := fun m st H' => ∃ e f acc, m = l.length + 1 - e ∧ st = [some (.str (strN l)), some (.int ((e : Nat) : Int)), some (.str (strN acc))] ∧ Same H H' ∧ keyF l (l.length + 1) (p + 1) [] = keyF l f e acc ∧ l.length < f + e ∧ acc.length ≤ e ∧ e ≤ l.length
    refine ⟨I, ⟨_, p + 1, l.length + 1, [], rfl, rfl, Same.refl H, rfl, by omega, Nat.zero_le _, hp⟩, ?_⟩
    rintro m st H' ⟨e, f, acc, rfl, rfl, s3, eq, hf, la, el⟩
    obtain ⟨f, rfl⟩ : ∃ g, f = g + 1 := ⟨f - 1, by omega⟩
    refine sl1 (p := e) rfl rfl hl ⟨rfl, !decide (l[e]? = some 34), congrArg V.bl (by rw [q34]; exact congrArg (fun z => !z) (decide_eq_decide.mpr sg_eq)), ?_⟩
    by_cases c34 : l[e]? = some 34
    · rw [decide_eq_true c34]
      refine iteF ?_
      rw [keyF_step l f e acc, c34] at eq
      have eq : keyF l (l.length + 1) (p + 1) [] = .inr (e + 1, acc) := eq
      exact ⟨_, rfl, _, _, rfl, rfl, _, rfl, by show 2 ≤ sizeLine; decide, fun t ht => k2 _ _ eq t _ (same_new s3 ht) upd_same⟩
    · rw [decide_eq_false c34]
      refine iteT ⟨fun st H' => ∃ m', m' < l.length + 1 - e ∧ I m' st H', fun _ _ q => q, ?_⟩
      refine' with_rest _ (fun R => ∀ (e' : Nat) (H4 : Hp), Same H H4 → (l[e']? = none → keyF l (l.length + 1) (p + 1) [] = .inl e') → (∀ d, l[e']? = some d → ∃ f', keyF l (l.length + 1) (p + 1) [] = keyF l f' (e' + 1) (acc ++ [d]) ∧ l.length < f' + (e' + 1)) → e ≤ e' → e' ≤ l.length → R [some (.str (strN l)), some (.int ((e' : Nat) : Int)), some (.str (strN acc))] H4) (fun rest => ?_) ?_
      rotate_left
      · refine sl1 (p := e) rfl rfl hl ⟨rfl, decide (l[e]? = some 92), congrArg V.bl (by rw [q92]; exact decide_eq_decide.mpr sg_eq), ?_⟩
        by_cases c92 : l[e]? = some 92
        · rw [decide_eq_true c92]
          rw [keyF_step l f e acc, c92] at eq
          have eq : keyF l (l.length + 1) (p + 1) [] = (match l[e + 1]? with
            | some d => if d = 34 ∨ d = 92 then keyF l f (e + 2) (acc ++ [d]) else .inl (e + 1)
            | none => .inl (e + 1)) := eq
          have el1 := at_lt c92
          refine iteT ⟨_, rfl, _, _, rfl, rfl, sl1 (p := e + 1) rfl rfl hl ⟨by show 2 ≤ sizeLine; decide, fun L hL => ⟨L, _, rfl, .inl (.inl (.inl upd_same)), rfl, rfl, _, rfl, ?_⟩⟩⟩
          have s4 := same_new (o := .lst [V.str "\"", .str "\\"]) s3 hL
          generalize upd H' L (.lst [V.str "\"", .str "\\"]) = H4 at s4 ⊢
          show (if (!inV _ _) = true then _ else _)
          rw [in_qs]
          cases e1 : l[e + 1]? with
          | none =>
            rw [e1] at eq
            exact iteT ⟨_, rfl, _, rfl, by show 2 ≤ sizeLine; decide, fun t ht => k1 _ eq t _ (same_new s4 ht) upd_same⟩
          | some d =>
            rw [e1] at eq
            have eq : keyF l (l.length + 1) (p + 1) [] = if d = 34 ∨ d = 92 then keyF l f (e + 2) (acc ++ [d]) else .inl (e + 1) := eq
            by_cases cd : d = 34 ∨ d = 92
            · rw [if_pos cd] at eq
              have g1 : l[e + 1]? = none → keyF l (l.length + 1) (p + 1) [] = .inl (e + 1) := fun q => by rw [e1] at q; cases q
              have g2 : ∀ d', l[e + 1]? = some d' → ∃ f', keyF l (l.length + 1) (p + 1) [] = keyF l f' (e + 1 + 1) (acc ++ [d']) ∧ l.length < f' + (e + 1 + 1) := fun d' q => by
                rw [e1] at q
                cases q
                exact ⟨f, eq, by omega⟩
              show (if (!decide (d = 34 ∨ d = 92)) = true then _ else _)
              rw [decide_eq_true cd]
              refine iteF ?_
              exact rest (e + 1) H4 s4 g1 g2 (Nat.le_succ _) el1
            · rw [if_neg cd] at eq
              show (if (!decide (d = 34 ∨ d = 92)) = true then _ else _)
              rw [decide_eq_false cd]
              exact iteT ⟨_, rfl, _, rfl, by show 2 ≤ sizeLine; decide, fun t ht => k1 _ eq t _ (same_new s4 ht) upd_same⟩
        · rw [decide_eq_false c92]
          have g1 : l[e]? = none → keyF l (l.length + 1) (p + 1) [] = .inl e := fun q => by
            rw [keyF_step l f e acc, q] at eq
            exact eq
          have g2 : ∀ d, l[e]? = some d → ∃ f', keyF l (l.length + 1) (p + 1) [] = keyF l f' (e + 1) (acc ++ [d]) ∧ l.length < f' + (e + 1) := fun d q => by
            rw [keyF_step l f e acc, q] at eq
            refine ⟨f, ?_, by omega⟩
            rw [eq]
            show (if d = 34 then _ else if d = 92 then _ else _) = _
            rw [if_neg (fun z => c34 (by rw [q, z])), if_neg (fun z => c92 (by rw [q, z]))]
          refine iteF ?_
          exact rest e H' s3 g1 g2 (Nat.le_refl _) el
      intro e' H4 s4 kn kd le el'
      refine ⟨_, rfl, _, rfl, strN l, rfl, by rw [strN_len]; exact Nat.le_trans hl (by decide), rfl, decide (l[e']? = none), congrArg V.bl (at_len el'), ?_⟩
      cases e1 : l[e']? with
      | none =>
        rw [decide_eq_true rfl]
        exact iteT ⟨_, rfl, _, rfl, by show 2 ≤ sizeLine; decide, fun t ht => k1 _ (kn e1) t _ (same_new s4 ht) upd_same⟩
      | some d =>
        obtain ⟨f', g1, g2⟩ := kd d e1
        have el2 := at_lt e1
        rw [decide_eq_false (fun z => nomatch z)]
        refine iteF ⟨_, rfl, _, rfl, _, rfl, strN l, _, d, rfl, rfl, by rw [strN_len]; exact Nat.le_trans hl (by decide), by rw [cps_strN]; exact atI_nat e1, strN acc, strN [d], rfl, rfl, ?_, ?_⟩
        · rw [strN_len, strN_len]
          show acc.length + 1 ≤ sizeLine
          exact Nat.le_trans (by omega : _ ≤ 1000000) (by decide)
        · rw [str_app]
          refine ⟨_, rfl, _, _, rfl, rfl, _, by omega, e' + 1, f', acc ++ [d], rfl, rfl, s4, g1, g2, ?_, el2⟩
          rw [List.length_append, List.length_singleton]
          omega
theorem scPlc : FnScope ["_law_word", "_law_at", "_law_end"] ["_law_word", "_law_at"] (defScope sPlc) := ⟨rfl, rfl, rfl, by decide +kernel, rfl, by decide +kernel, by decide +kernel⟩
theorem ok_plc (D : Df K a) (T : Txt K mg a) : FnOk P w K mg base CX0 1 a.fPlc D.dPlc ["_law_word", "_law_at"] spPlc := by
  refine D.FPlc.ok scPlc (fun vs H Q E h => ?_) (fun cdv A outer s H vs Q E hr h => ?_)
  · obtain ⟨l, p, rfl, _⟩ := h
    rfl
  · obtain ⟨l, p, rfl, hl, hp, k1, k2⟩ := h
    refine ⟨_, (pss_cons (ps_if (PW.pt (pw_or (pt_cmpR op_eq (pv 1) (pe_callB call_len_str (by rfl) T.blen PySem.boot_len (pa_cons (pv 0) pa_nil)) (nomark _)) (pw_or1 (pt_cmpR op_notIn_sign (pe_ix ix_str (pv 0) (pv 1) (fun _ _ => rfl)) pe_str rfl)))) (pss_one (ps_ret (pe_tup (pa_cons (pe_un un_neg pe_int) (pa_cons (pv 1) pa_nil))))) pss_nil) (pss_cons (ps_set (i := 2) scPlc.nd rfl (.inl rfl) (pe_op op_add (pv 1) pe_int)) (pss_cons (ps_while PassesOwn.never (PW.pt (pw_and (pt_cmpR op_lt (pv 2) (pe_callB call_len_str (by rfl) T.blen PySem.boot_len (pa_cons (pv 0) pa_nil)) (nomark _)) (pw_and1 (pt_cmpR op_in_sign (pe_ix ix_str (pv 0) (pv 2) (fun _ _ => rfl)) pe_str rfl)))) (pss_cons (ps_if (PW.pt (pw_or (pt_cmpR op_eq (pe_ix ix_str (pv 0) (pv 1) (fun _ _ => rfl)) pe_str (nomark _)) (pw_or1 (pt_cmpR op_eq (pe_op op_sub (pv 2) (pv 1)) pe_int (nomark _))))) (pss_one (ps_ret (pe_tup (pa_cons (pe_un un_neg pe_int) (pa_cons (pv 2) pa_nil))))) pss_nil) (pss_one (ps_set (i := 2) scPlc.nd rfl (.inl rfl) (pe_op op_add (pv 2) pe_int))))) (pss_one (ps_ret (pe_tup (pa_cons (pv 2) (pa_cons (pe_callTy call_int_str (by rfl) T.bint (by decide +kernel) (pa_cons (pe_slice sl_str (pv 0) (po_some (pv 1)) (po_some (pv 2))) pa_nil)) pa_nil)))))))), ?_⟩
    have hL : (strN l).length ≤ sizeLine := by rw [strN_len]; exact Nat.le_trans hl (by decide)
    have fS : ("0123456789" : Str).cps.toList = figL := by decide +kernel
    refine ⟨_, rfl, _, rfl, strN l, rfl, hL, rfl, decide (l[p]? = none), congrArg V.bl (at_len hp), ?_⟩
    cases e0 : l[p]? with
    | none =>
      rw [decide_eq_true rfl]
      exact iteT (iteT ⟨_, rfl, _, rfl, by show 2 ≤ sizeLine; decide, fun t ht => k1 p (by unfold plcF; rw [e0]) t _ (same_new (Same.refl H) ht) upd_same⟩)
    | some c =>
      rw [decide_eq_false (fun z => nomatch z)]
      have pl := at_lt e0
      refine iteF ⟨_, rfl, _, rfl, strN l, _, c, rfl, rfl, hL, by rw [cps_strN]; exact atI_nat e0, c, _, rfl, rfl, _, rfl, ?_⟩
      show (if (!decide (c ∈ ("0123456789" : Str).cps.toList)) = true then _ else _)
      rw [fS, fig_mem]
      cases ed : dgt c with
      | false =>
        exact iteT ⟨_, rfl, _, rfl, by show 2 ≤ sizeLine; decide, fun t ht => k1 p (by unfold plcF; rw [e0]; simp [ed]) t _ (same_new (Same.refl H) ht) upd_same⟩
      | true =>
        have ep : plcF l p = match digF l p (l.length + 1) (p + 1) with
          | .inl q => .inl q
          | .inr e => .inr (e, numV l p e) := by
          unfold plcF
          rw [e0]
          simp only [ed, if_true]
          all_goals (cases digF l p (l.length + 1) (p + 1) <;> rfl)
        refine iteF ⟨_, rfl, _, _, rfl, rfl, ?_⟩
        refine ⟨fun m st H' => ∃ e f, m = l.length + 1 - e ∧ st = [some (.str (strN l)), some (.int ((p : Nat) : Int)), some (.int ((e : Nat) : Int))] ∧ H' = H ∧ digF l p (l.length + 1) (p + 1) = digF l p f e ∧ l.length < f + e ∧ p < e ∧ e ≤ l.length, ⟨_, p + 1, l.length + 1, rfl, rfl, rfl, rfl, by omega, by omega, by omega⟩, ?_⟩
        rintro m st H' ⟨e, f, rfl, rfl, rfl, eq, hf, pe, el⟩
        obtain ⟨f, rfl⟩ : ∃ g, f = g + 1 := ⟨f - 1, by omega⟩
        have dstep : digF l p (f + 1) e = (match l[e]? with
          | none => .inr e
          | some c => if dgt c = true then (if l[p]? = some 48 ∨ e - p = 20 then .inl e else digF l p f (e + 1)) else .inr e) := by
          rw [digF]
          all_goals (cases l[e]? <;> rfl)
        refine ⟨_, rfl, _, rfl, strN l, rfl, hL, _, _, rfl, rfl, decide (e < l.length), congrArg V.bl (by rw [strLen]; exact decide_eq_decide.mpr (by omega)), ?_⟩
        have stop : digF l p (l.length + 1) (p + 1) = .inr e → (tRet (tTup (tCons (tVar 2) (tCons (tCB (fun xs H Q => ∃ a n, xs = [V.str a] ∧ intText? a = some n ∧ a.length ≤ 640 ∧ Q (V.int n) H) (tCons (tSl rSlS (tVar 0) (tPart (tVar 1)) (tPart (tVar 2))) tNil)) tNil)))) { nx := fun x H' => Q V.non H', rt := Q } [some (V.str (strN l)), some (.int ((p : Nat) : Int)), some (.int ((e : Nat) : Int))] H' := fun ee => by
          refine ⟨_, rfl, _, rfl, _, rfl, _, rfl, _, rfl, _, rfl, strN l, rfl, hL, ?_⟩
          rw [cut1]
          have h20 := digF_20 ee (by omega)
          obtain ⟨q1, q2, q3⟩ := digF_le ee pl
          obtain ⟨n1, n2⟩ := num_text pe el h20 (fun i h1 h2 => by
            by_cases hi : i = p
            · subst hi
              exact ⟨c, e0, ed⟩
            · exact q3 i (by omega) h2)
          refine ⟨_, _, rfl, n1, by omega, by show 2 ≤ sizeLine; decide, fun t ht => ?_⟩
          exact k2 e _ (by rw [ep, ee]) t _ (same_new (Same.refl _) ht) upd_same
        cases e1 : l[e]? with
        | none =>
          rw [decide_eq_false (fun z => by rw [List.getElem?_eq_getElem z] at e1; cases e1)]
          rw [dstep, e1] at eq
          exact iteF (iteF (stop eq))
        | some c1 =>
          have el1 := at_lt e1
          rw [decide_eq_true el1]
          refine iteT ⟨_, rfl, _, rfl, strN l, _, c1, rfl, rfl, hL, by rw [cps_strN]; exact atI_nat e1, c1, _, rfl, rfl, _, rfl, ?_⟩
          show (if (decide (c1 ∈ ("0123456789" : Str).cps.toList)) = true then _ else _)
          rw [fS, fig_mem]
          rw [dstep, e1] at eq
          cases ed1 : dgt c1 with
          | false =>
            simp only [ed1] at eq
            exact iteF (stop eq)
          | true =>
            simp only [ed1, if_true] at eq
            refine iteT ⟨fun st H'' => ∃ m', m' < l.length + 1 - e ∧ ∃ e f, m' = l.length + 1 - e ∧ st = [some (.str (strN l)), some (.int ((p : Nat) : Int)), some (.int ((e : Nat) : Int))] ∧ H'' = H' ∧ digF l p (l.length + 1) (p + 1) = digF l p f e ∧ l.length < f + e ∧ p < e ∧ e ≤ l.length, fun _ _ q => q, ?_⟩
            refine ⟨_, rfl, _, rfl, strN l, _, c, rfl, rfl, hL, by rw [cps_strN]; exact atI_nat e0, ?_⟩
            have z48 : (decide (V.str ⟨#[c]⟩ = V.str ("0" : Str))) = decide (l[p]? = some 48) := by
              rw [e0]
              refine decide_eq_decide.mpr ⟨fun q => ?_, fun q => ?_⟩
              · have q2 : strN [c] = strN [48] := V.str.inj q
                have := strN_inj q2
                injection this with this
                rw [this]
              · rw [Option.some.inj q]
                rfl
            refine ⟨rfl, _, rfl, ?_⟩
            rw [z48]
            by_cases c48 : l[p]? = some 48
            · rw [decide_eq_true c48]
              rw [if_pos (.inl c48)] at eq
              exact iteT (iteT ⟨_, rfl, _, rfl, by show 2 ≤ sizeLine; decide, fun t ht => k1 e (by rw [ep, eq]) t _ (same_new (Same.refl _) ht) upd_same⟩)
            · rw [decide_eq_false c48]
              refine iteF ⟨_, rfl, _, rfl, _, _, rfl, rfl, rfl, _, rfl, ?_⟩
              have z20 : decide (V.int (((e : Nat) : Int) - ((p : Nat) : Int)) = V.int 20) = decide (e - p = 20) := decide_eq_decide.mpr ⟨fun q => by have := V.int.inj q; omega, fun q => congrArg V.int (by omega)⟩
              rw [z20]
              by_cases c20 : e - p = 20
              · rw [decide_eq_true c20]
                rw [if_pos (.inr c20)] at eq
                exact iteT ⟨_, rfl, _, rfl, by show 2 ≤ sizeLine; decide, fun t ht => k1 e (by rw [ep, eq]) t _ (same_new (Same.refl _) ht) upd_same⟩
              · rw [decide_eq_false c20]
                rw [if_neg (fun q => q.elim c48 c20)] at eq
                exact iteF ⟨_, rfl, _, _, rfl, rfl, _, by omega, e + 1, f, rfl, rfl, rfl, eq, by omega, by omega, el1⟩
theorem scDue : FnScope ["_law_word", "_law_at", "_law_found", "_law_goes_on", "_law_one"] ["_law_word"] (defScope sDue) := ⟨rfl, rfl, rfl, by decide +kernel, rfl, by decide +kernel, by decide +kernel⟩
theorem ok_due (D : Df K a) (T : Txt K mg a) : FnOk P w K mg base CX0 2 a.fDue D.dDue ["_law_word"] spDue := by
  have GKen : FnOk P w K mg base CX0 1 a.fKen D.dKen ["_law_word", "_law_at"] spKen := ok_ken D T
  have GPlc : FnOk P w K mg base CX0 1 a.fPlc D.dPlc ["_law_word", "_law_at"] spPlc := ok_plc D T
  refine D.FDue.ok scDue (fun vs H Q E h => ?_) (fun cdv A outer s H vs Q E hr h => ?_)
  · obtain ⟨l, rfl, _⟩ := h
    rfl
  · obtain ⟨l, rfl, hl, kQ⟩ := h
    refine ⟨_, (pss_cons (ps_if (pt_cmpR op_eq (pe_slice sl_str (pv 0) po_none (po_some pe_int)) pe_str (nomark _)) (pss_one (ps_ret (pe_ifExp (pt_cmpR op_eq (pv 0) pe_str (nomark _)) (pe_tup (pa_cons pe_str (pa_cons (pe_tup pa_nil) pa_nil))) (pe_tup (pa_cons pe_str (pa_cons pe_int pa_nil)))))) pss_nil) (pss_cons (ps_par3 (i := 1) (j := 2) (l := 3) rfl scDue.nd rfl rfl rfl (by decide) (by decide) (by decide) rfl rfl rfl (pa_cons pe_int (pa_cons (pe_lst pa_nil) (pa_cons pe_bl pa_nil))) rfl) (pss_cons (ps_while PassesOwn.never (pt_val (pv 3)) (pss_cons (ps_asg (pe_ifExp (pt_cmpR op_eq (pe_slice sl_str (pv 0) (po_some (pv 1)) (po_some (pe_op op_add (pv 1) pe_int))) pe_str (nomark _)) (pe_call GKen hr rfl T.gKen D.FKen.kp D.bKen .nil pass0 (pa_cons (pv 0) (pa_cons (pv 1) pa_nil))) (pe_call GPlc hr rfl T.gPlc D.FPlc.kp D.bPlc .nil pass0 (pa_cons (pv 0) (pa_cons (pv 1) pa_nil)))) (pg_tup rfl (pgs_cons (pg_name (i := 1) scDue.nd rfl (.inl rfl)) (pgs_cons (pg_name (i := 4) scDue.nd rfl (.inl rfl)) pgs_nil)))) (pss_cons (ps_if (pt_cmpR op_lt (pv 1) pe_int (nomark _)) (pss_one (ps_ret (pe_tup (pa_cons pe_str (pa_cons (pv 4) pa_nil))))) pss_nil) (pss_cons (ps_expr (pe_bm PySem.F.plainAttrs_list PySem.F.slot_list_append PySem.F.type_list_append mt_append (pv 2) (pa_cons (pv 4) pa_nil))) (pss_cons (ps_set (i := 3) scDue.nd rfl (.inl rfl) (pe_cmpR op_lt (pv 1) (pe_callB call_len_str (by rfl) T.blen PySem.boot_len (pa_cons (pv 0) pa_nil)) (nomark _))) (pss_cons (ps_if (PW.pt (pw_and (pt_val (pv 3)) (pw_and1 (pt_cmpR op_ne (pe_ix ix_str (pv 0) (pv 1) (fun _ _ => rfl)) pe_str (nomark _))))) (pss_one (ps_ret (pe_tup (pa_cons pe_str (pa_cons (pv 1) pa_nil))))) pss_nil) (pss_one (ps_set (i := 1) scDue.nd rfl (.inl rfl) (pe_op op_add (pv 1) pe_int))))))))) (pss_one (ps_ret (pe_tup (pa_cons pe_str (pa_cons (pe_callTy call_tuple_of (by rfl) T.btuple (by decide +kernel) (pa_cons (pv 2) pa_nil)) pa_nil)))))))), ?_⟩
    have hL : (strN l).length ≤ sizeLine := by rw [strN_len]; exact Nat.le_trans hl (by decide)
    have q46 : ("." : Str) = strN [46] := by decide +kernel
    have q47 : ("/" : Str) = strN [47] := by decide +kernel
    refine ⟨_, rfl, _, rfl, strN l, rfl, hL, ?_⟩
    rw [cut01]
    refine ⟨rfl, decide (l[0]? = some 46), congrArg V.bl (by rw [q46]; exact decide_eq_decide.mpr sg_eq), ?_⟩
    by_cases c46 : l[0]? = some 46
    · rw [decide_eq_true c46]
      have er : rdP l = if l.length = 1 then .inr [] else .inl 1 := by unfold rdP; rw [if_pos c46]
      refine iteT ⟨_, rfl, rfl, decide (l.length = 1), congrArg V.bl (by
        rw [q46]
        refine decide_eq_decide.mpr ⟨fun q => ?_, fun q => ?_⟩
        · rw [strN_inj (V.str.inj q)]
          rfl
        · obtain ⟨x, rfl⟩ := List.length_eq_one_iff.mp q
          cases c46
          rfl), ?_⟩
      by_cases c1 : l.length = 1
      · rw [decide_eq_true c1]
        rw [if_pos c1] at er
        refine iteT ⟨by show 0 ≤ sizeLine; decide, fun u hu => ⟨by show 2 ≤ sizeLine; decide, fun t ht => kQ t _ (same_new (same_new (Same.refl H) hu) ht) ?_⟩⟩
        unfold dueV
        rw [er]
        exact ⟨u, upd_same, by rw [upd_ne (fun z => by rw [← z, upd_same] at ht; cases ht)]; exact upd_same⟩
      · rw [decide_eq_false c1]
        rw [if_neg c1] at er
        refine iteF ⟨by show 2 ≤ sizeLine; decide, fun t ht => kQ t _ (same_new (Same.refl H) ht) ?_⟩
        unfold dueV
        rw [er]
        exact upd_same
    · rw [decide_eq_false c46]
      have er : rdP l = pthF l (l.length + 1) 0 [] := by
        unfold rdP
        rw [if_neg c46]
      refine iteF ⟨by show 0 ≤ sizeLine; decide, fun FL hFL => ⟨_, _, _, rfl, ?_⟩⟩
      have s1 := same_new (o := .lst []) (Same.refl H) hFL
      have eFL : (upd H FL (.lst [])) FL = some (.lst (([] : List Stp).map Stp.v)) := upd_same
      generalize upd H FL (.lst []) = H1 at s1 eFL ⊢
      let I : Nat → L2.St → Hp → Prop := fun m st H' => ∃ p acc g u4, st = [some (.str (strN l)), some (.int ((p : Nat) : Int)), some (.ref FL), some (.bl g), u4] ∧ Same H H' ∧ H' FL = some (.lst (acc.map Stp.v)) ∧ acc.length ≤ p ∧ p ≤ l.length + 1 ∧ (g = true → m = l.length + 2 - p ∧ p ≤ l.length ∧ ∃ f, rdP l = pthF l f p acc ∧ l.length < f + p) ∧ (g = false → m = 0 ∧ rdP l = .inr acc)
      refine ⟨I, ⟨_, 0, [], true, _, rfl, s1, eFL, Nat.zero_le _, by omega, fun _ => ⟨rfl, Nat.zero_le _, _, er, by omega⟩, fun z => nomatch z⟩, ?_⟩
      clear er
      rintro m st H' ⟨p, acc, g, u4, rfl, s2, eF2, la, lp, gT, gF⟩
      refine ⟨_, rfl, g, rfl, ?_⟩
      cases g with
      | false =>
        obtain ⟨rfl, er⟩ := gF rfl
        refine iteF ⟨_, rfl, FL, _, rfl, .inl ⟨.inl (.inl eF2), fun u hu => ⟨by show 2 ≤ sizeLine; decide, fun t ht => kQ t _ (same_new (same_new s2 hu) ht) ?_⟩⟩⟩
        unfold dueV
        rw [er]
        exact ⟨u, upd_same, by rw [upd_ne (fun z => by rw [← z, upd_same] at ht; cases ht)]; exact upd_same⟩
      | true =>
        obtain ⟨rfl, pl, f, er, hf⟩ := gT rfl
        clear gT gF
        obtain ⟨f, rfl⟩ : ∃ g, f = g + 1 := ⟨f - 1, by omega⟩
        rw [pthF_nx] at er
        refine iteT ⟨fun st H' => ∃ m', m' < l.length + 2 - p ∧ I m' st H', fun _ _ q => q, ?_⟩
        refine due_tIf (p := p) rfl rfl hl pl (fun q eq t H3 s3 e3 => ?_) (fun e s eq t H3 s3 e3 => ?_)
        · rw [eq] at er
          refine ⟨t, _, rfl, .inl (.inl e3), rfl, _, _, rfl, _, _, rfl, rfl, _, rfl, _, _, rfl, rfl, true, rfl, ?_⟩
          refine iteT ⟨_, rfl, by show 2 ≤ sizeLine; decide, fun u hu => kQ u _ (same_new (s2.trans s3) hu) ?_⟩
          unfold dueV
          rw [er]
          exact upd_same
        · have le2 := stpF_le eq
          rw [eq] at er
          have er : rdP l = (match l[e]? with
            | none => .inr (acc ++ [s])
            | some c => if c = 47 then pthF l f (e + 1) (acc ++ [s]) else .inl e) := er
          have eF3 := s3 _ _ eF2
          refine ⟨t, _, rfl, .inl (.inl e3), rfl, _, _, rfl, _, _, rfl, rfl, _, rfl, _, _, rfl, rfl, false, congrArg V.bl (decide_eq_false (by omega)), ?_⟩
          refine iteF ⟨_, rfl, .inl ⟨rfl, _, .inl (.inl eF3)⟩, _, rfl, FL, _, _, rfl, rfl, eF3, ?_, ?_⟩
          · rw [List.length_map]
            exact Nat.lt_of_le_of_lt (by omega : _ ≤ 1000000) (by decide)
          have s4 : Same H (upd H3 FL (.lst (acc.map Stp.v ++ [s.v]))) := fun b o e' => by
            rw [upd_ne (ne_of_none e' hFL)]
            exact (s2.trans s3) _ _ e'
          have eF4 : (upd H3 FL (.lst (acc.map Stp.v ++ [s.v]))) FL = some (.lst ((acc ++ [s]).map Stp.v)) := by
            rw [upd_same, List.map_append]
            rfl
          generalize upd H3 FL (.lst (acc.map Stp.v ++ [s.v])) = H4 at s4 eF4 ⊢
          have la2 : (acc ++ [s]).length ≤ e + 1 := by
            rw [List.length_append, List.length_singleton]
            omega
          refine ⟨_, rfl, _, rfl, strN l, rfl, hL, _, _, rfl, rfl, ?_⟩
          dsimp only
          rw [show decide (((e : Nat) : Int) < (((strN l).length : Nat) : Int)) = decide (e < l.length) from by rw [strLen]; exact decide_eq_decide.mpr (by omega)]
          refine ⟨_, rfl, _, rfl, ?_⟩
          cases e1 : l[e]? with
          | none =>
            rw [e1] at er
            rw [decide_eq_false (fun z => by rw [List.getElem?_eq_getElem z] at e1; cases e1)]
            exact iteF (iteF ⟨_, rfl, _, _, rfl, rfl, 0, by omega, e + 1, acc ++ [s], false, _, rfl, s4, eF4, la2, by omega, (fun z => nomatch z), fun _ => ⟨rfl, er⟩⟩)
          | some c =>
            rw [e1] at er
            have er : rdP l = if c = 47 then pthF l f (e + 1) (acc ++ [s]) else .inl e := er
            have el1 := at_lt e1
            rw [decide_eq_true el1]
            refine iteT ⟨_, rfl, _, rfl, strN l, _, c, rfl, rfl, hL, by rw [cps_strN]; exact atI_nat e1, rfl, !decide (c = 47), congrArg V.bl (congrArg (fun z => !z) (by
              rw [q47]
              refine decide_eq_decide.mpr ⟨fun q => ?_, fun q => ?_⟩
              · have q2 : strN [c] = strN [47] := V.str.inj q
                have := strN_inj q2
                injection this with this
              · rw [q]
                rfl)), ?_⟩
            by_cases c47 : c = 47
            · rw [decide_eq_true c47]
              rw [if_pos c47] at er
              exact iteF ⟨_, rfl, _, _, rfl, rfl, _, by omega, e + 1, acc ++ [s], true, _, rfl, s4, eF4, la2, by omega, fun _ => ⟨rfl, el1, f, er, by omega⟩, fun z => nomatch z⟩
            · rw [decide_eq_false c47]
              rw [if_neg c47] at er
              refine iteT ⟨_, rfl, by show 2 ≤ sizeLine; decide, fun u hu => kQ u _ (same_new s4 hu) ?_⟩
              unfold dueV
              rw [er]
              exact upd_same
end
end G58

set_option Elab.async false
set_option linter.all false
set_option pp.maxSteps 2500
set_option maxRecDepth 100000
set_option maxHeartbeats 4000000
/-! Plain: how long what is told may be, and of which signs it is. -/
namespace G58
open PySem PySem.Spec PyProof.Rows L2 NumText TL
/-- a step that may be told -/
def Stp.sh : Stp → Prop
  | .num n => n < 100000000000000000000
  | .key k => ∀ c ∈ k, c < 1000
def Stp.w : Stp → Nat
  | .num _ => 1
  | .key k => k.length + 2
def wAll (p : List Stp) : Nat := (p.map Stp.w).sum
theorem keyF_sm {l : List Nat} (hs : ∀ c ∈ l, c < 1000) : ∀ {f p : Nat} {acc : List Nat} {e : Nat} {k : List Nat}, keyF l f p acc = .inr (e, k) → (∀ c ∈ acc, c < 1000) → ∀ c ∈ k, c < 1000
  | 0, p, acc, e, k, h, _ => by cases h
  | f + 1, p, acc, e, k, h, ha => by
    have app : ∀ d, d ∈ l → ∀ c ∈ acc ++ [d], c < 1000 := fun d hd c hc => by
      rcases List.mem_append.mp hc with q | q
      · exact ha c q
      · rw [List.mem_singleton.mp q]
        exact hs d hd
    rw [keyF_step] at h
    cases hc : l[p]? with
    | none =>
      rw [hc] at h
      cases h
    | some c =>
      rw [hc] at h
      simp only at h
      split at h
      · injection h with h
        injection h with h1 h2
        subst h1 h2
        exact ha
      · split at h
        · cases hd : l[p + 1]? with
          | none =>
            rw [hd] at h
            cases h
          | some d =>
            rw [hd] at h
            simp only at h
            split at h
            · exact keyF_sm hs h (app d (List.mem_of_getElem? hd))
            · cases h
        · exact keyF_sm hs h (app c (List.mem_of_getElem? hc))
theorem keyF_out {l : List Nat} : ∀ {f p : Nat} {acc : List Nat} {q : Nat}, keyF l f p acc = .inl q → p ≤ l.length → q ≤ l.length
  | 0, p, acc, q, h, hp => by
    cases h
    exact hp
  | f + 1, p, acc, q, h, hp => by
    rw [keyF_step] at h
    cases hc : l[p]? with
    | none =>
      rw [hc] at h
      cases h
      exact hp
    | some c =>
      rw [hc] at h
      have pl := at_lt hc
      simp only at h
      split at h
      · cases h
      · split at h
        · cases hd : l[p + 1]? with
          | none =>
            rw [hd] at h
            cases h
            omega
          | some d =>
            rw [hd] at h
            have := at_lt hd
            simp only at h
            split at h
            · exact keyF_out h (by omega)
            · cases h
              omega
        · exact keyF_out h (by omega)
theorem digF_out {l : List Nat} {b : Nat} : ∀ {f e q : Nat}, digF l b f e = .inl q → e ≤ l.length → q ≤ l.length
  | 0, e, q, h, he => by
    cases h
    exact he
  | f + 1, e, q, h, he => by
    rw [digF] at h
    cases hc : l[e]? with
    | none =>
      rw [hc] at h
      cases h
    | some c =>
      rw [hc] at h
      have pl := at_lt hc
      simp only at h
      split at h
      · split at h
        · cases h
          exact he
        · exact digF_out h (by omega)
      · cases h
theorem plcF_out {l : List Nat} {p q : Nat} (h : plcF l p = .inl q) (hp : p ≤ l.length) : q ≤ l.length := by
  unfold plcF at h
  cases hc : l[p]? with
  | none =>
    rw [hc] at h
    cases h
    exact hp
  | some c =>
    rw [hc] at h
    simp only at h
    split at h
    · cases hd : digF l p (l.length + 1) (p + 1) with
      | inl q' =>
        rw [hd] at h
        cases h
        exact digF_out hd (at_lt hc)
      | inr e =>
        rw [hd] at h
        cases h
    · cases h
      exact hp
theorem stpF_out {l : List Nat} {p q : Nat} (h : stpF l p = .inl q) (hp : p ≤ l.length) : q ≤ l.length := by
  by_cases c : l[p]? = some 34
  · rw [stpF_key c] at h
    cases hk : keyF l (l.length + 1) (p + 1) [] with
    | inl q' =>
      rw [hk] at h
      cases h
      exact keyF_out hk (at_lt c)
    | inr z =>
      obtain ⟨e', k⟩ := z
      rw [hk] at h
      cases h
  · rw [stpF_num c] at h
    cases hk : plcF l p with
    | inl q' =>
      rw [hk] at h
      cases h
      exact plcF_out hk hp
    | inr z =>
      obtain ⟨e', k⟩ := z
      rw [hk] at h
      cases h
theorem digits_lt : ∀ (cs : List Nat) (a : Nat), (∀ c ∈ cs, c ≤ 57) → cs.foldl (fun acc c => acc * 10 + (c - 48)) a < (a + 1) * 10 ^ cs.length
  | [], a, _ => by simp
  | c :: cs, a, h => by
    have h1 := digits_lt cs (a * 10 + (c - 48)) fun d hd => h d (List.mem_cons_of_mem _ hd)
    have h2 := h c (List.mem_cons_self ..)
    rw [List.foldl_cons, List.length_cons, Nat.pow_succ]
    have h3 : (a * 10 + (c - 48) + 1) * 10 ^ cs.length ≤ (a + 1) * 10 * 10 ^ cs.length := Nat.mul_le_mul_right _ (by omega)
    have h4 : (a + 1) * 10 * 10 ^ cs.length = (a + 1) * (10 ^ cs.length * 10) := by rw [Nat.mul_assoc, Nat.mul_comm 10]
    omega
theorem plcF_lt {l : List Nat} {p e n : Nat} (h : plcF l p = .inr (e, n)) : n < 100000000000000000000 := by
  unfold plcF at h
  cases hc : l[p]? with
  | none =>
    rw [hc] at h
    cases h
  | some c =>
    rw [hc] at h
    simp only at h
    split at h
    · rename_i dc
      cases hd : digF l p (l.length + 1) (p + 1) with
      | inl q =>
        rw [hd] at h
        cases h
      | inr e' =>
        rw [hd] at h
        cases h
        have h20 := digF_20 hd (by omega)
        obtain ⟨q1, q2, q3⟩ := digF_le hd (at_lt hc)
        unfold numV digitsVal
        have ll : ((l.drop p).take (e - p)).length ≤ 20 := by
          rw [List.length_take]
          omega
        have al : ∀ c ∈ (l.drop p).take (e - p), c ≤ 57 := by
          intro d hd
          obtain ⟨i, hi⟩ := List.getElem?_of_mem hd
          have il := (List.getElem?_eq_some_iff.mp hi).1
          rw [List.length_take] at il
          rw [List.getElem?_take_of_lt (by omega), List.getElem?_drop] at hi
          by_cases hz : p + i = p
          · rw [hz, hc] at hi
            cases hi
            exact (of_decide_eq_true dc).2
          · obtain ⟨x, h1, h2⟩ := q3 (p + i) (by omega) (by omega)
            rw [h1] at hi
            cases hi
            exact (of_decide_eq_true h2).2
        have := digits_lt _ 0 al
        have hp : 10 ^ ((l.drop p).take (e - p)).length ≤ 10 ^ 20 := Nat.pow_le_pow_right (by decide) ll
        have h10 : 10 ^ 20 = 100000000000000000000 := by decide
        omega
    · cases h
theorem stpF_sh {l : List Nat} (hs : ∀ c ∈ l, c < 1000) {p e : Nat} {s : Stp} (h : stpF l p = .inr (e, s)) : s.sh ∧ p + s.w ≤ e ∧ e ≤ l.length := by
  have le := stpF_le h
  by_cases c : l[p]? = some 34
  · rw [stpF_key c] at h
    cases hk : keyF l (l.length + 1) (p + 1) [] with
    | inl q =>
      rw [hk] at h
      cases h
    | inr z =>
      obtain ⟨e', k⟩ := z
      rw [hk] at h
      cases h
      obtain ⟨q1, q2, q3⟩ := keyF_le hk
      refine ⟨keyF_sm hs hk (fun _ q => nomatch q), ?_, q2⟩
      show p + (k.length + 2) ≤ e
      have : k.length + (p + 1) + 1 ≤ 0 + e := q3
      omega
  · rw [stpF_num c] at h
    cases hk : plcF l p with
    | inl q =>
      rw [hk] at h
      cases h
    | inr z =>
      obtain ⟨e', n⟩ := z
      rw [hk] at h
      cases h
      obtain ⟨q1, q2⟩ := plcF_le hk
      exact ⟨plcF_lt hk, by show p + 1 ≤ e; omega, q2⟩
theorem wAll_snoc (acc : List Stp) (s : Stp) : wAll (acc ++ [s]) = wAll acc + s.w := by
  unfold wAll
  rw [List.map_append, List.sum_append]
  simp
theorem pthF_sh {l : List Nat} (hs : ∀ c ∈ l, c < 1000) : ∀ {f p : Nat} {acc r : List Stp}, pthF l f p acc = .inr r → (∀ s ∈ acc, s.sh) → wAll acc ≤ p → p ≤ l.length → (∀ s ∈ r, s.sh) ∧ wAll r ≤ l.length
  | 0, p, acc, r, h, _, _, _ => by cases h
  | f + 1, p, acc, r, h, ha, hw, hp => by
    rw [pthF_nx] at h
    cases hq : stpF l p with
    | inl q =>
      rw [hq] at h
      cases h
    | inr z =>
      obtain ⟨e, s⟩ := z
      rw [hq] at h
      obtain ⟨s1, s2, s3⟩ := stpF_sh hs hq
      have ha2 : ∀ x ∈ acc ++ [s], x.sh := fun x hx => by
        rcases List.mem_append.mp hx with q | q
        · exact ha x q
        · rw [List.mem_singleton.mp q]
          exact s1
      have hw2 : wAll (acc ++ [s]) ≤ e := by
        rw [wAll_snoc]
        omega
      simp only at h
      cases he : l[e]? with
      | none =>
        rw [he] at h
        cases h
        exact ⟨ha2, by omega⟩
      | some c =>
        rw [he] at h
        have el := at_lt he
        simp only at h
        split at h
        · exact pthF_sh hs h ha2 (by omega) (by omega)
        · cases h
theorem pthF_out {l : List Nat} (hs : ∀ c ∈ l, c < 1000) : ∀ {f p : Nat} {acc : List Stp} {q : Nat}, pthF l f p acc = .inl q → p ≤ l.length → q ≤ l.length
  | 0, p, acc, q, h, hp => by
    cases h
    exact hp
  | f + 1, p, acc, q, h, hp => by
    rw [pthF_nx] at h
    cases hq : stpF l p with
    | inl q' =>
      rw [hq] at h
      cases h
      exact stpF_out hq hp
    | inr z =>
      obtain ⟨e, s⟩ := z
      rw [hq] at h
      have le := stpF_le hq
      simp only at h
      cases he : l[e]? with
      | none =>
        rw [he] at h
        cases h
      | some c =>
        rw [he] at h
        have el := at_lt he
        simp only at h
        split at h
        · exact pthF_out hs h (by omega)
        · cases h
          omega
theorem rdP_sh {l : List Nat} (hs : ∀ c ∈ l, c < 1000) {p : List Stp} (h : rdP l = .inr p) : (∀ s ∈ p, s.sh) ∧ wAll p ≤ l.length := by
  unfold rdP at h
  split at h
  · split at h
    · cases h
      exact ⟨(fun _ q => nomatch q), Nat.zero_le _⟩
    · cases h
  · exact pthF_sh hs h (fun _ q => nomatch q) (Nat.zero_le _) (Nat.zero_le _)
theorem rdP_out {l : List Nat} (hs : ∀ c ∈ l, c < 1000) {q : Nat} (h : rdP l = .inl q) : q ≤ l.length := by
  unfold rdP at h
  split at h
  · rename_i h0
    split at h
    · cases h
    · cases h
      exact at_lt h0
  · exact pthF_out hs h (Nat.zero_le _)
/-! ### what is told as data -/
def outD : Sum Nat (List Stp) → PyData
  | .inl q => .tuple [.str "fault", .int ((q : Nat) : Int)]
  | .inr p => .tuple [.str "told", .tuple (p.map Stp.d)]
theorem dpall_path {K : PySem.W.Frag} {H : Hp} : ∀ path : List Stp, DpAll K H (path.map Stp.v) (path.map Stp.d)
  | [] => .nil
  | s :: t => by
    cases s with
    | num n => exact .cons (.int _) (dpall_path t)
    | key k => exact .cons (.str _) (dpall_path t)
theorem dueV_dp {K : PySem.W.Frag} {l : List Nat} {H : Hp} {t : Addr} (h : dueV l H t) : Dp K H (.ref t) (outD (rdP l)) := by
  unfold dueV at h
  cases e : rdP l with
  | inl q =>
    rw [e] at h
    exact .tup (.inl (.inl h)) (.cons (.str _) (.cons (.int _) .nil))
  | inr p =>
    rw [e] at h
    obtain ⟨u, h1, h2⟩ := h
    exact .tup (.inl (.inl h1)) (.cons (.str _) (.cons (.tup (.inl (.inl h2)) (dpall_path p)) .nil))
theorem shown_num {n : Nat} (h : n < 100000000000000000000) : (PyData.shown (.int ((n : Nat) : Int))).length ≤ 21 := by
  have e := int_text_length_le10 (a := ((n : Nat) : Int)) (k := 20) (by decide) (by have h10 : 10 ^ 20 = 100000000000000000000 := by decide
                                                                                    omega)
  rw [PyData.shown]
  show (Str.ofString (toString ((n : Nat) : Int))).length ≤ 21
  rw [PySem.ofString_length]
  exact e
theorem shown_stp {s : Stp} (h : s.sh) : s.d.shown.length ≤ 31 * s.w := by
  cases s with
  | num n => exact Nat.le_trans (shown_num h) (by show 21 ≤ 31 * 1; decide)
  | key k =>
    show (PyData.shown (.str (strN k))).length ≤ 31 * (k.length + 2)
    rw [PyData.shown]
    have := PySem.StrLaws.reprText_len (strN k) (fun c hc => by
      rw [cps_strN] at hc
      exact Nat.lt_trans (h c hc) (by decide))
    rw [strN_len] at this
    omega
theorem w_pos (s : Stp) : 1 ≤ s.w := by
  cases s with
  | num n => exact Nat.le_refl _
  | key k =>
    show 1 ≤ k.length + 2
    omega
theorem shown_all : ∀ path : List Stp, (∀ s ∈ path, s.sh) → PyData.showableAll (path.map Stp.d) = true ∧ PyData.hasDictAll (path.map Stp.d) = false ∧ (PyData.shownAll (path.map Stp.d)).length ≤ wAll path ∧ ((PyData.shownAll (path.map Stp.d)).map (·.length)).sum ≤ 31 * wAll path ∧ PyData.depthAll (path.map Stp.d) = 0
  | [], _ => by
    refine ⟨?_, ?_, ?_, ?_, rfl⟩
    · rw [List.map_nil, PyData.showableAll]
    · rw [List.map_nil, PyData.hasDictAll]
    · rw [List.map_nil, PyData.shownAll]; exact Nat.le_refl _
    · rw [List.map_nil, PyData.shownAll]; exact Nat.le_refl _
  | s :: t, h => by
    obtain ⟨h1, h2, h3, h4, h5⟩ := shown_all t fun y hy => h y (List.mem_cons_of_mem _ hy)
    have hs := h s (List.mem_cons_self ..)
    have ls := shown_stp hs
    have wp := w_pos s
    have ew : wAll (s :: t) = s.w + wAll t := rfl
    rw [List.map_cons, PyData.showableAll, PyData.hasDictAll, PyData.shownAll, h1, h2, ew]
    refine ⟨?_, ?_, ?_, ?_, ?_⟩
    · rw [Bool.and_true]
      cases s with
      | num n =>
        show PyData.showable (.int ((n : Nat) : Int)) = true
        rw [PyData.showable]
        exact decide_eq_true (log_ok hs)
      | key k => show PyData.showable (.str (strN k)) = true; rw [PyData.showable]
    · rw [Bool.or_false]
      cases s with
      | num n => show PyData.hasDict (.int ((n : Nat) : Int)) = false; rw [PyData.hasDict]
      | key k => show PyData.hasDict (.str (strN k)) = false; rw [PyData.hasDict]
    · rw [List.length_cons]
      omega
    · rw [List.map_cons, List.sum_cons]
      omega
    · cases s <;> (show max 0 (PyData.depthAll (t.map Stp.d)) = 0; rw [h5]; rfl)
theorem out_show {l : List Nat} (hl : l.length ≤ 100000) (hs : ∀ c ∈ l, c < 1000) : (outD (rdP l)).showable = true ∧ (outD (rdP l)).hasDict = false ∧ (outD (rdP l)).depth ≤ 60 ∧ (outD (rdP l)).shown.length ≤ sizeLine := by
  have sf : (PyData.shown (.str ("fault" : Str))).length ≤ 60 := by
    rw [PyData.shown]
    decide +kernel
  have st : (PyData.shown (.str ("told" : Str))).length ≤ 60 := by
    rw [PyData.shown]
    decide +kernel
  cases e : rdP l with
  | inl q =>
    have hq := rdP_out hs e
    have ls := shown_num (n := q) (by omega)
    refine ⟨?_, ?_, by show max 0 (max 0 0) + 1 ≤ 60; decide, ?_⟩
    · show PyData.showable (.tuple [.str "fault", .int ((q : Nat) : Int)]) = true
      rw [PyData.showable, PyData.showableAll, PyData.showableAll, PyData.showableAll, PyData.showable, PyData.showable, decide_eq_true (log_ok (by omega : q < 100000000000000000000))]
      rfl
    · show PyData.hasDict (.tuple [.str "fault", .int ((q : Nat) : Int)]) = false
      rw [PyData.hasDict, PyData.hasDictAll, PyData.hasDictAll, PyData.hasDictAll, PyData.hasDict, PyData.hasDict]
      rfl
    · show (PyData.shown (.tuple [.str "fault", .int ((q : Nat) : Int)])).length ≤ _
      rw [PyData.shown]
      have := tupleText_len_le (PyData.shownAll [.str "fault", .int ((q : Nat) : Int)])
      rw [PyData.shownAll, PyData.shownAll, PyData.shownAll, List.map_cons, List.map_cons, List.map_nil, List.sum_cons, List.sum_cons, List.sum_nil] at this
      rw [PyData.shownAll, PyData.shownAll, PyData.shownAll]
      refine Nat.le_trans this (Nat.le_trans (?_ : _ ≤ 200) (by decide))
      show _ + (_ + 0) + 2 * 2 + 3 ≤ 200
      omega
  | inr p =>
    obtain ⟨ps, pw⟩ := rdP_sh hs e
    obtain ⟨h1, h2, h3, h4, h5⟩ := shown_all p ps
    refine ⟨?_, ?_, ?_, ?_⟩
    · show PyData.showable (.tuple [.str "told", .tuple (p.map Stp.d)]) = true
      rw [PyData.showable, PyData.showableAll, PyData.showableAll, PyData.showableAll, PyData.showable, PyData.showable, h1]
      rfl
    · show PyData.hasDict (.tuple [.str "told", .tuple (p.map Stp.d)]) = false
      rw [PyData.hasDict, PyData.hasDictAll, PyData.hasDictAll, PyData.hasDictAll, PyData.hasDict, PyData.hasDict, h2]
      rfl
    · have : PyData.depth (outD (.inr p)) = max 0 (max (PyData.depthAll (p.map Stp.d) + 1) 0) + 1 := rfl
      rw [this, h5]
      decide
    · show (PyData.shown (.tuple [.str "told", .tuple (p.map Stp.d)])).length ≤ _
      have in1 : (PyData.shown (.tuple (p.map Stp.d))).length ≤ 33 * l.length + 3 := by
        rw [PyData.shown]
        have := tupleText_len_le (PyData.shownAll (p.map Stp.d))
        omega
      rw [PyData.shown]
      have := tupleText_len_le (PyData.shownAll [.str "told", .tuple (p.map Stp.d)])
      rw [PyData.shownAll, PyData.shownAll, PyData.shownAll, List.map_cons, List.map_cons, List.map_nil, List.sum_cons, List.sum_cons, List.sum_nil] at this
      rw [PyData.shownAll, PyData.shownAll, PyData.shownAll]
      refine Nat.le_trans this (Nat.le_trans (?_ : _ ≤ 4000000) (by decide))
      show _ + (_ + 0) + 2 * 2 + 3 ≤ 4000000
      omega
/-! ### the text of a path -/
theorem num_sm {n : Nat} (h : numOk n = true) : ∀ c ∈ decL n, c < 1000 := fun c hc => by
  unfold numOk at h
  simp only [Bool.and_eq_true] at h
  have := (of_decide_eq_true (List.all_eq_true.mp h.1 c hc)).2
  omega
theorem esc_sm {k : List Nat} (h : ∀ c ∈ k, c < 1000) : ∀ c ∈ escK k, c < 1000 := fun c hc => by
  obtain ⟨d, hd, h2⟩ := List.mem_flatMap.mp hc
  unfold esc1 at h2
  split at h2
  · simp only [List.mem_cons, List.not_mem_nil, or_false] at h2
    rcases h2 with rfl | rfl
    · decide
    · exact h _ hd
  · rw [List.mem_singleton.mp h2]
    exact h _ hd
theorem txt_sm {s : Stp} (h : s.ok ∧ s.sm) : ∀ c ∈ txtS s, c < 1000 := by
  cases s with
  | num n => exact num_sm h.1.2
  | key k =>
    intro c hc
    rcases List.mem_cons.mp (show c ∈ 34 :: (escK k ++ [34]) from hc) with rfl | q
    · decide
    · rcases List.mem_append.mp q with q | q
      · exact esc_sm h.2 c q
      · rw [List.mem_singleton.mp q]
        decide
theorem join_sm : ∀ p : List Stp, (∀ s ∈ p, s.ok ∧ s.sm) → (joinT p).length ≤ 2003 * p.length ∧ ∀ c ∈ joinT p, c < 1000
  | [], _ => ⟨Nat.le_refl _, fun _ q => nomatch q⟩
  | [s], h => ⟨by
      have := txt_len (h s (List.mem_cons_self ..)).1
      show (txtS s).length ≤ 2003 * 1
      omega, txt_sm (h s (List.mem_cons_self ..))⟩
  | s :: s2 :: r, h => by
    obtain ⟨h1, h2⟩ := join_sm (s2 :: r) fun x hx => h x (List.mem_cons_of_mem _ hx)
    have hs := h s (List.mem_cons_self ..)
    have ls := txt_len hs.1
    refine ⟨?_, fun c hc => ?_⟩
    · show (txtS s ++ 47 :: joinT (s2 :: r)).length ≤ 2003 * ((s2 :: r).length + 1)
      rw [List.length_append, List.length_cons (a := 47)]
      omega
    · rcases List.mem_append.mp (show c ∈ txtS s ++ 47 :: joinT (s2 :: r) from hc) with q | q
      · exact txt_sm hs c q
      · rcases List.mem_cons.mp q with rfl | q
        · decide
        · exact h2 c q
theorem wrt_sm {p : List Stp} (h : ∀ s ∈ p, s.ok ∧ s.sm) (l6 : p.length ≤ 6) : (wrt p).length ≤ 12100 ∧ ∀ c ∈ wrt p, c < 1000 := by
  unfold wrt
  split
  · exact ⟨by decide, fun c hc => by rw [List.mem_singleton.mp hc]; decide⟩
  · obtain ⟨h1, h2⟩ := join_sm p h
    exact ⟨by omega, h2⟩
/-! ### bent texts -/
def Sml (z : Str) (b : Nat) : Prop := z.length ≤ b ∧ ∀ c ∈ z.cps.toList, c < 1000
theorem Sml.le {z : Str} {b d : Nat} (h : Sml z b) (l : b ≤ d) : Sml z d := ⟨Nat.le_trans h.1 l, h.2⟩
theorem Sml.cut {z : Str} {b : Nat} (h : Sml z b) (lo hi : Option Int) : Sml (cutS z lo hi) b := by
  unfold cutS
  refine ⟨?_, fun c hc => h.2 c ?_⟩
  · show (List.toArray _).size ≤ b
    rw [List.size_toArray, List.length_take, List.length_drop]
    have h1 : z.cps.toList.length ≤ b := h.1
    omega
  · rw [List.toList_toArray] at hc
    exact List.mem_of_mem_drop (List.mem_of_mem_take hc)
theorem Sml.app {x y : Str} {b d : Nat} (h : Sml x b) (k : Sml y d) : Sml (x ++ y) (b + d) := by
  have e : (x ++ y).cps.toList = x.cps.toList ++ y.cps.toList := tl_append x y
  refine ⟨?_, fun c hc => ?_⟩
  · show (x ++ y).cps.size ≤ _
    rw [← Array.length_toList, e, List.length_append]
    have h1 : x.cps.toList.length ≤ b := h.1
    have h2 : y.cps.toList.length ≤ d := k.1
    omega
  · rw [e] at hc
    rcases List.mem_append.mp hc with q | q
    · exact h.2 c q
    · exact k.2 c q
end G58

set_option Elab.async false
set_option linter.all false
set_option pp.maxSteps 2500
set_option maxRecDepth 100000
set_option maxHeartbeats 4000000
/-! What read_path answers, as the law tells it; a text with one change. -/
namespace G58
open PySem PySem.Spec PyProof.Rows L2 NumText TL
/-- list(a text) -/
theorem call_list_sgn {X : Cx} (hc : X.calm = true) : CallR X (.type "list") (fun xs H Q => ∃ z : Str, xs = [.str z] ∧ z.length ≤ sizeLine ∧ ∀ l, H l = none → Q (.ref l) (upd H l (.lst ((List.range z.length).map fun i => V.str ⟨#[z.cps[i]?.getD 0]⟩)))) := by
  intro pins s σ H xs us Q I r h
  obtain ⟨z, rfl, hz, q⟩ := h
  obtain ⟨u, rfl, rx⟩ := vals1 r
  obtain ⟨t, rfl⟩ := rx
  refine call_list_str (I.ok.hd hc) z t (fun h' tk acc c' hk e' hi => ?_) hz
  have hv : Vals ((List.range z.length).map fun i => V.str ⟨#[z.cps[i]?.getD 0]⟩) acc.toList := by
    have e : acc.toList.length = z.length := by rw [Array.length_toList]; exact hi.1
    rw [← e]
    refine vals_of_get acc.toList _ fun j u hj => ?_
    obtain ⟨c, t', h1, rfl⟩ := hi.2 j u (by rw [← hj, Array.getElem?_toList])
    exact ⟨t', by rw [h1]; rfl⟩
  exact ⟨.ref s.heap.objs.size, _, I.laid hk (Nat.le_refl _) (show ObjOk X.prog X.w _ _ _ (.lst ((List.range z.length).map fun i => V.str ⟨#[z.cps[i]?.getD 0]⟩)) from ⟨by rw [List.length_map, List.length_range]; exact hz, acc.toList, c', hv, by rw [Array.toArray_toList]; exact e'⟩), rfl, q _ (I.hok.fresh (Nat.le_refl _))⟩
def spSai : Sp := fun vs H Q _ => ∃ (l : List Nat), vs = [.str (strN l)] ∧ l.length ≤ 100000 ∧ ∀ t H', Same H H' → dueV l H' t → Q (.ref t) H'
def spBnt : Sp := fun vs H Q _ => ∃ (S : Addr) (z : Str) (b : Nat), vs = [.ref S, .str z] ∧ SrcAt H S ∧ Sml z b ∧ b ≤ 49000 ∧ ∀ (y : Str) (H' : Hp), Sml y (2 * b + 1) → SrcAt H' S → But S H H' → Q (.str y) H'
theorem look_plc (v : V) : (plc v).lookup ("place" : Str) = some v := by simp [plc, List.lookup]
abbrev bentS : Str := "/\"\\. -019a"
theorem bent_all : ∀ c ∈ bentS.cps.toList, c < 1000 := by decide +kernel
theorem bent_sm (j : Nat) : bentS.cps[j]?.getD 0 < 1000 := by
  cases e : bentS.cps[j]? with
  | none => exact (by decide : 0 < 1000)
  | some c =>
    rw [← Array.getElem?_toList] at e
    exact bent_all c (List.mem_of_getElem? e)
theorem sl {x y : Str} {b d : Nat} (h : Sml x b) (k : Sml y d) (hl : b + d ≤ 200000) : x.length + y.length ≤ sizeLine := by
  have h1 := h.1
  have h2 := k.1
  exact Nat.le_trans (by omega : _ ≤ 200000) (by decide)
section
variable {P : Program} {w : World} {K : PySem.W.Frag} {mg : Str → Option Value} {base : Heap} {a : Ad}
theorem scSai : FnScope ["_law_word", "e"] ["_law_word"] (defScope sSai) := ⟨rfl, rfl, rfl, by decide +kernel, rfl, by decide +kernel, by decide +kernel⟩
theorem ok_sai (D : Df K a) (T : Txt K mg a) : FnOk P w K mg base CX0 7 a.fSai D.dSai ["_law_word"] spSai := by
  have GRdp : FnOk P w K mg base (L2.CX P w) 6 a.fRdp D.dRdp ["text"] (spRdp a) := ok_rdp D T
  refine D.FSai.ok scSai (fun vs H Q E h => ?_) (fun cdv A outer s H vs Q E hr h => ?_)
  · obtain ⟨l, rfl, _⟩ := h
    rfl
  · obtain ⟨l, rfl, hl, kQ⟩ := h
    refine ⟨_, pss_one (ps_try_mix
      (l := [⟨.ref a.cBadText, some 1, _⟩, ⟨.ref a.cNestError, none, _⟩])
      (tb := fun W D st H => ∃ Ech : XK, (∀ cls d st' H', Ech cls d H' → W cls d st' H') ∧ tRet (tTup (tCons (tC (.str "told")) (tCons (tCall (spRdp a) [] Ech (tCons (tVar 0) tNil)) tNil))) D st H)
      rfl rfl L2.takes0 (fun W pn xe tk _ => ?_)
      (.named scSai.nd rfl rfl ⟨rfl, by decide, .inl T.gcBadText⟩ (fun x oe k d pn hz hf => pss_one (ps_ret (pe_tup (pa_cons pe_str (pa_cons (pe_xf T.xBadText.xf T.noBadText_place hz hf (pv 1)) pa_nil)))))
      (.bare ⟨rfl, by decide, .inl T.gcNestError⟩ (fun x oe k d pn hz hf => pss_one (ps_ret (pe_tup (pa_cons pe_str (pa_cons pe_non pa_nil))))) .nil))), ?_⟩
    · refine ⟨fun pins s' st H' D' I h' => ?_⟩
      obtain ⟨Ech, hW, h2⟩ := h'
      refine PSs.run (t := tRet (tTup (tCons (tC (.str "told")) (tCons (tCall (spRdp a) [] Ech (tCons (tVar 0) tNil)) tNil)))) ?_ pins s' st H' D' I h2
      exact pss_one (ps_ret (pe_tup (pa_cons pe_str (pa_cons (pe_call GRdp hr rfl T.gRdp D.FRdp.kp D.bRdp .nil (passes_call tk hW) (pa_cons (pv 0) pa_nil)) pa_nil))))
    · refine ⟨fun cls d H' => cls = .ref a.cBadText ∧ ∃ (dd : Addr) (q : Nat), d = some dd ∧ rdP l = .inl q ∧ Same H H' ∧ H' dd = some (.xd (plc (.int ((q : Nat) : Int)))), fun cls d st' H' hE => ?_, _, rfl, l, rfl, hl, fun q eq d H' s1 hd => ⟨rfl, d, q, rfl, eq, s1, hd⟩, fun p eq u H' s1 eu => ⟨by show 2 ≤ sizeLine; decide, fun t ht => kQ t _ (same_new s1 ht) ?_⟩⟩
      · obtain ⟨rfl, dd, q, rfl, eq, s1, hd⟩ := hE
        refine ⟨true, T.emBadText_BadText, fun _ x hx hlt => ?_, fun z => Bool.noConfusion z⟩
        refine ⟨.ref x, List.getElem?_set_self hlt, rfl, rfl, dd, _, _, rfl, hd, look_plc _, by show 2 ≤ sizeLine; decide, fun t ht => kQ t _ (same_new s1 ht) ?_⟩
        unfold dueV
        rw [eq]
        exact upd_same
      · unfold dueV
        rw [eq]
        exact ⟨u, upd_same, by rw [upd_ne (fun z => by rw [z, ht] at eu; cases eu)]; exact eu⟩
theorem scBnt : FnScope ["_law_source_here", "_law_word", "_law_at", "_law_sign", "_law_end", "_law_some"] ["_law_source_here", "_law_word"] (defScope sBnt) := ⟨rfl, rfl, rfl, by decide +kernel, rfl, by decide +kernel, by decide +kernel⟩
theorem ok_bnt (D : Df K a) (T : Txt K mg a) : FnOk P w K mg base CX0 3 a.fBnt D.dBnt ["_law_source_here", "_law_word"] spBnt := by
  have GDrw : FnOk P w K mg base CX0 1 a.fDrw D.dDrw ["_law_source_here", "_law_many"] spDrw := ok_drw D T
  have GPik : FnOk P w K mg base CX0 2 a.fPik D.dPik ["_law_source_here", "_law_items"] spPik := ok_pik D T
  refine D.FBnt.ok scBnt (fun vs H Q E h => ?_) (fun cdv A outer s H vs Q E hr h => ?_)
  · obtain ⟨S, z, b, rfl, _⟩ := h
    rfl
  · obtain ⟨S, z, b, rfl, hS, hz, hb, kQ⟩ := h
    have hr1 : Room 1 _ := hr.mono (by decide)
    refine ⟨_, (pss_cons (ps_set (i := 2) scBnt.nd rfl (.inl rfl) (pe_call GDrw hr1 rfl T.gDrw D.FDrw.kp D.bDrw .nil pass0 (pa_cons (pv 0) (pa_cons (pe_op op_add (pe_callB call_len_str (by rfl) T.blen PySem.boot_len (pa_cons (pv 1) pa_nil)) pe_int) pa_nil)))) (pss_cons (ps_set (i := 3) scBnt.nd rfl (.inl rfl) (pe_call GPik hr rfl T.gPik D.FPik.kp D.bPik .nil pass0 (pa_cons (pv 0) (pa_cons (pe_callTy (call_list_sgn (by rfl)) (by rfl) T.blist (by decide +kernel) (pa_cons pe_str pa_nil)) pa_nil)))) (pss_cons (ps_set (i := 4) scBnt.nd rfl (.inl rfl) (pe_callB (call_min2 rfl) (by rfl) T.bmin (by decide +kernel) (pa_cons (pe_callB call_len_str (by rfl) T.blen PySem.boot_len (pa_cons (pv 1) pa_nil)) (pa_cons (pe_op op_add (pe_op op_add (pv 2) pe_int) (pe_call GDrw hr1 rfl T.gDrw D.FDrw.kp D.bDrw .nil pass0 (pa_cons (pv 0) (pa_cons pe_int pa_nil)))) pa_nil)))) (pss_cons (ps_set (i := 5) scBnt.nd rfl (.inl rfl) (pe_lst (pa_cons (pe_slice sl_str (pv 1) po_none (po_some (pv 2))) (pa_cons (pe_op op_add_str (pe_slice sl_str (pv 1) po_none (po_some (pv 2))) (pe_slice sl_str (pv 1) (po_some (pe_op op_add (pv 2) pe_int)) po_none)) (pa_cons (pe_op op_add_str (pe_op op_add_str (pe_slice sl_str (pv 1) po_none (po_some (pv 2))) (pv 3)) (pe_slice sl_str (pv 1) (po_some (pv 2)) po_none)) (pa_cons (pe_op op_add_str (pe_op op_add_str (pe_slice sl_str (pv 1) po_none (po_some (pv 2))) (pv 3)) (pe_slice sl_str (pv 1) (po_some (pe_op op_add (pv 2) pe_int)) po_none)) pa_nil)))))) (pss_cons (ps_set (i := 5) scBnt.nd rfl (.inl rfl) (pe_op op_cat (pv 5) (pe_lst (pa_cons (pe_op op_add_str (pe_slice sl_str (pv 1) po_none (po_some (pv 4))) (pe_slice sl_str (pv 1) (po_some (pv 2)) po_none)) (pa_cons (pe_op op_add_str (pv 1) (pv 3)) (pa_cons (pe_op op_add_str (pv 3) (pv 1)) (pa_cons (pe_slice sl_str (pv 1) (po_some (pv 2)) po_none) pa_nil))))))) (pss_one (ps_ret (pe_call GPik hr rfl T.gPik D.FPik.kp D.bPik .nil pass0 (pa_cons (pv 0) (pa_cons (pe_op op_cat (pv 5) (pe_lst (pa_cons (pe_op op_add_str (pe_slice sl_str (pv 1) po_none (po_some (pv 2))) (pe_slice sl_str (pv 1) (po_some (pv 4)) po_none)) pa_nil))) pa_nil)))))))))), ?_⟩
    have hzl : z.length ≤ sizeLine := Nat.le_trans hz.1 (Nat.le_trans (by omega : b ≤ 100000) (by decide))
    have c1 : ∀ lo hi, Sml (cutS z lo hi) b := fun lo hi => hz.cut lo hi
    have zb := hz.1
    have bl : bentS.length = 10 := by decide +kernel
    refine ⟨_, rfl, _, rfl, z, rfl, hzl, _, _, rfl, rfl, S, _, rfl, hS, by omega, by omega, fun r H1 r0 r1 hS1 b1 f1 => ?_⟩
    refine ⟨_, rfl, _, rfl, (by rw [bl]; decide : bentS.length ≤ sizeLine), fun q hq => ?_⟩
    have s1 := same_new (o := .lst ((List.range bentS.length).map fun i => V.str ⟨#[bentS.cps[i]?.getD 0]⟩)) (Same.refl H1) hq
    refine ⟨S, q, _, rfl, src_same hS1 s1, upd_same, src_ne hS1 hq, by rw [List.length_map, List.length_range, bl]; decide, by rw [List.length_map, List.length_range, bl]; decide, fun i x H2 hx hS2 b2 f2 => ?_⟩
    rw [List.getElem?_map] at hx
    obtain ⟨j, hj, rfl⟩ := Option.map_eq_some_iff.mp hx
    have hsg : Sml (⟨#[bentS.cps[j]?.getD 0]⟩ : Str) 1 := ⟨Nat.le_refl _, fun c hc => by
      rw [List.mem_singleton.mp (show c ∈ [bentS.cps[j]?.getD 0] from hc)]
      exact bent_sm j⟩
    generalize (⟨#[bentS.cps[j]?.getD 0]⟩ : Str) = sg at hsg ⊢
    have b02 : But S H H2 := b1.trans ((Same.but s1).trans b2)
    refine ⟨_, rfl, z, rfl, hzl, _, rfl, _, _, rfl, rfl, _, rfl, S, 4, rfl, hS2, by decide, by decide, fun r3 H3 _ _ hS3 b3 _ => ⟨_, _, rfl, rfl, _, _, rfl, ?_⟩⟩
    generalize (if r + 1 + r3 < ((z.length : Nat) : Int) then r + 1 + r3 else ((z.length : Nat) : Int)) = e at ⊢
    have b03 := b02.trans b3
    refine ⟨_, rfl, _, rfl, _, rfl, z, rfl, hzl, _, rfl, _, rfl, _, rfl, z, rfl, hzl, _, rfl, _, rfl, _, _, rfl, rfl, _, rfl, z, rfl, hzl, _, _, rfl, rfl, sl (c1 _ _) (c1 _ _) (by omega), _, rfl, _, rfl, _, rfl, z, rfl, hzl, _, rfl, _, _, rfl, rfl, sl (c1 _ _) hsg (by omega), _, rfl, _, rfl, _, rfl, z, rfl, hzl, _, _, rfl, rfl, sl ((c1 _ _).app hsg) (c1 _ _) (by omega), _, rfl, _, rfl, _, rfl, z, rfl, hzl, _, rfl, _, _, rfl, rfl, sl (c1 _ _) hsg (by omega), _, rfl, _, rfl, _, _, rfl, rfl, _, rfl, z, rfl, hzl, _, _, rfl, rfl, sl ((c1 _ _).app hsg) (c1 _ _) (by omega), by show 4 ≤ sizeLine; decide, fun L1 hL1 => ?_⟩
    obtain ⟨xs1, e1⟩ : ∃ xs, xs = [V.str (cutS z none (some r)), .str (cutS z none (some r) ++ cutS z (some (r + 1)) none), .str (cutS z none (some r) ++ sg ++ cutS z (some r) none), .str (cutS z none (some r) ++ sg ++ cutS z (some (r + 1)) none)] := ⟨_, rfl⟩
    have g1 : ∀ v ∈ xs1, ∃ y, v = V.str y ∧ Sml y (2 * b + 1) := by
      intro v hv
      rw [e1] at hv
      simp only [List.mem_cons, List.not_mem_nil, or_false] at hv
      rcases hv with rfl | rfl | rfl | rfl
      · exact ⟨_, rfl, (c1 _ _).le (by omega)⟩
      · exact ⟨_, rfl, ((c1 _ _).app (c1 _ _)).le (by omega)⟩
      · exact ⟨_, rfl, (((c1 _ _).app hsg).app (c1 _ _)).le (by omega)⟩
      · exact ⟨_, rfl, (((c1 _ _).app hsg).app (c1 _ _)).le (by omega)⟩
    have n1 : xs1.length = 4 := by rw [e1]; rfl
    rw [← e1]
    have s4 := same_new (o := .lst xs1) (Same.refl H3) hL1
    have eL1 : (upd H3 L1 (.lst xs1)) L1 = some (.lst xs1) := upd_same
    have hS4 := src_same hS3 s4
    have b04 := b03.same s4
    generalize upd H3 L1 (.lst xs1) = H4 at s4 eL1 hS4 b04 ⊢
    refine ⟨_, rfl, _, rfl, _, rfl, _, rfl, z, rfl, hzl, _, rfl, _, rfl, _, rfl, z, rfl, hzl, _, _, rfl, rfl, sl (c1 _ _) (c1 _ _) (by omega), _, rfl, _, rfl, _, _, rfl, rfl, sl hz hsg (by omega), _, rfl, _, rfl, _, _, rfl, rfl, sl hsg hz (by omega), _, rfl, _, rfl, _, rfl, z, rfl, hzl, by show 4 ≤ sizeLine; decide, fun L2 hL2 => ?_⟩
    obtain ⟨xs2, e2⟩ : ∃ xs, xs = [V.str (cutS z none (some e) ++ cutS z (some r) none), .str (z ++ sg), .str (sg ++ z), .str (cutS z (some r) none)] := ⟨_, rfl⟩
    have g2 : ∀ v ∈ xs2, ∃ y, v = V.str y ∧ Sml y (2 * b + 1) := by
      intro v hv
      rw [e2] at hv
      simp only [List.mem_cons, List.not_mem_nil, or_false] at hv
      rcases hv with rfl | rfl | rfl | rfl
      · exact ⟨_, rfl, ((c1 _ _).app (c1 _ _)).le (by omega)⟩
      · exact ⟨_, rfl, (hz.app hsg).le (by omega)⟩
      · exact ⟨_, rfl, (hsg.app hz).le (by omega)⟩
      · exact ⟨_, rfl, (c1 _ _).le (by omega)⟩
    have n2 : xs2.length = 4 := by rw [e2]; rfl
    rw [← e2]
    have s5 := same_new (o := .lst xs2) (Same.refl H4) hL2
    have eL2 : (upd H4 L2 (.lst xs2)) L2 = some (.lst xs2) := upd_same
    refine catV (s5 _ _ eL1) eL2 (by rw [n1, n2]; decide) fun L3 H5 hL3 s6 eL3 => ?_
    have s46 := s5.trans s6
    have hS5 := src_same hS4 s46
    have b05 := b04.same s46
    refine ⟨_, rfl, _, rfl, _, rfl, _, rfl, _, rfl, z, rfl, hzl, _, rfl, _, rfl, _, rfl, z, rfl, hzl, _, _, rfl, rfl, sl (c1 _ _) (c1 _ _) (by omega), by show 1 ≤ sizeLine; decide, fun L4 hL4 => ?_⟩
    obtain ⟨y3, e3⟩ : ∃ y, y = cutS z none (some r) ++ cutS z (some e) none := ⟨_, rfl⟩
    have g3 : Sml y3 (2 * b + 1) := by
      rw [e3]
      exact ((c1 _ _).app (c1 _ _)).le (by omega)
    rw [← e3]
    have s7 := same_new (o := .lst [V.str y3]) (Same.refl H5) hL4
    have eL4 : (upd H5 L4 (.lst [V.str y3])) L4 = some (.lst [V.str y3]) := upd_same
    refine catV (s7 _ _ eL3) eL4 (by rw [List.length_append, n1, n2]; show 4 + 4 + 1 ≤ 1000000; decide) fun L5 H7 hL5 s8 eL5 => ?_
    have s57 := s7.trans s8
    have hS7 := src_same hS5 s57
    have nL : (xs1 ++ xs2 ++ [V.str y3]).length = 9 := by
      rw [List.length_append, List.length_append, n1, n2]
      rfl
    refine ⟨S, L5, xs1 ++ xs2 ++ [V.str y3], rfl, hS7, eL5, fun q => ?_, by rw [nL]; decide, by rw [nL]; decide, fun i x H8 hx hS8 b8 _ => ?_⟩
    · obtain ⟨_, _, _, q'⟩ := hS7
      rw [q, q'] at eL5
      injection eL5 with eL5
      injection eL5 with eL5
      have := congrArg List.length eL5
      rw [nL] at this
      exact absurd (show (3 : Nat) = 9 from this) (by decide)
    · obtain ⟨y, rfl, hy⟩ : ∃ y, x = V.str y ∧ Sml y (2 * b + 1) := by
        rcases List.mem_append.mp (List.mem_of_getElem? hx) with q | q
        · rcases List.mem_append.mp q with q | q
          · exact g1 x q
          · exact g2 x q
        · rw [List.mem_singleton.mp q]
          exact ⟨y3, rfl, g3⟩
      exact kQ y H8 hy hS8 ((b05.same s57).trans b8)
end
end G58

set_option Elab.async false
set_option linter.all false
set_option pp.maxSteps 2500
set_option maxRecDepth 100000
set_option maxHeartbeats 4000000
/-! Ten paths. -/
namespace G58
open PySem PySem.Spec PyProof.Rows L2 NumText TL
def spRgt : Sp := fun vs H Q _ => ∃ (S : Addr), vs = [.ref S] ∧ SrcAt H S ∧ ∀ H', But S H H' → Q (.bl true) H'
section
variable {P : Program} {w : World} {K : PySem.W.Frag} {mg : Str → Option Value} {base : Heap} {a : Ad}
theorem scRgt : FnScope ["_law_source_here", "_law_k", "_law_way_here", "_law_word", "_law_turn"] ["_law_source_here"] (defScope sRgt) := ⟨rfl, rfl, rfl, by decide +kernel, rfl, by decide +kernel, by decide +kernel⟩
theorem ok_rgt (D : Df K a) (T : Txt K mg a) : FnG P w K mg base CX0 8 a.fRgt D.dRgt ["_law_source_here"] spRgt := by
  have GWay : FnOk P w K mg base CX0 4 a.fWay D.dWay ["_law_source_here"] spWay := ok_wayP D T
  have GWri : FnOk P w K mg base CX0 1 a.fWri D.dWri ["_law_way_here"] (spWri K) := ok_wri D T
  have GPtx : FnOk P w K mg base CX0 2 a.fPtx D.dPtx ["path"] (spPtx K) := ok_ptx D T
  have GSai : FnOk P w K mg base CX0 7 a.fSai D.dSai ["_law_word"] spSai := ok_sai D T
  have GBnt : FnOk P w K mg base CX0 3 a.fBnt D.dBnt ["_law_source_here", "_law_word"] spBnt := ok_bnt D T
  have GDue : FnOk P w K mg base CX0 2 a.fDue D.dDue ["_law_word"] spDue := ok_due D T
  refine okG D.FRgt scRgt (fun vs H Q E h => ?_) (fun cdv A outer s H vs Q E hgu hr h => ?_)
  · obtain ⟨S, rfl, _⟩ := h
    rfl
  · obtain ⟨S, rfl, hS, k⟩ := h
    have hr1 : Room 1 _ := hr.mono (by decide)
    have hr2 : Room 2 _ := hr.mono (by decide)
    have hr3 : Room 3 _ := hr.mono (by decide)
    have hr4 : Room 4 _ := hr.mono (by decide)
    refine ⟨_, (pss_cons (ps_for PassesOwn.never rfl (pi_range1 (by rfl) T.brange (pa_cons pe_int pa_nil)) (pg_name (i := 1) scRgt.nd rfl (.inl rfl)) (pss_cons (ps_set (i := 2) scRgt.nd rfl (.inl rfl) (pe_call GWay hr4 rfl T.gWay D.FWay.kp D.bWay .nil pass0 (pa_cons (pv 0) pa_nil))) (pss_cons (ps_set (i := 3) scRgt.nd rfl (.inl rfl) (pe_call GWri hr1 rfl T.gWri D.FWri.kp D.bWri .nil pass0 (pa_cons (pv 2) pa_nil))) (pss_cons (ps_if (PW.pt (pw_or (pt_cmpR op_ne (pe_call GPtx hr2 rfl T.gPtx D.FPtx.kp D.bPtx .nil pass0 (pa_cons (pv 2) pa_nil)) (pv 3) (nomark _)) (pw_or (pt_cmpR op_ne (pe_call GPtx hr2 rfl T.gPtx D.FPtx.kp D.bPtx .nil pass0 (pa_cons (pe_callTy call_list_of (by rfl) T.blist (by decide +kernel) (pa_cons (pv 2) pa_nil)) pa_nil)) (pv 3) (nomark _)) (pw_or1 (pt_cmpR op_ne (pe_callB (call_reprD hgu hr.units) (by rfl) T.brepr (by decide +kernel) (pa_cons (pe_call GSai hr rfl T.gSai D.FSai.kp D.bSai .nil pass0 (pa_cons (pv 3) pa_nil)) pa_nil)) (pe_callB (call_reprD hgu hr.units) (by rfl) T.brepr (by decide +kernel) (pa_cons (pe_tup (pa_cons pe_str (pa_cons (pv 2) pa_nil))) pa_nil)) (nomark _)))))) (pss_one (ps_ret pe_bl)) pss_nil) (pss_one (ps_for PassesOwn.never rfl (pi_range1 (by rfl) T.brange (pa_cons pe_int pa_nil)) (pg_name (i := 4) scRgt.nd rfl (.inl rfl)) (pss_cons (ps_set (i := 3) scRgt.nd rfl (.inl rfl) (pe_call GBnt hr3 rfl T.gBnt D.FBnt.kp D.bBnt .nil pass0 (pa_cons (pv 0) (pa_cons (pv 3) pa_nil)))) (pss_one (ps_if (pt_cmpR op_ne (pe_callB (call_reprD hgu hr.units) (by rfl) T.brepr (by decide +kernel) (pa_cons (pe_call GSai hr rfl T.gSai D.FSai.kp D.bSai .nil pass0 (pa_cons (pv 3) pa_nil)) pa_nil)) (pe_callB (call_reprD hgu hr.units) (by rfl) T.brepr (by decide +kernel) (pa_cons (pe_call GDue hr2 rfl T.gDue D.FDue.kp D.bDue .nil pass0 (pa_cons (pv 3) pa_nil)) pa_nil)) (nomark _)) (pss_one (ps_ret pe_bl)) pss_nil))))))))) (pss_one (ps_ret pe_bl))), ?_⟩
    refine ⟨(10 : Int), rfl, by decide, by decide, for_it walk_range (fun t st H1 => ∃ u1 u2 u3 u4, st = [some (.ref S), u1, u2, u3, u4] ∧ SrcAt H1 S ∧ But S H H1) ⟨_, _, _, _, rfl, hS, Same.but (Same.refl H)⟩ (fun _ _ _ _ _ => True.intro) ?_ ?_⟩
    · rintro t y st H1' H1 ht ⟨u1, u2, u3, u4, rfl, hS1, b1⟩ ⟨rfl, rfl⟩
      refine ⟨_, rfl, S, rfl, hS1, fun p tp H2 lp pok hS2 b2 etp => ?_⟩
      have ok : ∀ s ∈ p, Stp.ok s := fun s hs => (pok s hs).1
      obtain ⟨wl, ws⟩ := wrt_sm pok lp
      have er : rdP (wrt p) = .inr p := rdP_wrt ok
      have sh := out_show (Nat.le_trans wl (by decide)) ws
      rw [er] at sh
      obtain ⟨sh1, sh2, sh3, sh4⟩ := sh
      refine ⟨_, rfl, tp, p, rfl, etp, by omega, ok, fun H3 s3 => ?_⟩
      refine ⟨_, rfl, tp, p, rfl, .inr (.inl (.inl (s3 _ _ etp))), by omega, ok, fun H4 s4 => ⟨_, rfl, rfl, false, congrArg V.bl (by simp), iteF ?_⟩⟩
      have s34 := s3.trans s4
      refine ⟨_, rfl, tp, _, rfl, .inr (.inl (.inl (s34 _ _ etp))), fun LL hLL => ?_⟩
      have s5 := same_new (o := .lst (p.map Stp.v)) (Same.refl H4) hLL
      have eLL : (upd H4 LL (.lst (p.map Stp.v))) LL = some (.lst (p.map Stp.v)) := upd_same
      generalize upd H4 LL (.lst (p.map Stp.v)) = H5 at s5 eLL ⊢
      refine ⟨LL, p, rfl, .inl (.inl (.inl eLL)), by omega, ok, fun H6 s6 => ⟨_, rfl, rfl, false, congrArg V.bl (by simp), iteF ?_⟩⟩
      have s36 := s34.trans (s5.trans s6)
      refine ⟨_, rfl, wrt p, rfl, Nat.le_trans wl (by decide), fun t7 H7 s7 d7 => ?_⟩
      have d7' : Dp K H7 (.ref t7) (outD (.inr p)) := by
        have := dueV_dp (K := K) d7
        rw [er] at this
        exact this
      refine ⟨t7, _, rfl, d7', sh1, sh2, sh3, sh4, _, rfl, by show 2 ≤ sizeLine; decide, fun t8 ht8 => ?_⟩
      have s37 := s36.trans s7
      have s8 := same_new (o := .tup [V.str "told", .ref tp]) (Same.refl H7) ht8
      have et8 : (upd H7 t8 (.tup [V.str "told", .ref tp])) t8 = some (.tup [V.str "told", .ref tp]) := upd_same
      generalize upd H7 t8 (.tup [V.str "told", .ref tp]) = H8 at s8 et8 ⊢
      have s38 := s37.trans s8
      have d8 : Dp K H8 (.ref t8) (outD (.inr p)) := .tup (.inl (.inl et8)) (.cons (.str _) (.cons (.tup (.inl (.inl (s38 _ _ etp))) (dpall_path p)) .nil))
      refine ⟨t8, _, rfl, d8, sh1, sh2, sh3, sh4, rfl, false, congrArg V.bl (by simp), iteF ?_⟩
      have hS8 := src_same hS2 s38
      have b8 := (b1.trans b2).same s38
      refine ⟨(3 : Int), rfl, by decide, by decide, for_it walk_range (fun t' st H' => ∃ u1 u2 u4 z, st = [some (.ref S), u1, u2, some (.str z), u4] ∧ Sml z (12101 * 2 ^ t' - 1) ∧ SrcAt H' S ∧ But S H H') ⟨_, _, _, strN (wrt p), rfl, ⟨by rw [strN_len]; exact wl, by rw [cps_strN]; exact ws⟩, hS8, b8⟩ (fun _ _ _ _ _ => True.intro) ?_ ?_⟩
      · rintro t' y st H9' H9 ht' ⟨u1, u2, u4, z, rfl, hz, hS9, b9⟩ ⟨rfl, rfl⟩
        have ht' : t' < 3 := ht'
        have p2 : 2 ^ t' ≤ 2 ^ 2 := Nat.pow_le_pow_right (by decide) (by omega)
        have p0 : 0 < 2 ^ t' := Nat.pow_pos (by decide)
        have e2 : 2 ^ (t' + 1) = 2 ^ t' * 2 := Nat.pow_succ ..
        have e4 : (2 : Nat) ^ 2 = 4 := rfl
        refine ⟨_, rfl, _, rfl, S, z, _, rfl, hS9, hz, by omega, fun y' H10 hy hS10 b10 => ?_⟩
        have hy : Sml y' (12101 * 2 ^ (t' + 1) - 1) := hy.le (by omega)
        have hy5 : y'.length ≤ 100000 := Nat.le_trans hy.1 (by omega)
        obtain ⟨l', rfl⟩ : ∃ l', y' = strN l' := ⟨_, (strN_cps y').symm⟩
        have hl' : l'.length ≤ 100000 := by
          rw [strN_len] at hy5
          exact hy5
        have hs' : ∀ c ∈ l', c < 1000 := by
          have := hy.2
          rw [cps_strN] at this
          exact this
        obtain ⟨z1, z2, z3, z4⟩ := out_show hl' hs'
        refine ⟨_, rfl, l', rfl, hl', fun t11 H11 s11 d11 => ⟨t11, _, rfl, dueV_dp d11, z1, z2, z3, z4, _, rfl, l', rfl, hl', fun t12 H12 s12 d12 => ⟨t12, _, rfl, dueV_dp d12, z1, z2, z3, z4, rfl, false, congrArg V.bl (by simp), iteF ?_⟩⟩⟩
        have s912 := s11.trans s12
        exact ⟨_, _, _, strN l', rfl, hy, src_same hS10 s912, (b9.trans b10).same s912⟩
      · rintro st H9 ⟨u1, u2, u4, z, rfl, hz, hS9, b9⟩
        exact ⟨_, _, _, _, rfl, hS9, b9⟩
    · rintro st H1 ⟨u1, u2, u3, u4, rfl, hS1, b1⟩
      exact k H1 b1
end
end G58

set_option Elab.async false
set_option linter.all false
set_option pp.maxSteps 2500
set_option maxRecDepth 100000
set_option maxHeartbeats 400000
/-! k75: the law. -/
namespace G58
open PySem PySem.Spec PyProof.Rows L2 NumText TL
/-- xs + ys, each a list that is to be read -/
def rCatS (K : PySem.W.Frag) : R2 := fun x y H Q => ∃ l b xs zs, x = .ref l ∧ y = .ref b ∧ SqL K H l xs ∧ SqL K H b zs ∧ xs.length + zs.length ≤ sizeLine ∧ ∀ p, H p = none → Q (.ref p) (upd H p (.lst (xs ++ zs)))
theorem op_catS {X : Cx} : OpR X (binaryOp .Add) (rCatS X.K) := by
  intro pins s st H x y v u Q Iv rx ry h
  obtain ⟨l, b, xs, zs, rfl, rfl, hl, hb, hz, q⟩ := h
  cases rx
  cases ry
  obtain ⟨its, r, pl, _⟩ := Iv.list hl
  obtain ⟨its2, r2, pl2, _⟩ := Iv.list hb
  have e1 := r.length
  have e2 := r2.length
  obtain ⟨⟨cls, dd, data, sl⟩, ho, hc, n, hd⟩ := id pl.isList
  obtain ⟨⟨cls2, dd2, data2, sl2⟩, ho2, hc2, n2, hd2⟩ := id pl2.isList
  simp only at hc hd hc2 hd2
  subst hc hd hc2 hd2
  refine concat_meets ⟨_, ho, rfl⟩ ⟨_, ho2, rfl⟩ noFill_list_add seq_list_add PySem.F.slot_list_add PySem.F.entry_list_add (PySem.F.args_list_add_2 _ _)
    (list_addW l b its.toArray its2.toArray n n2 dd dd2 sl sl2 (by rw [List.size_toArray, List.size_toArray]; omega)) ⟨ho, ho2, ?_⟩
  rw [show its.toArray ++ its2.toArray = (its ++ its2).toArray from by simp]
  exact ⟨.ref _, _, Iv.lnew (t' := s.toks) (r.append r2) (by rw [List.length_append]; omega), rfl, q _ Iv.fresh⟩
/-- a text, n times -/
theorem op_mulS {X : Cx} : OpR X (binaryOp .Mult) (fun x y H Q => ∃ z n, x = V.str z ∧ y = V.int n ∧ MulOk z n ∧ Q (V.str (PySem.Txt.mul z n)) H) := by
  intro pins s σ H x y v u Q I rx ry h
  obtain ⟨z, n, rfl, rfl, hok, q⟩ := h
  obtain ⟨t, rfl⟩ := rx
  obtain ⟨t', rfl⟩ := ry
  exact SB.mul hok fun t2 k => ⟨.str _, H, I.tok _, ⟨t2, rfl⟩, q⟩
theorem mem_cutV {xs : List V} {lo hi : Option Int} {x : V} (h : x ∈ cutV xs lo hi) : x ∈ xs := by
  unfold cutV at h
  exact List.mem_of_mem_drop (List.mem_of_mem_take h)
def spLaw (K : PySem.W.Frag) : Sp := fun vs H Q _ => ∃ (p : Addr) (ns : List Int), vs = [.ref p] ∧ SqL K H p (ns.map V.int) ∧ ns.length ≤ 63 ∧ ∀ H', Q (.bl true) H'
/-- texts, each with the place of its fault -/
def Good (H : Hp) (xs : List V) : Prop := ∀ x ∈ xs, ∃ (r : Addr) (l : List Nat) (q : Nat), x = .ref r ∧ H r = some (.tup [.str (strN l), .int ((q : Nat) : Int)]) ∧ rdP l = .inl q ∧ l.length ≤ 1000
theorem Good.same {H H' : Hp} {xs : List V} (g : Good H xs) (s : Same H H') : Good H' xs := fun x hx => by
  obtain ⟨r, l, q, h1, h2, h3, h4⟩ := g x hx
  exact ⟨r, l, q, h1, s _ _ h2, h3, h4⟩
def outIs (l : List Nat) (q : Nat) : Bool := match rdP l with
  | .inl p => decide (p = q)
  | .inr _ => false
theorem out_of {l : List Nat} {q : Nat} (h : outIs l q = true) : rdP l = .inl q := by
  unfold outIs at h
  cases e : rdP l with
  | inl p =>
    rw [e] at h
    rw [of_decide_eq_true h]
  | inr p =>
    rw [e] at h
    cases h
def IsC (te : TE) (z : Str) : Prop := ∀ σ H Q, Q (V.str z) H → te σ H Q
theorem cst {z : Str} {l : List Nat} (h : z = strN l) : IsC (tC (.str z)) (strN l) := fun σ H Q q => by
  rw [h]
  exact q
theorem nines_is : PySem.Txt.mul "9" 21 = strN (List.replicate 21 57) := by decide +kernel
theorem nines_ok : MulOk "9" 21 := ⟨by decide, fun _ _ => by decide +kernel, fun _ _ => by decide +kernel⟩
theorem ninesC : IsC (tOp (fun x y H Q => ∃ z n, x = V.str z ∧ y = V.int n ∧ MulOk z n ∧ Q (V.str (PySem.Txt.mul z n)) H) (tC (.str "9")) (tC (.int 21))) (strN (List.replicate 21 57)) := fun σ H Q q => by
  refine ⟨_, _, rfl, rfl, nines_ok, ?_⟩
  rw [nines_is]
  exact q
theorem tup1 {te : TE} {l : List Nat} {d : Int} {t : TA} {σ : L2.St} {H0 H : Hp} {Q : List V → Hp → Prop} {acc : List V} (hz : IsC te (strN l)) {q : Nat} (hd : d = ((q : Nat) : Int)) (hr : rdP l = .inl q) (hl : l.length ≤ 1000) (s : Same H0 H) (g : Good H acc)
    (k : ∀ r H1, Same H0 H1 → Good H1 (acc ++ [.ref r]) → t σ H1 (fun xs H2 => Q (.ref r :: xs) H2)) : tCons (tTup (tCons te (tCons (tC (.int d)) tNil))) t σ H Q := by
  refine hz σ H _ ⟨by show 2 ≤ sizeLine; decide, fun r hr0 => ?_⟩
  have s1 := same_new (o := .tup [V.str (strN l), .int d]) (Same.refl H) hr0
  refine k r _ (s.trans s1) fun x hx => ?_
  rcases List.mem_append.mp hx with q' | q'
  · exact g.same s1 x q'
  · rw [List.mem_singleton.mp q']
    exact ⟨r, l, q, rfl, by rw [← hd]; exact upd_same, hr, hl⟩
theorem lst0 {t : TA} {σ : L2.St} {H : Hp} {Q : VK} (h : t σ H fun xs H1 => xs.length ≤ sizeLine ∧ ∀ p, H1 p = none → Q (.ref p) (upd H1 p (.lst xs))) : tLst t σ H Q := h
theorem asg_lst {t : TA} {g : TG} {B : TS} {D : Ends} {σ : L2.St} {H : Hp} (h : t σ H fun xs H1 => xs.length ≤ sizeLine ∧ ∀ p, H1 p = none → g (.ref p) σ (upd H1 p (.lst xs)) fun σ' H' => B D σ' H') : tSeq (tAsg (tLst t) g) B D σ H := h
theorem shaped_f (q : Nat) : SeqAt.shaped (.tuple [.str "fault", .int ((q : Nat) : Int)]) = true := by
  unfold SeqAt.shaped
  have e1 : PyData.canLay0 (.tuple [.str "fault", .int ((q : Nat) : Int)]) = (PyData.strOk "fault" && (true && true)) := rfl
  have e2 : PyData.depth (.tuple [.str "fault", .int ((q : Nat) : Int)]) = max 0 (max 0 0) + 1 := rfl
  rw [e1, e2, show PyData.strOk "fault" = true from by decide +kernel]
  rfl
section
variable {P : Program} {w : World} {K : PySem.W.Frag} {mg : Str → Option Value} {base : Heap} {a : Ad}
theorem scLaw : FnScope ["_law_script", "_law_cell", "_law_source_here", "_law_fixed", "_law_word", "_law_due_here"] ["_law_script"] (defScope sLaw) := ⟨rfl, rfl, rfl, by decide +kernel, rfl, by decide +kernel, by decide +kernel⟩
theorem ok_law {f : Addr} {fd : FuncData} (F : Fun K "law" "law" sLaw f fd) (D : Df K a) (T : Txt K mg a) : FnG P w K mg base CX0 9 f fd ["_law_script"] (spLaw K) := by
  have GSrc : FnOk P w K mg base CX0 1 a.fSrc D.dSrc ["_law_cell"] spSrc := ok_src D T
  have GRgt : FnG P w K mg base CX0 8 a.fRgt D.dRgt ["_law_source_here"] spRgt := ok_rgt D T
  have GSai : FnOk P w K mg base CX0 7 a.fSai D.dSai ["_law_word"] spSai := ok_sai D T
  refine okG F scLaw (fun vs H Q E h => ?_) (fun cdv A outer s H vs Q E hgu hr h => ?_)
  · obtain ⟨p, ns, rfl, _⟩ := h
    rfl
  · obtain ⟨p, ns, rfl, hp, hl, k⟩ := h
    have hr1 : Room 1 _ := hr.mono (by decide)
    have hr7 : Room 7 _ := hr.mono (by decide)
    refine ⟨_, (pss_cons (ps_for PassesOwn.never rfl (pi_list (pe_slice sl_list (pe_op op_catS (pv 0) (pe_lst (pa_cons pe_int pa_nil))) po_none (po_some pe_int))) (pg_name (i := 1) scLaw.nd rfl (.inl rfl)) (pss_cons (ps_set (i := 2) scLaw.nd rfl (.inl rfl) (pe_call GSrc hr1 rfl T.gSrc D.FSrc.kp D.bSrc .nil pass0 (pa_cons (pv 1) pa_nil))) (pss_one (ps_if (pt_not (pt_val (pe_callG hgu GRgt hr rfl T.gRgt D.FRgt.kp D.bRgt .nil pass0 (pa_cons (pv 2) pa_nil)))) (pss_one (ps_ret pe_bl)) pss_nil)))) (pss_cons (ps_set (i := 3) scLaw.nd rfl (.inl rfl) (pe_lst (pa_cons (pe_tup (pa_cons pe_str (pa_cons pe_int pa_nil))) (pa_cons (pe_tup (pa_cons pe_str (pa_cons pe_int pa_nil))) (pa_cons (pe_tup (pa_cons pe_str (pa_cons pe_int pa_nil))) (pa_cons (pe_tup (pa_cons pe_str (pa_cons pe_int pa_nil))) (pa_cons (pe_tup (pa_cons pe_str (pa_cons pe_int pa_nil))) (pa_cons (pe_tup (pa_cons pe_str (pa_cons pe_int pa_nil))) (pa_cons (pe_tup (pa_cons pe_str (pa_cons pe_int pa_nil))) (pa_cons (pe_tup (pa_cons pe_str (pa_cons pe_int pa_nil))) (pa_cons (pe_tup (pa_cons pe_str (pa_cons pe_int pa_nil))) pa_nil))))))))))) (pss_cons (ps_set (i := 3) scLaw.nd rfl (.inl rfl) (pe_op op_cat (pv 3) (pe_lst (pa_cons (pe_tup (pa_cons pe_str (pa_cons pe_int pa_nil))) (pa_cons (pe_tup (pa_cons (pe_op op_mulS pe_str pe_int) (pa_cons pe_int pa_nil))) (pa_cons (pe_tup (pa_cons pe_str (pa_cons pe_int pa_nil))) (pa_cons (pe_tup (pa_cons pe_str (pa_cons pe_int pa_nil))) (pa_cons (pe_tup (pa_cons pe_str (pa_cons pe_int pa_nil))) (pa_cons (pe_tup (pa_cons pe_str (pa_cons pe_int pa_nil))) (pa_cons (pe_tup (pa_cons pe_str (pa_cons pe_int pa_nil))) pa_nil)))))))))) (pss_cons (ps_for PassesOwn.never rfl (pi_list (pe_op op_cat (pv 3) (pe_lst (pa_cons (pe_tup (pa_cons pe_str (pa_cons pe_int pa_nil))) pa_nil)))) (pg_tup rfl (pgs_cons (pg_name (i := 4) scLaw.nd rfl (.inl rfl)) (pgs_cons (pg_name (i := 5) scLaw.nd rfl (.inl rfl)) pgs_nil))) (pss_one (ps_if (pt_cmpR (op_neD hr.units) (pe_call GSai hr7 rfl T.gSai D.FSai.kp D.bSai .nil pass0 (pa_cons (pv 4) pa_nil)) (pe_tup (pa_cons pe_str (pa_cons (pv 5) pa_nil))) (nomark _)) (pss_one (ps_ret pe_bl)) pss_nil))) (pss_one (ps_ret pe_bl)))))), ?_⟩
    refine ⟨_, rfl, by show 1 ≤ sizeLine; decide, fun l0 hl0 => ?_⟩
    have s0 : Same H (upd H l0 (.lst [.int 0])) := same_new (Same.refl H) hl0
    refine ⟨p, l0, _, _, rfl, rfl, s0.seq hp, .inl (.inl upd_same), ?_, fun c1 hc1 => ⟨4, rfl, c1, _, rfl, .inl (.inl upd_same), fun s1 hs1 => ⟨s1, rfl, ⟨_, .inl (.inl upd_same)⟩, for_it (walk_list (K := K) (a := s1) (xs := cutV (ns.map V.int ++ [.int 0]) none (some 4)))
      (fun i st H1 => ∃ u1 u2 u3 u4 u5, st = [some (.ref p), u1, u2, u3, u4, u5] ∧ H1 s1 = some (.lst (cutV (ns.map V.int ++ [.int 0]) none (some 4)))) ⟨_, _, _, _, _, rfl, upd_same⟩ (fun i st H1 _ q => by
        obtain ⟨_, _, _, _, _, _, q⟩ := q
        exact .inl (.inl q)) ?_ ?_⟩⟩⟩
    · rw [List.length_map]
      show _ + 1 ≤ sizeLine
      exact Nat.le_trans (by omega : _ ≤ 100) (by decide)
    · rintro i x st H1' H1 hi ⟨u1, u2, u3, u4, u5, rfl, h1⟩ ⟨rfl, hx⟩
      obtain ⟨z, rfl⟩ : ∃ z, x = .int z := by
        rcases List.mem_append.mp (mem_cutV (List.mem_of_getElem? hx)) with m | m
        · obtain ⟨z, _, e⟩ := List.mem_map.mp m
          exact ⟨z, e.symm⟩
        · exact ⟨0, List.mem_singleton.mp m⟩
      refine ⟨_, rfl, z, rfl, fun S H2 hS0 s2 hS2 => ?_⟩
      exact ⟨_, rfl, S, rfl, hS2, fun H3 bt3 => ⟨true, rfl, iteF ⟨_, _, _, _, _, rfl, bt3 _ _ (s2 _ _ h1) (ne_of_none h1 hS0)⟩⟩⟩
    · rintro st H0 ⟨u1, u2, u3, u4, u5, rfl, -⟩
      dsimp only
      refine asg_lst ?_
      refine tup1 (cst (l := []) (by decide +kernel)) (q := 0) rfl (out_of (by decide +kernel)) (by decide) (Same.refl H0) (acc := []) (fun _ q => nomatch q) fun r1 H1 s1 g1 => ?_
      refine tup1 (cst (l := [46, 46]) (by decide +kernel)) (q := 1) rfl (out_of (by decide +kernel)) (by decide) s1 g1 fun r2 H2 s2 g2 => ?_
      refine tup1 (cst (l := [46, 32]) (by decide +kernel)) (q := 1) rfl (out_of (by decide +kernel)) (by decide) s2 g2 fun r3 H3 s3 g3 => ?_
      refine tup1 (cst (l := [47]) (by decide +kernel)) (q := 0) rfl (out_of (by decide +kernel)) (by decide) s3 g3 fun r4 H4 s4 g4 => ?_
      refine tup1 (cst (l := [49, 47]) (by decide +kernel)) (q := 2) rfl (out_of (by decide +kernel)) (by decide) s4 g4 fun r5 H5 s5 g5 => ?_
      refine tup1 (cst (l := [48, 49]) (by decide +kernel)) (q := 1) rfl (out_of (by decide +kernel)) (by decide) s5 g5 fun r6 H6 s6 g6 => ?_
      refine tup1 (cst (l := [49, 97]) (by decide +kernel)) (q := 1) rfl (out_of (by decide +kernel)) (by decide) s6 g6 fun r7 H7 s7 g7 => ?_
      refine tup1 (cst (l := [34, 97, 34, 120]) (by decide +kernel)) (q := 3) rfl (out_of (by decide +kernel)) (by decide) s7 g7 fun r8 H8 s8 g8 => ?_
      refine tup1 (cst (l := [34, 97]) (by decide +kernel)) (q := 2) rfl (out_of (by decide +kernel)) (by decide) s8 g8 fun r9 H9 s9 g9 => ?_
      refine ⟨by show 9 ≤ sizeLine; decide, fun L1 hL1 => ?_⟩
      obtain ⟨xs1, e1⟩ : ∃ xs, xs = [V.ref r1, .ref r2, .ref r3, .ref r4, .ref r5, .ref r6, .ref r7, .ref r8, .ref r9] := ⟨_, rfl⟩
      have g9 : Good H9 xs1 := by
        rw [e1]
        exact g9
      have n1 : xs1.length = 9 := by rw [e1]; rfl
      rw [← e1]
      have sA := same_new (o := .lst xs1) (Same.refl H9) hL1
      have eL1 : (upd H9 L1 (.lst xs1)) L1 = some (.lst xs1) := upd_same
      have gA := g9.same sA
      generalize upd H9 L1 (.lst xs1) = HA at sA eL1 gA ⊢
      refine ⟨_, rfl, lst0 ?_⟩
      refine tup1 (cst (l := [45, 49]) (by decide +kernel)) (q := 0) rfl (out_of (by decide +kernel)) (by decide) (Same.refl HA) gA fun r10 H10 s10 g10 => ?_
      refine tup1 (l := List.replicate 21 57) ninesC (q := 20) rfl (out_of (by decide +kernel)) (by decide) s10 g10 fun r11 H11 s11 g11 => ?_
      refine tup1 (cst (l := [49, 47, 47, 50]) (by decide +kernel)) (q := 2) rfl (out_of (by decide +kernel)) (by decide) s11 g11 fun r12 H12 s12 g12 => ?_
      refine tup1 (cst (l := [34, 92, 120, 34]) (by decide +kernel)) (q := 2) rfl (out_of (by decide +kernel)) (by decide) s12 g12 fun r13 H13 s13 g13 => ?_
      refine tup1 (cst (l := [49, 47, 46]) (by decide +kernel)) (q := 2) rfl (out_of (by decide +kernel)) (by decide) s13 g13 fun r14 H14 s14 g14 => ?_
      refine tup1 (cst (l := [32, 49]) (by decide +kernel)) (q := 0) rfl (out_of (by decide +kernel)) (by decide) s14 g14 fun r15 H15 s15 g15 => ?_
      refine tup1 (cst (l := [48, 47, 48, 48]) (by decide +kernel)) (q := 3) rfl (out_of (by decide +kernel)) (by decide) s15 g15 fun r16 H16 s16 g16 => ?_
      refine ⟨by show 7 ≤ sizeLine; decide, fun L2 hL2 => ?_⟩
      have sB := same_new (o := .lst [V.ref r10, .ref r11, .ref r12, .ref r13, .ref r14, .ref r15, .ref r16]) (Same.refl H16) hL2
      refine catV (sB _ _ (s16 _ _ eL1)) upd_same (by rw [n1]; show 9 + 7 ≤ 1000000; decide) fun L3 H20 hL3 sC eL3 => ?_
      have gC : Good H20 (xs1 ++ [V.ref r10, .ref r11, .ref r12, .ref r13, .ref r14, .ref r15, .ref r16]) := by
        have := g16.same (sB.trans sC)
        simpa using this
      have n3 : (xs1 ++ [V.ref r10, .ref r11, .ref r12, .ref r13, .ref r14, .ref r15, .ref r16]).length = 16 := by
        rw [List.length_append, n1]
        rfl
      generalize xs1 ++ [V.ref r10, .ref r11, .ref r12, .ref r13, .ref r14, .ref r15, .ref r16] = xs3 at eL3 gC n3
      refine ⟨_, rfl, lst0 ?_⟩
      refine tup1 (cst (l := [34, 97, 34, 47]) (by decide +kernel)) (q := 4) rfl (out_of (by decide +kernel)) (by decide) (Same.refl H20) gC fun r21 H21 s21 g21 => ?_
      refine ⟨by show 1 ≤ sizeLine; decide, fun L4 hL4 => ?_⟩
      have sD := same_new (o := .lst [V.ref r21]) (Same.refl H21) hL4
      refine catV (sD _ _ (s21 _ _ eL3)) upd_same (by rw [n3]; show 16 + 1 ≤ 1000000; decide) fun L5 H30 hL5 sE eL5 => ?_
      have gE : Good H30 (xs3 ++ [V.ref r21]) := g21.same (sD.trans sE)
      generalize xs3 ++ [V.ref r21] = xs5 at eL5 gE
      refine ⟨L5, rfl, ⟨_, .inl (.inl eL5)⟩, for_it (walk_list (K := K) (a := L5) (xs := xs5))
        (fun i st H1 => ∃ u1 u2 u3 u4 u5, st = [some (.ref p), u1, u2, u3, u4, u5] ∧ Same H30 H1) ⟨_, _, _, _, _, rfl, Same.refl H30⟩ (fun i st H1 _ q => by
        obtain ⟨_, _, _, _, _, _, q⟩ := q
        exact .inl (.inl (q _ _ eL5))) ?_ ?_⟩
      · rintro i x st H31' H31 hi ⟨u1, u2, u3, u4, u5, rfl, s31⟩ ⟨rfl, hx⟩
        obtain ⟨r, l, q, rfl, h2, h3, h4⟩ := gE.same s31 x (List.mem_of_getElem? hx)
        refine ⟨r, _, rfl, .inl (.inl h2), rfl, _, _, rfl, _, _, rfl, rfl, ?_⟩
        refine ⟨_, rfl, l, rfl, Nat.le_trans h4 (by decide), fun t H32 s32 d32 => ⟨_, rfl, by show 2 ≤ sizeLine; decide, fun t2 ht2 => ?_⟩⟩
        unfold dueV at d32
        rw [h3] at d32
        have d32 : H32 t = some (.tup [.str "fault", .int ((q : Nat) : Int)]) := d32
        have sX := same_new (o := .tup [V.str "fault", .int ((q : Nat) : Int)]) (Same.refl H32) ht2
        refine ⟨_, _, .tup (.inl (.inl (sX _ _ d32))) (.cons (.str _) (.cons (.int _) .nil)), .tup (.inl (.inl upd_same)) (.cons (.str _) (.cons (.int _) .nil)), shaped_f q, shaped_f q, false, congrArg V.bl (congrArg (fun z => !z) (SeqAt.eqv_refl _ (SeqAt.canLay_of_shaped (shaped_f q)))), iteF ⟨_, _, _, _, _, rfl, s31.trans (s32.trans sX)⟩⟩
      · rintro st H31 ⟨u1, u2, u3, u4, u5, rfl, s31⟩
        exact k H31
end
end G58

set_option Elab.async false
set_option linter.all false
set_option maxRecDepth 100000
set_option maxHeartbeats 8000000
/-! What the top has written. -/
namespace G58
open PySem PySem.Spec PyProof.Rows L2
theorem exm_sub {K : PySem.W.Frag} {E S : Addr} {b : Bool} (h1 : PySem.W.subIn K (.ref S) (.type "BaseException") = some true) (h2 : PySem.W.isClsIn K S = true) (h3 : PySem.W.typeIn K (.ref S) = some (.type "type")) (h4 : PySem.W.subIn K (.ref E) (.ref S) = some b) :
    PySem.W.exmOne K (.ref E) (.ref S) = some b := by
  have q2 : ((PySem.W.clsIn K S).isSome && PySem.W.typeIn K (.ref S) == some (.type "type")) = true := by
    have z : (PySem.W.clsIn K S).isSome = true := h2
    rw [z, h3]
    rfl
  have q1 : (PySem.W.subIn K (.ref S) (.type "BaseException") == some true) = true := by
    rw [h1]
    rfl
  show (if (PySem.W.subIn K (.ref S) (.type "BaseException") == some true) = true then (if ((PySem.W.clsIn K S).isSome && PySem.W.typeIn K (.ref S) == some (.type "type")) = true then PySem.W.subIn K (.ref E) (.ref S) else none) else none) = some b
  rw [if_pos q1, if_pos q2]
  exact h4
theorem walk_GE {l : PySem.W.OpenLaw} {n k : Nat} {q : Program} {loose : List Str} {XP : (Str → Option Value) → Heap → Prop} {YP : World → Heap → Prop} {d : DefRec} {x : Str}
    (hn : l.most = some n) (hn2 : n ≤ sizeLine) (hdf : d.params.defaults = []) (hr : Room k callerA)
    (F : ∀ (w : World) (mg : Str → Option Value) (fa : Addr) (h : Heap), YP w h → h.Ns mainGlobals mg → mg d.name = some (.ref fa) → ∃ K : PySem.W.Frag, K.In h ∧ LawG l w K k n x mg fa) :
    PySem.W.WalkO q loose XP YP l.row.toRowW d [] (fun f vs => PySem.call f vs) :=
  Att.attach_callB hn hdf fun w s₀ s₁ mg mb fa o pm cd doc a vs ns G Y _ _ _ hmg hobj hints hlen _ hg => by
    obtain ⟨K, KX, fd, sp, hb, hsp, hF⟩ := F w mg fa _ Y G.T.g hmg
    exact law_callG KX G.T.g G.T.b G.T.builtins G.T.nolimit hg hobj hints (Nat.le_trans hlen hn2) hr hF hb fun H hS => hsp H a ns hlen hS
theorem all_mk {l : PySem.W.OpenLaw} {w : World} {K : PySem.W.Frag} {h : Heap} {mg : Str → Option Value} {fa : Addr} (X : K.In h) (G : h.Ns mainGlobals mg) (hfa : mg "law" = some (.ref fa))
    {cBadText cScanner cNestError : Addr}
    {f_iT : Addr}
    {f_Inq : Addr}
    {f_Ptx : Addr}
    {f_Sin : Addr}
    {f_Sgn : Addr}
    {f_Isa : Addr}
    {f_Rfu : Addr}
    {f_Exp : Addr}
    {f_Fns : Addr}
    {f_Fig : Addr}
    {f_Stg : Addr}
    {f_Rdp : Addr}
    {f_Src : Addr}
    {f_Drw : Addr}
    {f_Pik : Addr}
    {f_Key : Addr}
    {f_Way : Addr}
    {f_Wri : Addr}
    {f_Ken : Addr}
    {f_Plc : Addr}
    {f_Due : Addr}
    {f_Sai : Addr}
    {f_Bnt : Addr}
    {f_Rgt : Addr}
    {f_Law : Addr}
    (aC_BadText : PySem.W.nsIn K mainGlobals "BadText" = some (some (.ref cBadText)))
    (aC_Scanner : PySem.W.nsIn K mainGlobals "Scanner" = some (some (.ref cScanner)))
    (aC_NestError : PySem.W.nsIn K mainGlobals "NestError" = some (some (.ref cNestError)))
    (x_BadText : OexC K cBadText)
    (f_BadText : XfC K cBadText)
    (no_BadText_place : PySem.W.findIn K (.ref cBadText) "place" = some none)
    (iC_BadText_BadText : PySem.W.isClsIn K cBadText = true)
    (s_BadText_BadText : PySem.W.subIn K (.ref cBadText) (.ref cBadText) = some true)
    (mk_Scanner : PySem.W.makesIn K cScanner = true)
    (kC_Scanner : PySem.W.keepIn K (.ref cScanner) = true)
    (pg_Scanner : PySem.W.plainGet K cScanner Str.empty = true)
    (hd_Scanner : PySem.W.hasDictIn K cScanner = true)
    (po_Scanner : PySem.W.plainOver K cScanner = true)
    (sa_Scanner : PySem.W.findIn K (.ref cScanner) "__setattr__" = some (some (.builtin "object.__setattr__")))
    (n_Scanner_text : PySem.W.findIn K (.ref cScanner) "text" = some none)
    (n_Scanner_place : PySem.W.findIn K (.ref cScanner) "place" = some none)
    (a_iT : PySem.W.findIn K (.ref cBadText) "__init__" = some (some (.ref f_iT)))
    (t_iT : PySem.W.typeIn K (.ref f_iT) = some (.type "function"))
    (E_iT : ∃ fd, Fun K "__init__" "BadText.__init__" siT f_iT fd)
    (a_Inq : PySem.W.nsIn K mainGlobals "in_quotes" = some (some (.ref f_Inq)))
    (E_Inq : ∃ fd, Fun K "in_quotes" "in_quotes" sInq f_Inq fd)
    (a_Ptx : PySem.W.nsIn K mainGlobals "path_text" = some (some (.ref f_Ptx)))
    (E_Ptx : ∃ fd, Fun K "path_text" "path_text" sPtx f_Ptx fd)
    (a_Sin : PySem.W.findIn K (.ref cScanner) "__init__" = some (some (.ref f_Sin)))
    (i_Sin : PySem.W.isFn K (.ref f_Sin) = true)
    (E_Sin : ∃ fd, Fun K "__init__" "Scanner.__init__" sSin f_Sin fd)
    (a_Sgn : PySem.W.findIn K (.ref cScanner) "sign" = some (some (.ref f_Sgn)))
    (i_Sgn : PySem.W.isFn K (.ref f_Sgn) = true)
    (E_Sgn : ∃ fd, Fun K "sign" "Scanner.sign" sSgn f_Sgn fd)
    (a_Isa : PySem.W.findIn K (.ref cScanner) "is_at" = some (some (.ref f_Isa)))
    (i_Isa : PySem.W.isFn K (.ref f_Isa) = true)
    (E_Isa : ∃ fd, Fun K "is_at" "Scanner.is_at" sIsa f_Isa fd)
    (a_Rfu : PySem.W.findIn K (.ref cScanner) "refuse" = some (some (.ref f_Rfu)))
    (i_Rfu : PySem.W.isFn K (.ref f_Rfu) = true)
    (E_Rfu : ∃ fd, Fun K "refuse" "Scanner.refuse" sRfu f_Rfu fd)
    (a_Exp : PySem.W.findIn K (.ref cScanner) "expect" = some (some (.ref f_Exp)))
    (i_Exp : PySem.W.isFn K (.ref f_Exp) = true)
    (E_Exp : ∃ fd, Fun K "expect" "Scanner.expect" sExp f_Exp fd)
    (a_Fns : PySem.W.findIn K (.ref cScanner) "finish" = some (some (.ref f_Fns)))
    (i_Fns : PySem.W.isFn K (.ref f_Fns) = true)
    (E_Fns : ∃ fd, Fun K "finish" "Scanner.finish" sFns f_Fns fd)
    (a_Fig : PySem.W.findIn K (.ref cScanner) "figures_here" = some (some (.ref f_Fig)))
    (i_Fig : PySem.W.isFn K (.ref f_Fig) = true)
    (E_Fig : ∃ fd, Fun K "figures_here" "Scanner.figures_here" sFig f_Fig fd)
    (a_Stg : PySem.W.findIn K (.ref cScanner) "string" = some (some (.ref f_Stg)))
    (i_Stg : PySem.W.isFn K (.ref f_Stg) = true)
    (E_Stg : ∃ fd, Fun K "string" "Scanner.string" sStg f_Stg fd)
    (a_Rdp : PySem.W.nsIn K mainGlobals "read_path" = some (some (.ref f_Rdp)))
    (E_Rdp : ∃ fd, Fun K "read_path" "read_path" sRdp f_Rdp fd)
    (a_Src : PySem.W.nsIn K mainGlobals "_law_source" = some (some (.ref f_Src)))
    (E_Src : ∃ fd, Fun K "_law_source" "_law_source" sSrc f_Src fd)
    (a_Drw : PySem.W.nsIn K mainGlobals "_law_draw" = some (some (.ref f_Drw)))
    (E_Drw : ∃ fd, Fun K "_law_draw" "_law_draw" sDrw f_Drw fd)
    (a_Pik : PySem.W.nsIn K mainGlobals "_law_pick" = some (some (.ref f_Pik)))
    (E_Pik : ∃ fd, Fun K "_law_pick" "_law_pick" sPik f_Pik fd)
    (a_Key : PySem.W.nsIn K mainGlobals "_law_key" = some (some (.ref f_Key)))
    (E_Key : ∃ fd, Fun K "_law_key" "_law_key" sKey f_Key fd)
    (a_Way : PySem.W.nsIn K mainGlobals "_law_way" = some (some (.ref f_Way)))
    (E_Way : ∃ fd, Fun K "_law_way" "_law_way" sWay f_Way fd)
    (a_Wri : PySem.W.nsIn K mainGlobals "_law_written" = some (some (.ref f_Wri)))
    (E_Wri : ∃ fd, Fun K "_law_written" "_law_written" sWri f_Wri fd)
    (a_Ken : PySem.W.nsIn K mainGlobals "_law_key_end" = some (some (.ref f_Ken)))
    (E_Ken : ∃ fd, Fun K "_law_key_end" "_law_key_end" sKen f_Ken fd)
    (a_Plc : PySem.W.nsIn K mainGlobals "_law_place_end" = some (some (.ref f_Plc)))
    (E_Plc : ∃ fd, Fun K "_law_place_end" "_law_place_end" sPlc f_Plc fd)
    (a_Due : PySem.W.nsIn K mainGlobals "_law_due" = some (some (.ref f_Due)))
    (E_Due : ∃ fd, Fun K "_law_due" "_law_due" sDue f_Due fd)
    (a_Sai : PySem.W.nsIn K mainGlobals "_law_said" = some (some (.ref f_Sai)))
    (E_Sai : ∃ fd, Fun K "_law_said" "_law_said" sSai f_Sai fd)
    (a_Bnt : PySem.W.nsIn K mainGlobals "_law_bent" = some (some (.ref f_Bnt)))
    (E_Bnt : ∃ fd, Fun K "_law_bent" "_law_bent" sBnt f_Bnt fd)
    (a_Rgt : PySem.W.nsIn K mainGlobals "_law_right" = some (some (.ref f_Rgt)))
    (E_Rgt : ∃ fd, Fun K "_law_right" "_law_right" sRgt f_Rgt fd)
    (a_Law : PySem.W.nsIn K mainGlobals "law" = some (some (.ref f_Law)))
    (E_Law : ∃ fd, Fun K "law" "law" sLaw f_Law fd)
    (z_len : PySem.W.nsIn K mainGlobals "len" = some none)
    (z_isinstance : PySem.W.nsIn K mainGlobals "isinstance" = some none)
    (z_str : PySem.W.nsIn K mainGlobals "str" = some none)
    (z_int : PySem.W.nsIn K mainGlobals "int" = some none)
    (z_abs : PySem.W.nsIn K mainGlobals "abs" = some none)
    (z_range : PySem.W.nsIn K mainGlobals "range" = some none)
    (z_list : PySem.W.nsIn K mainGlobals "list" = some none)
    (z_tuple : PySem.W.nsIn K mainGlobals "tuple" = some none)
    (z_min : PySem.W.nsIn K mainGlobals "min" = some none)
    (z_repr : PySem.W.nsIn K mainGlobals "repr" = some none)
    (q_MOST_FIGURES : ∃ t, PySem.W.nsIn K mainGlobals "MOST_FIGURES" = some (some (.int 20 t)))
    (q_FIGURES : ∃ t, PySem.W.nsIn K mainGlobals "FIGURES" = some (some (.str "0123456789" t))) :
    LawG l w K 9 63 "_law_script" mg fa := by
  have e := hfa.symm.trans (PySem.W.mg_of X G a_Law)
  cases e
  obtain ⟨d_iT, F_iT⟩ := E_iT
  have b_iT := F_iT.binds (ps := ["self", "place"]) fun _ _ _ _ _ _ us hl => match us, hl with | [_, _], _ => rfl
  obtain ⟨d_Inq, F_Inq⟩ := E_Inq
  have b_Inq := F_Inq.binds (ps := ["word"]) fun _ _ _ _ _ _ us hl => match us, hl with | [_], _ => rfl
  obtain ⟨d_Ptx, F_Ptx⟩ := E_Ptx
  have b_Ptx := F_Ptx.binds (ps := ["path"]) fun _ _ _ _ _ _ us hl => match us, hl with | [_], _ => rfl
  obtain ⟨d_Sin, F_Sin⟩ := E_Sin
  have b_Sin := F_Sin.binds (ps := ["self", "text"]) fun _ _ _ _ _ _ us hl => match us, hl with | [_, _], _ => rfl
  obtain ⟨d_Sgn, F_Sgn⟩ := E_Sgn
  have b_Sgn := F_Sgn.binds (ps := ["self"]) fun _ _ _ _ _ _ us hl => match us, hl with | [_], _ => rfl
  obtain ⟨d_Isa, F_Isa⟩ := E_Isa
  have b_Isa := F_Isa.binds (ps := ["self", "signs"]) fun _ _ _ _ _ _ us hl => match us, hl with | [_, _], _ => rfl
  obtain ⟨d_Rfu, F_Rfu⟩ := E_Rfu
  have b_Rfu := F_Rfu.binds (ps := ["self"]) fun _ _ _ _ _ _ us hl => match us, hl with | [_], _ => rfl
  obtain ⟨d_Exp, F_Exp⟩ := E_Exp
  have b_Exp := F_Exp.binds (ps := ["self", "signs"]) fun _ _ _ _ _ _ us hl => match us, hl with | [_, _], _ => rfl
  obtain ⟨d_Fns, F_Fns⟩ := E_Fns
  have b_Fns := F_Fns.binds (ps := ["self"]) fun _ _ _ _ _ _ us hl => match us, hl with | [_], _ => rfl
  obtain ⟨d_Fig, F_Fig⟩ := E_Fig
  have b_Fig := F_Fig.binds (ps := ["self"]) fun _ _ _ _ _ _ us hl => match us, hl with | [_], _ => rfl
  obtain ⟨d_Stg, F_Stg⟩ := E_Stg
  have b_Stg := F_Stg.binds (ps := ["self"]) fun _ _ _ _ _ _ us hl => match us, hl with | [_], _ => rfl
  obtain ⟨d_Rdp, F_Rdp⟩ := E_Rdp
  have b_Rdp := F_Rdp.binds (ps := ["text"]) fun _ _ _ _ _ _ us hl => match us, hl with | [_], _ => rfl
  obtain ⟨d_Src, F_Src⟩ := E_Src
  have b_Src := F_Src.binds (ps := ["_law_cell"]) fun _ _ _ _ _ _ us hl => match us, hl with | [_], _ => rfl
  obtain ⟨d_Drw, F_Drw⟩ := E_Drw
  have b_Drw := F_Drw.binds (ps := ["_law_source_here", "_law_many"]) fun _ _ _ _ _ _ us hl => match us, hl with | [_, _], _ => rfl
  obtain ⟨d_Pik, F_Pik⟩ := E_Pik
  have b_Pik := F_Pik.binds (ps := ["_law_source_here", "_law_items"]) fun _ _ _ _ _ _ us hl => match us, hl with | [_, _], _ => rfl
  obtain ⟨d_Key, F_Key⟩ := E_Key
  have b_Key := F_Key.binds (ps := ["_law_source_here"]) fun _ _ _ _ _ _ us hl => match us, hl with | [_], _ => rfl
  obtain ⟨d_Way, F_Way⟩ := E_Way
  have b_Way := F_Way.binds (ps := ["_law_source_here"]) fun _ _ _ _ _ _ us hl => match us, hl with | [_], _ => rfl
  obtain ⟨d_Wri, F_Wri⟩ := E_Wri
  have b_Wri := F_Wri.binds (ps := ["_law_way_here"]) fun _ _ _ _ _ _ us hl => match us, hl with | [_], _ => rfl
  obtain ⟨d_Ken, F_Ken⟩ := E_Ken
  have b_Ken := F_Ken.binds (ps := ["_law_word", "_law_at"]) fun _ _ _ _ _ _ us hl => match us, hl with | [_, _], _ => rfl
  obtain ⟨d_Plc, F_Plc⟩ := E_Plc
  have b_Plc := F_Plc.binds (ps := ["_law_word", "_law_at"]) fun _ _ _ _ _ _ us hl => match us, hl with | [_, _], _ => rfl
  obtain ⟨d_Due, F_Due⟩ := E_Due
  have b_Due := F_Due.binds (ps := ["_law_word"]) fun _ _ _ _ _ _ us hl => match us, hl with | [_], _ => rfl
  obtain ⟨d_Sai, F_Sai⟩ := E_Sai
  have b_Sai := F_Sai.binds (ps := ["_law_word"]) fun _ _ _ _ _ _ us hl => match us, hl with | [_], _ => rfl
  obtain ⟨d_Bnt, F_Bnt⟩ := E_Bnt
  have b_Bnt := F_Bnt.binds (ps := ["_law_source_here", "_law_word"]) fun _ _ _ _ _ _ us hl => match us, hl with | [_, _], _ => rfl
  obtain ⟨d_Rgt, F_Rgt⟩ := E_Rgt
  have b_Rgt := F_Rgt.binds (ps := ["_law_source_here"]) fun _ _ _ _ _ _ us hl => match us, hl with | [_], _ => rfl
  obtain ⟨d_Law, F_Law⟩ := E_Law
  obtain ⟨tq_MOST_FIGURES, q_MOST_FIGURES⟩ := q_MOST_FIGURES
  obtain ⟨tq_FIGURES, q_FIGURES⟩ := q_FIGURES
  have M := fun {n : Str} {v : Value} (q : PySem.W.nsIn K mainGlobals n = some (some v)) => PySem.W.mg_of X G q
  have M0 := fun {n : Str} (q : PySem.W.nsIn K mainGlobals n = some none) => PySem.W.mg_none_of X G q
  let a : Ad := ⟨cBadText, cScanner, cNestError, f_iT, f_Inq, f_Ptx, f_Sin, f_Sgn, f_Isa, f_Rfu, f_Exp, f_Fns, f_Fig, f_Stg, f_Rdp, f_Src, f_Drw, f_Pik, f_Key, f_Way, f_Wri, f_Ken, f_Plc, f_Due, f_Sai, f_Bnt, f_Rgt⟩
  have T : Txt K mg a := ⟨⟨x_BadText, f_BadText, a_iT, t_iT⟩, no_BadText_place, ⟨mk_Scanner, a_Sin, i_Sin, kC_Scanner⟩, ⟨pg_Scanner, hd_Scanner, po_Scanner, sa_Scanner⟩, n_Scanner_text, n_Scanner_place, ⟨a_Sgn, i_Sgn, F_Sgn.kp⟩, ⟨a_Isa, i_Isa, F_Isa.kp⟩, ⟨a_Rfu, i_Rfu, F_Rfu.kp⟩, ⟨a_Exp, i_Exp, F_Exp.kp⟩, ⟨a_Fns, i_Fns, F_Fns.kp⟩, ⟨a_Fig, i_Fig, F_Fig.kp⟩, ⟨a_Stg, i_Stg, F_Stg.kp⟩, M aC_BadText, M aC_Scanner, M aC_NestError, M a_Inq, M a_Ptx, M a_Rdp, M a_Src, M a_Drw, M a_Pik, M a_Key, M a_Way, M a_Wri, M a_Ken, M a_Plc, M a_Due, M a_Sai, M a_Bnt, M a_Rgt, ⟨_, M q_MOST_FIGURES⟩, ⟨_, M q_FIGURES⟩, M0 z_len, M0 z_isinstance, M0 z_str, M0 z_int, M0 z_abs, M0 z_range, M0 z_list, M0 z_tuple, M0 z_min, M0 z_repr, exm_sub x_BadText.exC iC_BadText_BadText x_BadText.tyC s_BadText_BadText⟩
  have D : Df K a := ⟨_, _, _, _, _, _, _, _, _, _, _, _, _, _, _, _, _, _, _, _, _, _, _, _, F_iT, b_iT, F_Inq, b_Inq, F_Ptx, b_Ptx, F_Sin, b_Sin, F_Sgn, b_Sgn, F_Isa, b_Isa, F_Rfu, b_Rfu, F_Exp, b_Exp, F_Fns, b_Fns, F_Fig, b_Fig, F_Stg, b_Stg, F_Rdp, b_Rdp, F_Src, b_Src, F_Drw, b_Drw, F_Pik, b_Pik, F_Key, b_Key, F_Way, b_Way, F_Wri, b_Wri, F_Ken, b_Ken, F_Plc, b_Plc, F_Due, b_Due, F_Sai, b_Sai, F_Bnt, b_Bnt, F_Rgt, b_Rgt⟩
  obtain ⟨oc, od, kV, doc, pm, an, cdv, ct, osl, eL, lkL, cdL⟩ := F_Law.ex
  refine ⟨d_Law, spLaw K, fun s v => ?_, fun H p ns hl hS => ⟨p, ns, rfl, hS, hl, fun _ => rfl⟩, fun base _ _ => ?_⟩
  · rw [eL]
    exact .of_eq rfl
  exact ok_law F_Law D T
end G58

set_option Elab.async false
set_option linter.all false
set_option maxRecDepth 100000
set_option maxHeartbeats 8000000
/-! The end. -/
namespace HeadS
open PySem PySem.Spec PyProof.Rows L2 He
theorem facts {w : World} {K : PySem.W.Frag} {h : Heap} {mg : Str → Option Value} {f : Addr} (X : K.In h) (G : h.Ns mainGlobals mg) (hfa : mg ("law" : Str) = some (.ref f)) (c : HdK.SaysK fa fn ex K) :
    G58.LawG PySem.Challenge.rw_nestfile_k75_paths_as_texts w K 9 63 "_law_script" mg f := by
  exact G58.all_mk X G hfa
      (aC_BadText := HdK.nsg (c.d.fact 0 (f := .glo "BadText") rfl))
      (aC_Scanner := HdK.nsg (c.d.fact 1 (f := .glo "Scanner") rfl))
      (aC_NestError := HdK.nsg (c.d.fact 2 (f := .glo "NestError") rfl))
      (x_BadText := HdK.oexB_ok (c.at 0))
      (f_BadText := xfB_ok (c.at 1))
      (no_BadText_place := of_decide_eq_true (c.at 2))
      (iC_BadText_BadText := c.at 3)
      (s_BadText_BadText := of_decide_eq_true (c.at 4))
      (mk_Scanner := c.at 5)
      (kC_Scanner := c.at 6)
      (pg_Scanner := c.at 7)
      (hd_Scanner := c.at 8)
      (po_Scanner := c.at 9)
      (sa_Scanner := of_decide_eq_true (c.at 10))
      (n_Scanner_text := of_decide_eq_true (c.at 11))
      (n_Scanner_place := of_decide_eq_true (c.at 12))
      (a_iT := of_decide_eq_true (c.at 13))
      (t_iT := of_decide_eq_true (c.at 14))
      (E_iT := HdK.fun0 (c.d.def_ 0 (d := d0) rfl))
      (a_Inq := HdK.nsg (c.d.fact 3 (f := .glo "in_quotes") rfl))
      (E_Inq := HdK.fun0 (c.d.def_ 1 (d := d1) rfl))
      (a_Ptx := HdK.nsg (c.d.fact 4 (f := .glo "path_text") rfl))
      (E_Ptx := HdK.fun0 (c.d.def_ 2 (d := d2) rfl))
      (a_Sin := of_decide_eq_true (c.at 15))
      (i_Sin := c.at 16)
      (E_Sin := HdK.fun0 (c.d.def_ 3 (d := d3) rfl))
      (a_Sgn := of_decide_eq_true (c.at 17))
      (i_Sgn := c.at 18)
      (E_Sgn := HdK.fun0 (c.d.def_ 4 (d := d4) rfl))
      (a_Isa := of_decide_eq_true (c.at 19))
      (i_Isa := c.at 20)
      (E_Isa := HdK.fun0 (c.d.def_ 5 (d := d5) rfl))
      (a_Rfu := of_decide_eq_true (c.at 21))
      (i_Rfu := c.at 22)
      (E_Rfu := HdK.fun0 (c.d.def_ 6 (d := d6) rfl))
      (a_Exp := of_decide_eq_true (c.at 23))
      (i_Exp := c.at 24)
      (E_Exp := HdK.fun0 (c.d.def_ 7 (d := d7) rfl))
      (a_Fns := of_decide_eq_true (c.at 25))
      (i_Fns := c.at 26)
      (E_Fns := HdK.fun0 (c.d.def_ 8 (d := d8) rfl))
      (a_Fig := of_decide_eq_true (c.at 27))
      (i_Fig := c.at 28)
      (E_Fig := HdK.fun0 (c.d.def_ 9 (d := d9) rfl))
      (a_Stg := of_decide_eq_true (c.at 29))
      (i_Stg := c.at 30)
      (E_Stg := HdK.fun0 (c.d.def_ 10 (d := d10) rfl))
      (a_Rdp := HdK.nsg (c.d.fact 5 (f := .glo "read_path") rfl))
      (E_Rdp := HdK.fun0 (c.d.def_ 11 (d := d11) rfl))
      (a_Src := HdK.nsg (c.d.fact 6 (f := .glo "_law_source") rfl))
      (E_Src := HdK.fun0 (c.d.def_ 12 (d := d12) rfl))
      (a_Drw := HdK.nsg (c.d.fact 7 (f := .glo "_law_draw") rfl))
      (E_Drw := HdK.fun0 (c.d.def_ 13 (d := d13) rfl))
      (a_Pik := HdK.nsg (c.d.fact 8 (f := .glo "_law_pick") rfl))
      (E_Pik := HdK.fun0 (c.d.def_ 14 (d := d14) rfl))
      (a_Key := HdK.nsg (c.d.fact 9 (f := .glo "_law_key") rfl))
      (E_Key := HdK.fun0 (c.d.def_ 15 (d := d15) rfl))
      (a_Way := HdK.nsg (c.d.fact 10 (f := .glo "_law_way") rfl))
      (E_Way := HdK.fun0 (c.d.def_ 16 (d := d16) rfl))
      (a_Wri := HdK.nsg (c.d.fact 11 (f := .glo "_law_written") rfl))
      (E_Wri := HdK.fun0 (c.d.def_ 17 (d := d17) rfl))
      (a_Ken := HdK.nsg (c.d.fact 12 (f := .glo "_law_key_end") rfl))
      (E_Ken := HdK.fun0 (c.d.def_ 18 (d := d18) rfl))
      (a_Plc := HdK.nsg (c.d.fact 13 (f := .glo "_law_place_end") rfl))
      (E_Plc := HdK.fun0 (c.d.def_ 19 (d := d19) rfl))
      (a_Due := HdK.nsg (c.d.fact 14 (f := .glo "_law_due") rfl))
      (E_Due := HdK.fun0 (c.d.def_ 20 (d := d20) rfl))
      (a_Sai := HdK.nsg (c.d.fact 15 (f := .glo "_law_said") rfl))
      (E_Sai := HdK.fun0 (c.d.def_ 21 (d := d21) rfl))
      (a_Bnt := HdK.nsg (c.d.fact 16 (f := .glo "_law_bent") rfl))
      (E_Bnt := HdK.fun0 (c.d.def_ 22 (d := d22) rfl))
      (a_Rgt := HdK.nsg (c.d.fact 17 (f := .glo "_law_right") rfl))
      (E_Rgt := HdK.fun0 (c.d.def_ 23 (d := d23) rfl))
      (a_Law := HdK.nsg (c.d.fact 18 (f := .glo "law") rfl))
      (E_Law := HdK.fun0 (c.d.def_ 24 (d := d24) rfl))
      (z_len := HdK.nsf (c.d.fact 19 (f := .free "len") rfl))
      (z_isinstance := HdK.nsf (c.d.fact 20 (f := .free "isinstance") rfl))
      (z_str := HdK.nsf (c.d.fact 21 (f := .free "str") rfl))
      (z_int := HdK.nsf (c.d.fact 22 (f := .free "int") rfl))
      (z_abs := HdK.nsf (c.d.fact 23 (f := .free "abs") rfl))
      (z_range := HdK.nsf (c.d.fact 24 (f := .free "range") rfl))
      (z_list := HdK.nsf (c.d.fact 25 (f := .free "list") rfl))
      (z_tuple := HdK.nsf (c.d.fact 26 (f := .free "tuple") rfl))
      (z_min := HdK.nsf (c.d.fact 27 (f := .free "min") rfl))
      (z_repr := HdK.nsf (c.d.fact 28 (f := .free "repr") rfl))
      (q_MOST_FIGURES := HdK.nsi (c.d.fact 29 (f := .int "MOST_FIGURES" 20) rfl))
      (q_FIGURES := HdK.nss (c.d.fact 30 (f := .str "FIGURES" "0123456789") rfl))
end HeadS
open PySem PySem.W PySem.Calls PyProof.Rows
theorem PySem.Challenge.cw_nestfile_k75_paths_as_texts_holds : PySem.Challenge.rw_nestfile_k75_paths_as_texts.Holds := by
  w_on; o_law
  refine HandSHeadRun.head_any (r := OpenLaw.row PySem.Challenge.rw_nestfile_k75_paths_as_texts) (q := view (OpenLaw.row PySem.Challenge.rw_nestfile_k75_paths_as_texts).prog [24]) (H := HeadS.hk) (ob := HeadS.ob) (M := 20000) (loose := HeadS.nms) (d := HandSHeadRun.topDef (OpenLaw.row PySem.Challenge.rw_nestfile_k75_paths_as_texts).prog 24) (kwd := []) HeadS.ob_eq
    (by kernel_rfl) (fun s => by kernel_rfl) HeadS.run (by kernel_rfl) (by kernel_rfl) (by kernel_rfl) (by rfl) (by first | assumption | decide +kernel) (by decide +kernel) ⟨rfl, rfl, rfl, rfl, rfl, by decide +kernel⟩ ?hw ?hc
  case hw => w_witness2
  case hc =>
    refine G58.walk_GE (l := PySem.Challenge.rw_nestfile_k75_paths_as_texts) (n := 63) (k := 9) (x := "_law_script") rfl (by decide) (by kernel_rfl) ⟨rfl, by decide, by decide⟩ ?F
    intro w mg fa h Y G hmg0
    obtain ⟨K, KX, c⟩ := Y
    have hmg : mg ("law" : PySem.Str) = some (.ref fa) := by
      have e : (HandSHeadRun.topDef (OpenLaw.row PySem.Challenge.rw_nestfile_k75_paths_as_texts).prog 24).name = ("law" : PySem.Str) := by kernel_rfl
      rw [← e]
      exact hmg0
    exact ⟨K, KX, HeadS.facts KX G hmg c⟩
#print axioms PySem.Challenge.cw_nestfile_k75_paths_as_texts_holds
