import PyProof.Rows.All
import Wide.All
import OpenK.AllK
import Wide.FinOn
import KE.GoesNew
import HandS.ForMost
import HandS.ForExc
import HandS.Walk
import HandS.IsInst
import HandS.Lambda
import HandS.EndTab
import HandS.ExcInit
import HandS.ExcField
import HandS.StrMore
import HandS.Zip
import HandS.DictTup
import KE.KeyNested
import KE.KDictKeyed
import HandS.Style
import HandS.Conv
import HandS.TupAny
import PyProof.ReprRoads
import PyProof.ReprLen
import KE.KExcIs
import HandS.ExcBuiltin
import HandS.Defaults
import HandS.MakeKw
import HandS.ExcValue
import HandS.ExcIs
import HandS.TupMul
import KE.RegKIsAll
import PySem.Challenge.RW_nestfile_k05_errors
set_option Elab.async false
set_option linter.all false
set_option maxRecDepth 100000
set_option maxHeartbeats 4000000
/-! Rules of my own beside the hand layer: pairs handed out by enumerate and zip over tuples and texts; a text's slice with a step; a try with several clauses, some with a name. -/
namespace G58
open PySem PySem.Spec PyProof.Rows L2

/-! ### new pairs, handed out one by one -/
/-- n pairs while g stands; the i-th one is told by yv -/
def ItP (n : Nat) (g : Hp → Prop) (yv : Nat → V → V → Prop) : It where
  go := fun i H => i < n ∧ g H
  yld := fun i H v H' => ∃ T x y, v = .ref T ∧ H T = none ∧ H' = upd H T (.tup [x, y]) ∧ yv i x y
  stop := fun i H => i = n ∧ g H
theorem walkP {n : Nat} {g : Hp → Prop} {yv : Nat → V → V → Prop} :
    Walk (ItP n g yv) n g (fun i H v H' => ∃ T x y, v = .ref T ∧ H T = none ∧ H' = upd H T (.tup [x, y]) ∧ yv i x y) :=
  ⟨fun _ _ hi q => ⟨hi, q⟩, fun _ q => ⟨rfl, q⟩, fun _ _ _ _ _ _ y => y⟩
/-- what an iterator of pairs owes in a context -/
def PairsIn (X : Cx) (tg : Expr) (I : Addr) (fpA : List Addr) (n : Nat) (yv : Nat → V → V → Prop) (tn : Nat → Heap → Prop) (h0 : Heap) : Prop :=
  ∃ (fp wr : List Addr) (Y : Nat → Heap → Value → Heap → Prop) (St : Nat → Heap → Prop),
    GoesN X.prog X.w X.A tg I fp wr n Y St ∧ (∀ b ∈ wr, b ∈ fpA) ∧ (∀ i, tn i h0 → St i h0) ∧ (∀ i h, St i h → tn i h) ∧
    ∀ i ha v hb, Y i ha v hb → ∃ (T : Addr) (x y : V) (u1 u2 : Value), v = .ref T ∧ ha.objs.size ≤ T ∧ RelV x u1 ∧ RelV y u2 ∧ yv i x y ∧ hb.IsTuple T #[u1, u2]
theorem turnP {P : Program} {w : World} {K : PySem.W.Frag} {tg : Expr} {I : Addr} {fpA : List Addr} {n : Nat} {g : Hp → Prop} {yv : Nat → V → V → Prop} {tn : Nat → Heap → Prop}
    (mem : I ∈ fpA) (obj : ∀ i h, tn i h → ∀ b ∈ fpA, ∃ o, h.get? b = some o ∧ ∀ v, o.data ≠ .cell v)
    (keep : ∀ i h h', tn i h → (∀ b ∈ fpA, ∀ o, h.get? b = some o → h'.get? b = some o) → tn i h')
    (mk : ∀ (X : Cx), X.prog = P → X.w = w → X.K = K → X.calm = true → ∀ (i : Nat) (pins : List (Addr × Obj)) (s : Shared) (σ : L2.St) (H : Hp), Inv X pins σ H s → g H → tn i s.heap → PairsIn X tg I fpA n yv tn s.heap)
    (self : ∀ (A : Around) (i : Nat) (s : Shared) (Q : Value → Shared → Prop) (E : Value → Shared → Prop), tn i s.heap → Q (.ref I) s → wpAny (model P w) A (pyIter (.ref I)) Q E s) :
    Turn P w K tg (ItP n g yv) fpA I tn where
  mem := mem
  obj := obj
  keep := keep
  item := by
    intro X hP hw hK hc i pins s σ H E Iv hf st hg
    obtain ⟨fp, wr, Y, St, W, hwr, toS, ofS, hy⟩ := mk X hP hw hK hc i pins s σ H Iv hg.2 st
    subst hP hw hK
    refine W.goes i s _ E hg.1 (toS i st) fun v h' tk hY st' hk _ => ?_
    obtain ⟨T, x, y, u1, u2, ev, hT, r1, r2, hyv, htup⟩ := hy i _ v h' hY
    have new : ObjOk X.prog X.w (upd H T (.tup [x, y])) h' T (.tup [x, y]) := ⟨by show 2 ≤ sizeLine; decide, [u1, u2], .cons r1 (.cons r2 .nil), htup⟩
    have fpo : ∀ b ∈ wr, FpOk X pins H b := fun b hb => hf b (hwr b hb)
    refine ⟨.ref T, _, Iv.turnedNew (ch := wr) hk fpo hT new, ev, ⟨T, x, y, rfl, Iv.hok.fresh hT, rfl, hyv⟩, ofS _ _ st', fun b hb => ?_⟩
    obtain ⟨o, ho, _⟩ := obj i _ st b hb
    rw [upd_ne (Nat.ne_of_lt (Nat.lt_of_lt_of_le (Heap.lt_size ho) hT))]
    exact (hf b hb).1
  done := by
    intro X hP hw hK hc i pins s σ H E Iv hf st hg
    obtain ⟨fp, wr, Y, St, W, hwr, toS, ofS, hy⟩ := mk X hP hw hK hc i pins s σ H Iv hg.2 st
    subst hP hw hK
    obtain ⟨rfl, _⟩ := hg
    refine W.stops s _ E (toS i st) fun h' tk hk _ => ?_
    exact Iv.turnedL (ch := wr) hk fun b hb => hf b (hwr b hb)
  self := self
theorem pi_or {X : Cx} {tg it : Expr} {w1 w2 : TI} (h1 : PI X tg it w1) (h2 : PI X tg it w2) : PI X tg it (fun σ H R => w1 σ H R ∨ w2 σ H R) :=
  ⟨fun pins s σ H R Iv h => h.elim (h1.run pins s σ H R Iv) (h2.run pins s σ H R Iv)⟩

/-! ### enumerate(v), one argument, any v -/
set_option maxHeartbeats 1000000 in
theorem meets_enum1 {v : Value} {o : Obj} {G : Heap → Prop} (B : Begins v o G) :
    Meets (Builtin.«enumerate.__new__» ⟨[.type "enumerate", v], []⟩) (fun _ R s => G s.heap ∧
      R (.ok (.ret (.ref (s.heap.push o).objs.size))) { s with heap := (s.heap.push o).push { cls := .type "enumerate", data := .fields #[.none, .bool false, .ref s.heap.objs.size, rawInt 0, .none, .none] } }) :=
  .of_wp fun prog w A R s h => by
    obtain ⟨hp, gn, dr, tk, os⟩ := s
    obtain ⟨g1, h⟩ := h
    have hsub := sub_enumerate
    have go : ∀ {A' : Around} {E : Value → Shared → Prop} {Q : Value → Shared → Prop}, Q (.ref hp.objs.size) ⟨hp.push o, gn, dr, tk, os⟩ → wpAny (model prog w) A' (pyIter v) Q E ⟨hp, gn, dr, tk, os⟩ :=
      fun q => B.iter prog w _ _ ⟨hp, gn, dr, tk, os⟩ _ g1 q
    wp_walk using go
    refine wpAny_stack_any fun st => wpAny_pure ?_
    split
    · rename_i c _ _ _ _ _
      cases (c == Value.type "enumerate")
      all_goals
        wp_walk using go
        exact ⟨_, rfl, h⟩
    · wp_walk using go
      exact ⟨_, rfl, h⟩
theorem call_enum1 {prog : Program} {w : World} {A : Around} {E : Value → Shared → Prop} {s : Shared} {v : Value} {o : Obj} {G : Heap → Prop} {Q : Value → Shared → Prop} (B : Begins v o G) (g1 : G s.heap)
    (h : ∀ h', IsEnum h' (s.heap.objs.size + 1) s.heap.objs.size 0 .none → h'.get? s.heap.objs.size = some o → (∀ b u, s.heap.get? b = some u → h'.get? b = some u) → Q (.ref (s.heap.objs.size + 1)) { s with heap := h' }) :
    wpAny (model prog w) A (call (.type "enumerate") [v]) Q E s := by
  refine callType_new F.called_enumerate (by decide) (F.typeCall_enumerate_1 _) (F.newCall_enumerate_1 _) (fun obj => F.args_object_init_2 obj _) F.entry_enumerate_new (meets_enum1 B) ⟨g1, ?_⟩
  have hz : (s.heap.push o).objs.size = s.heap.objs.size + 1 := Heap.size_push ..
  show _ ∧ _
  rw [hz]
  have he : IsEnum ((s.heap.push o).push { cls := .type "enumerate", data := .fields #[.none, .bool false, .ref s.heap.objs.size, rawInt 0, .none, .none] }) (s.heap.objs.size + 1) s.heap.objs.size 0 .none := by
    have q := Heap.get?_push_size (s.heap.push o) (o := { cls := .type "enumerate", data := .fields #[.none, .bool false, .ref s.heap.objs.size, rawInt 0, .none, .none] }) rfl
    rw [hz] at q
    exact q
  exact ⟨⟨_, he, rfl⟩, h _ he (Heap.get?_push_of_some _ (Heap.get?_push_size _ B.free)) fun b u x => Heap.get?_push_of_some _ (Heap.get?_push_of_some _ x)⟩

/-! ### enumerate over a tuple -/
theorem turn_enumT {P : Program} {w : World} {K : PySem.W.Frag} {elts : List Expr} {kk : Nat} {tpos : Pos} {xs : List V} (a e it : Addr) :
    Turn P w K (.Tuple elts kk tpos) (ItP xs.length (fun H => SqT K H a xs) (fun i x y => x = .int (i : Nat) ∧ xs[i]? = some y)) [e, it] e
      (fun i h => (∃ old, IsEnum h e it (0 + (i : Int)) old) ∧ h.IsTupleIter it a i ∧ e ≠ it) := by
  refine turnP (by simp) (fun i h st b hb => ?_) (fun i h h' st k => ?_) (fun X hP hw hK hc i pins s σ H Iv hq st => ?_) (fun A i s Q E st q => ?_)
  · obtain ⟨⟨old, he⟩, ⟨o, ho, hc, hd⟩, _⟩ := st
    have z : b = e ∨ b = it := by simpa using hb
    rcases z with z | z
    · rw [z]; exact ⟨_, he, fun v q => nomatch q⟩
    · rw [z]; exact ⟨o, ho, fun v q => by rw [hd] at q; cases q⟩
  · obtain ⟨⟨old, he⟩, hi, hne⟩ := st
    exact ⟨⟨old, k e (by simp) _ he⟩, hi.at fun o q => k it (by simp) o q, hne⟩
  · subst hP hw hK
    obtain ⟨⟨old, he⟩, hit, hne⟩ := st
    obtain ⟨its, rv, p, hz⟩ := Iv.tuple hq
    have pT : s.heap.IsTuple a its.toArray := p
    have hlen := rv.length
    have n1 : a ≠ it := fun z => by
      obtain ⟨o, ho, hcl, _⟩ := hit
      obtain ⟨o', ho', hcl', _⟩ := pT
      rw [z, ho] at ho'
      cases ho'
      rw [hcl] at hcl'
      exact absurd (Value.type.inj hcl') (by decide)
    have n2 : e ≠ a := fun z => by
      obtain ⟨o', ho', hcl', _⟩ := pT
      have he' : s.heap.get? e = some _ := he
      rw [z, ho'] at he'
      cases he'
      exact absurd (Value.type.inj hcl') (by decide)
    have D : Draws X.prog X.w X.A.in1 it [it, a] its.toArray.size (fun i v => its.toArray[i]? = some v) (fun i h => h.IsTupleIter it a i ∧ h.IsTuple a its.toArray) := Draws.tuple (A := X.A.in1) (show X.A.in1.handled = none from Iv.ok.hd hc) it a n1 its.toArray
    have W := GoesN.enumFrom (elts := elts) (x1 := kk) (pos := tpos) 0 D e hne (fun z => by
      rcases List.mem_cons.mp z with q | q
      · exact hne q
      · exact n2 (List.mem_singleton.mp q)) (by simp)
    have en : its.toArray.size = xs.length := by rw [List.size_toArray]; exact hlen.symm
    rw [en] at W
    refine ⟨_, _, _, _, W, fun b hb => hb, fun j q => ?_, fun j h q => ?_, fun j ha v hb q => ?_⟩
    · exact ⟨q.1, q.2.1, pT⟩
    · exact ⟨q.1, q.2.1, hne⟩
    · obtain ⟨T, t, u, ev, hT, hu, htup⟩ := q
      have hl : j < xs.length := by
        have z := (Array.getElem?_eq_some_iff.mp hu).1
        rw [en] at z
        exact z
      obtain ⟨u', hu', ru⟩ := rv.get (x := xs[j]) (i := j) (by simp [hl])
      have eu : u' = u := by
        have z : its.toArray[j]? = some u' := by simpa using hu'
        rw [z] at hu
        exact Option.some.inj hu
      subst eu
      refine ⟨T, .int (j : Nat), xs[j], .int (0 + (j : Int)) t, u', ev, hT, ⟨t, ?_⟩, ru, ⟨rfl, by simp [hl]⟩, htup⟩
      rw [Int.zero_add]
  · obtain ⟨⟨old, he⟩, _⟩ := st
    exact wpAny_pyIter_enum he q
/-- for i, x in enumerate(t), t a tuple -/
def iEnumT (K : PySem.W.Frag) (ta : TA) : TI := fun σ H R => ta σ H fun vs H1 => ∃ a xs, vs = [.ref a] ∧ SqT K H1 a xs ∧ R (ItP xs.length (fun H => SqT K H a xs) (fun i x y => x = .int (i : Nat) ∧ xs[i]? = some y)) H1
theorem pi_enumT {X : Cx} {e : Expr} {ta : TA} {p pos tpos : Pos} {elts : List Expr} {kk : Nat} (hg : Gl X "enumerate") (hm : X.mg "enumerate" = none) (ha : PA X [e] ta)
    (hs : starEach [e] X.env = [(false, eval e X.env)] := by rfl) : PI X (.Tuple elts kk tpos) (.Call (.Name "enumerate" p) [e] [] pos) (iEnumT X.K ta) := by
  refine ⟨fun pins s σ H R Iv h => ?_⟩
  refine Call_ (ld_blt Iv hg hm boot_enumerate (PyProof.Rows.callWith_type1 (thn (ha.run pos pins s σ H _ Iv h) fun us s1 ⟨vs, H1, I1, r1, q1⟩ => ?_) hs rfl))
  obtain ⟨a, xs, ex, hq, q⟩ := q1
  subst ex
  obtain ⟨u, rfl, ru⟩ := vals1 r1
  obtain rfl : u = Value.ref a := ru
  obtain ⟨its, rv, p', hz⟩ := I1.tuple hq
  have pT : s1.heap.IsTuple a its.toArray := p'
  refine call_enum1 (begins_tuple a its.toArray) pT fun h' he hit hk => wpAny_pyIter_enum he ?_
  have I2 : Inv X pins σ H1 { s1 with heap := h' } := I1.kept (t' := s1.toks) hk
  refine ⟨s1.heap.objs.size + 1, [s1.heap.objs.size + 1, s1.heap.objs.size], _, _, H1, rfl, I2, turn_enumT a (s1.heap.objs.size + 1) s1.heap.objs.size, ⟨⟨.none, he⟩, ⟨_, hit, rfl, rfl⟩, Nat.succ_ne_self _⟩, fun b hb => ?_, q⟩
  have z : b = s1.heap.objs.size + 1 ∨ b = s1.heap.objs.size := by simpa using hb
  have hle : s1.heap.objs.size ≤ b := by
    rcases z with z | z <;> rw [z]
    · exact Nat.le_add_right _ _
    · exact Nat.le_refl _
  exact I1.fpOk hle (I1.hok.fresh hle)

/-! ### enumerate over a text -/
/-- the text of one sign -/
abbrev sgn (c : Nat) : Str := ⟨#[c]⟩
theorem turn_enumS {P : Program} {w : World} {K : PySem.W.Frag} {elts : List Expr} {kk : Nat} {tpos : Pos} (z : Str) (t : Tok) (e it : Addr) :
    Turn P w K (.Tuple elts kk tpos) (ItP z.cps.size (fun _ => True) (fun i x y => x = .int (i : Nat) ∧ ∃ c, z.cps[i]? = some c ∧ y = .str (sgn c))) [e, it] e
      (fun i h => (∃ old, IsEnum h e it (0 + (i : Int)) old) ∧ h.IsStrIter it (strIterType z) z t i ∧ e ≠ it) := by
  refine turnP (by simp) (fun i h st b hb => ?_) (fun i h h' st k => ?_) (fun X hP hw hK hc i pins s σ H Iv hq st => ?_) (fun A i s Q E st q => ?_)
  · obtain ⟨⟨old, he⟩, ⟨o, ho, hc, hd⟩, _⟩ := st
    have y : b = e ∨ b = it := by simpa using hb
    rcases y with y | y
    · rw [y]; exact ⟨_, he, fun v q => nomatch q⟩
    · rw [y]; exact ⟨o, ho, fun v q => by rw [hd] at q; cases q⟩
  · obtain ⟨⟨old, he⟩, ⟨o, ho, r⟩, hne⟩ := st
    exact ⟨⟨old, k e (by simp) _ he⟩, ⟨o, k it (by simp) o ho, r⟩, hne⟩
  · subst hP hw hK
    obtain ⟨⟨old, he⟩, hit, hne⟩ := st
    have D := Draws.text (prog := X.prog) (w := X.w) (A := X.A.in1) (Iv.ok.hd hc) it z t
    have W := GoesN.enumFrom (elts := elts) (x1 := kk) (pos := tpos) 0 D e hne (fun y => hne (List.mem_singleton.mp y)) (by simp)
    refine ⟨_, _, _, _, W, fun b hb => hb, fun j q => ⟨q.1, q.2.1⟩, fun j h q => ⟨q.1, q.2, hne⟩, fun j ha v hb q => ?_⟩
    obtain ⟨T, tk, u, ev, hT, ⟨c, tc, hc', rfl⟩, htup⟩ := q
    refine ⟨T, .int (j : Nat), .str (sgn c), .int (0 + (j : Int)) tk, .str ⟨#[c]⟩ tc, ev, hT, ⟨tk, ?_⟩, ⟨tc, rfl⟩, ⟨rfl, c, hc', rfl⟩, htup⟩
    rw [Int.zero_add]
  · obtain ⟨⟨old, he⟩, _⟩ := st
    exact wpAny_pyIter_enum he q
def iEnumS (ta : TA) : TI := fun σ H R => ta σ H fun vs H1 => ∃ z : Str, vs = [.str z] ∧ R (ItP z.cps.size (fun _ => True) (fun i x y => x = .int (i : Nat) ∧ ∃ c, z.cps[i]? = some c ∧ y = .str (sgn c))) H1
theorem pi_enumS {X : Cx} {e : Expr} {ta : TA} {p pos tpos : Pos} {elts : List Expr} {kk : Nat} (hg : Gl X "enumerate") (hm : X.mg "enumerate" = none) (ha : PA X [e] ta)
    (hs : starEach [e] X.env = [(false, eval e X.env)] := by rfl) : PI X (.Tuple elts kk tpos) (.Call (.Name "enumerate" p) [e] [] pos) (iEnumS ta) := by
  refine ⟨fun pins s σ H R Iv h => ?_⟩
  refine Call_ (ld_blt Iv hg hm boot_enumerate (PyProof.Rows.callWith_type1 (thn (ha.run pos pins s σ H _ Iv h) fun us s1 ⟨vs, H1, I1, r1, q1⟩ => ?_) hs rfl))
  obtain ⟨z, ex, q⟩ := q1
  subst ex
  obtain ⟨u, rfl, ru⟩ := vals1 r1
  obtain ⟨t, rfl⟩ := ru
  refine call_enum1 (begins_text z t) True.intro fun h' he hit hk => wpAny_pyIter_enum he ?_
  have I2 : Inv X pins σ H1 { s1 with heap := h' } := I1.kept (t' := s1.toks) hk
  refine ⟨s1.heap.objs.size + 1, [s1.heap.objs.size + 1, s1.heap.objs.size], _, _, H1, rfl, I2, turn_enumS z t (s1.heap.objs.size + 1) s1.heap.objs.size, ⟨⟨.none, he⟩, ⟨_, hit, rfl, rfl⟩, Nat.succ_ne_self _⟩, fun b hb => ?_, q⟩
  have y : b = s1.heap.objs.size + 1 ∨ b = s1.heap.objs.size := by simpa using hb
  have hle : s1.heap.objs.size ≤ b := by
    rcases y with y | y <;> rw [y]
    · exact Nat.le_add_right _ _
    · exact Nat.le_refl _
  exact I1.fpOk hle (I1.hok.fresh hle)

/-! ### zip of two texts -/
def zipY (y z : Str) : Nat → V → V → Prop := fun i u v => ∃ c d, y.cps[i]? = some c ∧ z.cps[i]? = some d ∧ u = .str (sgn c) ∧ v = .str (sgn d)
theorem turn_zipS {P : Program} {w : World} {K : PySem.W.Frag} {elts : List Expr} {kk : Nat} {tpos : Pos} (y z : Str) (t1 t2 : Tok) (N : Nat) :
    Turn P w K (.Tuple elts kk tpos) (ItP (min y.cps.size z.cps.size) (fun _ => True) (zipY y z)) [N + 4, N + 2, N + 3, N, N + 1] (N + 4)
      (fun i h => IsZip h (N + 4) (N + 2) (N + 3) .none ∧ IsTupOf2 h (N + 2) (.ref N) (.ref (N + 1)) ∧ (∃ a1 a2, IsTupOf2 h (N + 3) a1 a2) ∧ h.IsStrIter N (strIterType y) y t1 i ∧ h.IsStrIter (N + 1) (strIterType z) z t2 i) := by
  refine turnP (by simp) (fun i h st b hb => ?_) (fun i h h' st k => ?_) (fun X hP hw hK hc i pins s σ H Iv hq st => ?_) (fun A i s Q E st q => wpAny_pyIter_zip st.1 q)
  · obtain ⟨hz, hTI, ⟨a1, a2, hTO⟩, ⟨o1, e1, _, d1⟩, ⟨o2, e2, _, d2⟩⟩ := st
    have m : b = N + 4 ∨ b = N + 2 ∨ b = N + 3 ∨ b = N ∨ b = N + 1 := by simpa using hb
    rcases m with m | m | m | m | m <;> rw [m]
    · exact ⟨_, hz, fun v q => nomatch q⟩
    · exact ⟨_, hTI, fun v q => nomatch q⟩
    · exact ⟨_, hTO, fun v q => nomatch q⟩
    · exact ⟨o1, e1, fun v q => by rw [d1] at q; cases q⟩
    · exact ⟨o2, e2, fun v q => by rw [d2] at q; cases q⟩
  · obtain ⟨hz, hTI, ⟨a1, a2, hTO⟩, ⟨o1, e1, r1⟩, ⟨o2, e2, r2⟩⟩ := st
    exact ⟨k _ (by simp) _ hz, k _ (by simp) _ hTI, ⟨a1, a2, k _ (by simp) _ hTO⟩, ⟨o1, k _ (by simp) _ e1, r1⟩, ⟨o2, k _ (by simp) _ e2, r2⟩⟩
  · subst hP hw hK
    have D1 := Draws.text (prog := X.prog) (w := X.w) (A := X.A.in1) (Iv.ok.hd hc) N y t1
    have D2 := Draws.text (prog := X.prog) (w := X.w) (A := X.A.in1) (Iv.ok.hd hc) (N + 1) z t2
    have S : ZipSep2 (N + 4) (N + 2) (N + 3) N (N + 1) [N] [N + 1] := zip_sep2 (fp1 := []) (fp2 := []) (fun b hb => nomatch hb) (fun b hb => nomatch hb)
    have W := GoesN.zip2 (elts := elts) (x1 := kk) (pos := tpos) S D1 D2
    refine ⟨_, _, _, _, W, fun b hb => ?_, fun j q => q, fun j h q => q, fun j ha v hb q => ?_⟩
    · have m : b = N + 4 ∨ b = N + 3 ∨ b = N ∨ b = N + 1 := by simpa using hb
      rcases m with m | m | m | m <;> simp [m]
    · obtain ⟨T, u, u', ev, hT, ⟨c, tc, hc1, rfl⟩, ⟨d, td, hd1, rfl⟩, htup⟩ := q
      exact ⟨T, .str (sgn c), .str (sgn d), .str ⟨#[c]⟩ tc, .str ⟨#[d]⟩ td, ev, hT, ⟨tc, rfl⟩, ⟨td, rfl⟩, ⟨c, d, hc1, hd1, rfl, rfl⟩, htup⟩
def iZipS (ta : TA) : TI := fun σ H R => ta σ H fun vs H1 => ∃ y z : Str, vs = [.str y, .str z] ∧ R (ItP (min y.cps.size z.cps.size) (fun _ => True) (zipY y z)) H1
theorem pi_zipS {X : Cx} {e e2 : Expr} {ta : TA} {p pos tpos : Pos} {elts : List Expr} {kk : Nat} (hg : Gl X "zip") (hm : X.mg "zip" = none) (ha : PA X [e, e2] ta)
    (hs : starEach [e, e2] X.env = (false, eval e X.env) :: starEach [e2] X.env := by rfl) (hpl : (backTo pos (starEach [e2] X.env)).any (·.1) = false := by rfl) :
    PI X (.Tuple elts kk tpos) (.Call (.Name "zip" p) [e, e2] [] pos) (iZipS ta) := by
  refine ⟨fun pins s σ H R Iv h => ?_⟩
  refine Call_ (ld_blt Iv hg hm PyProof.Rows.boot_zip (PyProof.Rows.callWith_type1 (thn (ha.run pos pins s σ H _ Iv h) fun us s1 ⟨vs, H1, I1, r1, q1⟩ => ?_) hs hpl))
  obtain ⟨y, z, ex, q⟩ := q1
  subst ex
  obtain ⟨u1, u2, rfl, ru1, ru2⟩ := vals2 r1
  obtain ⟨t1, rfl⟩ := ru1
  obtain ⟨t2, rfl⟩ := ru2
  refine zip_begins2 (begins_text y t1) (begins_text z t2) True.intro True.intro fun h' hz hTI hTO h1 h2 _ hk => wpAny_pyIter_zip hz ?_
  have I2 : Inv X pins σ H1 { s1 with heap := h' } := I1.kept (t' := s1.toks) hk
  refine ⟨s1.heap.objs.size + 4, [s1.heap.objs.size + 4, s1.heap.objs.size + 2, s1.heap.objs.size + 3, s1.heap.objs.size, s1.heap.objs.size + 1], _, _, H1, rfl, I2, turn_zipS y z t1 t2 s1.heap.objs.size,
    ⟨hz, hTI, ⟨_, _, hTO⟩, ⟨_, h1, rfl, rfl⟩, ⟨_, h2, rfl, rfl⟩⟩, fun b hb => ?_, q⟩
  have m : b = s1.heap.objs.size + 4 ∨ b = s1.heap.objs.size + 2 ∨ b = s1.heap.objs.size + 3 ∨ b = s1.heap.objs.size ∨ b = s1.heap.objs.size + 1 := by simpa using hb
  have hle : s1.heap.objs.size ≤ b := by
    rcases m with m | m | m | m | m <;> rw [m] <;> first | exact Nat.le_refl _ | exact Nat.le_add_right _ _
  exact I1.fpOk hle (I1.hok.fresh hle)

/-! ### a text's slice with a step -/
def stepS (z : Str) (lo hi : Option Int) (k : Int) : Str := ⟨((Builtin.Str.strSliceIndices lo hi k z.length).filterMap (z.cps[·]?)).toArray⟩
def tStepS (te : TE) (tl th ts : TO) : TE := fun σ H Q => te σ H fun x H1 => tl σ H1 fun l H2 => th σ H2 fun u H3 => ts σ H3 fun st H4 =>
  ∃ (z : Str) (k : Int), x = .str z ∧ st = some k ∧ k ≠ 0 ∧ k ≠ 1 ∧ (stepS z l u k).length ≤ sizeLine ∧ Q (.str (stepS z l u k)) H4
theorem pe_stepS {X : Cx} {e st : Expr} {lo hi : Option Expr} {te : TE} {tl th ts : TO} {p2 pos : Pos} (he : PE X e te) (hl : PO X lo tl) (hu : PO X hi th) (hst : PO X (some st) ts) :
    PE X (.Subscript e (.Slice lo hi (some st) p2) pos) (tStepS te tl th ts) := by
  refine ⟨fun pins s σ H Q Iv h => ?_⟩
  refine Subscript_ (thn (he.run pins s σ H _ Iv h) fun v s1 ⟨x, H1, I1, r1, q1⟩ => ?_)
  refine wpAny_Slice (thn (hl.run pins s1 σ H1 _ I1 q1) fun vl s2 ⟨l, H2, I2, pl, q2⟩ => thn (hu.run pins s2 σ H2 _ I2 q2) fun vu s3 ⟨u, H3, I3, pu, q3⟩ =>
    thn (hst.run pins s3 σ H3 _ I3 q3) fun vs s4 ⟨o, H4, I4, ps, z, k, ex, eo, k0, k1, hsz, q⟩ => ?_)
  subst ex eo
  obtain ⟨t, rfl⟩ := r1
  obtain ⟨l', rfl, rfl⟩ := IsPart.raw pl
  obtain ⟨u', rfl, rfl⟩ := IsPart.raw pu
  cases ps with
  | int _ tk =>
    have I5 : Inv X pins σ H4 { s4 with heap := s4.heap.push { cls := .type "slice", data := .fields #[partValue l', partValue u', .int k tk] } } := I4.kept (t' := s4.toks) fun b ob q => Heap.get?_push_of_some _ q
    show wpAny (model X.prog X.w) X.A (subscriptTail e (.Slice lo hi (some st) p2) (.str z t) (.ref s4.heap.objs.size)) (EP X pins σ Q) X.xe { s4 with heap := s4.heap.push { cls := .type "slice", data := .fields #[partValue l', partValue u', .int k tk] } }
    refine tail_any (ops := [.str z t, .ref s4.heap.objs.size]) (typeIs_str _ _ _) F.slot_str_getitem.lookup ?_ (by with_unfolding_all rfl)
    have hk0 : (((some (k, tk) : Option (Int × Tok)).map (·.1)).getD 1 == 0) = false := by
      show (k == 0) = false
      simpa using k0
    refine wpAny_getItem_str_slice (l := l') (u := u') (st := some (k, tk)) ⟨_, Heap.get?_push_size _ rfl, rfl, rfl⟩ hk0 ?_
    have hk1 : (k == 1) = false := by simpa using k1
    show Made.post (if ((k : Int) == 1 && (Builtin.Str.strSliceIndices (l'.map (·.1)) (u'.map (·.1)) k z.length).length == z.length) = true then Made.val (.str z t)
      else Made.str ⟨((Builtin.Str.strSliceIndices (l'.map (·.1)) (u'.map (·.1)) k z.length).filterMap (z.cps[·]?)).toArray⟩) (EP X pins σ Q) _
    rw [hk1, Bool.false_and, if_neg Bool.false_ne_true]
    exact ⟨hsz, .str _, H4, I5.tok _, ⟨_, rfl⟩, q⟩
end G58

set_option Elab.async false
set_option linter.all false
set_option maxRecDepth 100000
set_option maxHeartbeats 4000000
/-! A try with several clauses, with or without a name. -/
namespace G58
open PySem PySem.Spec PyProof.Rows L2
/-- a clause: its class, the slot of its name if it has one, what its suite reads as -/
structure Clause where
  cls : Value
  slot : Option Nat
  ts : Addr → Value → Option Addr → TS
/-- behind a suite its name is gone -/
def unset (i : Nat) (D : Ends) : Ends :=
  ⟨fun s' H' => D.nx (s'.set i none) H', D.rt, fun s' H' => D.bk (s'.set i none) H', fun s' H' => D.ct (s'.set i none) H'⟩
def Clause.does (cl : Clause) (D : Ends) (a : Addr) (k : Value) (d : Option Addr) (st : L2.St) (H : Hp) : Prop :=
  match cl.slot with
  | none => cl.ts a k d D st H
  | some i => i < st.length → cl.ts a k d (unset i D) (st.set i (some (.ref a))) H
/-- what the clauses wish, from the first on -/
def wMix (K : PySem.W.Frag) (Wout : WX) (D : Ends) : List Clause → WX
  | [] => Wout
  | cl :: r => fun k d st H => ∃ b, PySem.W.exmOne K k cl.cls = some b ∧ (b = true → ∀ a, H a = none → cl.does D a k d st H) ∧ (b = false → wMix K Wout D r k d st H)
/-- the suite of a clause -/
def SuiteOk (X : Cx) (body : List Stmt) (ts : Addr → Value → Option Addr → TS) : Prop :=
  ∀ (a : Addr) (oe : Obj) (k : Value) (d : Option Addr) (pn : List (Addr × Obj)), Zc k d oe → (∃ vs, oe.data = .fields vs) → PSs (X.suite a ((a, oe) :: pn)) body (ts a k d)
inductive MixOk (X : Cx) : List ExceptHandler → List Clause → Prop
  | nil : MixOk X [] []
  | bare {x : Str} {c : Value} {ts : Addr → Value → Option Addr → TS} {b0 : Stmt} {suite : List Stmt} {np hp : Pos} {hds : List ExceptHandler} {l : List Clause}
      (hc : Names X x c) (hsu : SuiteOk X (b0 :: suite) ts) (r : MixOk X hds l) : MixOk X (.ExceptHandler (some (.Name x np)) none (b0 :: suite) hp :: hds) (⟨c, none, ts⟩ :: l)
  | named {x n : Str} {i : Nat} {c : Value} {ts : Addr → Value → Option Addr → TS} {b0 : Stmt} {suite : List Stmt} {np hp : Pos} {hds : List ExceptHandler} {l : List Clause}
      (hN : X.N.Nodup) (hi : X.N[i]? = some n) (hln : X.env.kindOf n = some .local)
      (hc : Names X x c) (hsu : SuiteOk X (b0 :: suite) ts) (r : MixOk X hds l) : MixOk X (.ExceptHandler (some (.Name x np)) (some n) (b0 :: suite) hp :: hds) (⟨c, some i, ts⟩ :: l)
section
variable {X : Cx} {body : List Stmt} {h0 : ExceptHandler} {hds : List ExceptHandler} {l : List Clause} {pos : Pos} {tb : WX → TS} {Wout : WX}
theorem name_in_suite {a : Addr} {oe : Obj} {pins : List (Addr × Obj)} {st : L2.St} {H : Hp} {s : Shared} {x : Str} {c : Value} {np : Pos} (S : Inv (X.suite a ((a, oe) :: (X.pn ++ pins))) [] st H s) (hc : Names X x c)
    {Q : Value → Shared → Prop} {E : Value → Shared → Prop} (q : Q c s) : wpAny (model X.prog X.w) (X.A.mark (some (.ref a))) (eval (.Name x np) X.env) Q E s := by
  obtain ⟨hg, hdb, hm | ⟨hm, hv, hnn⟩⟩ := hc
  · exact ld_glob (X := X.suite a ((a, oe) :: (X.pn ++ pins))) S hg hm q hdb
  · exact ld_blt (X := X.suite a ((a, oe) :: (X.pn ++ pins))) S hg hm hv q hnn hdb
theorem ps_try_mix (hs : X.stack = X.env :: X.outer) (hf : X.env.frame = some X.env.locals) (tk : Takes X Wout)
    (hb : ∀ (W : WX) (pn : List (Addr × Obj)) (xe : Value → Shared → Prop), Takes (X.tr pn xe) W → PassesOwn (model X.prog X.w) X.A X.env xe → PSs (X.tr pn xe) body (tb W))
    (hh : MixOk X (h0 :: hds) l) : PS X (.Try body (h0 :: hds) [] [] pos) (fun D st H => tb (wMix X.K Wout D l) D st H) := by
  refine ⟨fun pins s st H D Iv h => ?_⟩
  have ok := Iv.ok
  have hfr : X.A.frames = some (X.env :: X.outer) := ok.frames.trans (congrArg some hs)
  refine wpAny_Try_except ?_
  let catcher : Value → Shared → Prop := fun e s1 => wpAny (model X.prog X.w) X.A (noteFrame e X.env) (fun _ s2 => wpAny (model X.prog X.w) X.A (setFlight e none)
    (fun _ s3 => wpAny (model X.prog X.w) X.A (handleBy e X.env (h0 :: hds)) (SP X pins D) X.xe s3) X.xe s2) X.xe s1
  have takes : Takes (X.tr (X.pn ++ pins) catcher) (wMix X.K Wout D l) := by
    intro u s' xx
    obtain ⟨a, B, sI, pins', st', H', k, d, rfl, J', nb, up, sky, na, os, ag, w⟩ := xx
    have J : Inv X pins st' H' sI := J'.ofTry ok
    have sky' : Sky B (X.env :: X.outer) a (Zc k d) X.env.locals s'.heap := by
      have z : Sky B X.stack a (Zc k d) X.env.locals s'.heap := sky
      rw [hs] at z
      exact z
    refine Sky.land Zc.steady hfr hf sky' fun h3 fl3 up3 => ?_
    have J3 : Inv X pins st' H' { s' with heap := h3 } := J.landed nb fl3.1 (up.trans up3) os ag
    obtain ⟨oe3, vs3, he3, hz3, hd3⟩ := fl3.there
    have apart : a ∉ frs (X.env :: X.outer) := fun hm => by
      obtain ⟨_, o', e', hnf⟩ := fl3.2.2.1.mem hm
      rw [he3] at e'
      cases e'
      exact hnf _ hd3
    have nL : a ≠ X.env.locals := fun z => apart (List.mem_filterMap.mpr ⟨X.env, List.mem_cons_self, by rw [hf, z]⟩)
    have nF : a ∉ X.fs := fun hm => by
      obtain ⟨e, he, q⟩ := List.mem_filterMap.mp hm
      exact apart (List.mem_filterMap.mpr ⟨e, List.mem_cons_of_mem _ he, q⟩)
    have S3 := J3.suite he3 hd3 na nL nF
    have ofType : PySem.W.Looks (model X.prog X.w) h3 (typeOf (.ref a)) k := fun A Q E s kk q => wpAny_typeOf_ref (kk _ _ he3) (by rw [hz3.1]; exact q)
    have go : ∀ {hds' : List ExceptHandler} {l' : List Clause}, MixOk X hds' l' → wMix X.K Wout D l' k d st' H' →
        wpAny (model X.prog X.w) X.A (handleBy (.ref a) X.env hds') (SP X pins D) X.xe { s' with heap := h3 } := by
      intro hds' l' hk
      induction hk with
      | nil =>
        intro w
        refine wpAny_handleBy_nil ?_
        obtain ⟨k1, k2, k3, oe, vs, T, oT, ts', he, hz, hd, hv1, hr⟩ := id fl3
        unfold PySem.passOn
        refine wpAny_bind (wpAny_field he hd hv1 ?_)
        rw [if_neg (show ¬ ((Value.ref T == Value.none) = true) from by simp)]
        have fin : wpAny (model X.prog X.w) X.A (setFlight (.ref a) X.env.frame) (fun _ s4 => wpAny (model X.prog X.w) X.A (throw (.ref a) : Sem Flow) (SP X pins D) X.xe s4) X.xe { s' with heap := h3 } := by
          rw [hf]
          refine HandSPX.setFlight_upZ fl3 fun h4 hh4 up4 => wpAny_throw (tk _ _ ?_)
          exact ⟨a, B, sI, pins, st', H', k, d, rfl, J, nb, (up.trans up3).trans up4, .inr (.inr (by rw [hs]; exact hh4)), na, os, ag, w⟩
        first
          | exact wpAny_bind (wpAny_pure (wpAny_bind fin))
          | exact wpAny_bind fin
      | bare hc hsu r ih =>
        intro w
        obtain ⟨b, hb1, hyes, hno⟩ := w
        refine wpAny_handleBy_cons (codeAny_handlers_test ?_) (by intro q; cases q)
        refine name_in_suite S3 hc ((PySem.W.exm_one (M := model X.prog X.w) J3.kIn ofType hb1).here ?_)
        cases b with
        | true =>
          refine codeAny_handlers_suite ?_
          refine HandSPX.lands_againZ fl3 fun h4 fl4 up4 => ?_
          have J4 : Inv X pins st' H' { s' with heap := h4 } := J.landed nb fl4.1 ((up.trans up3).trans up4) os ag
          obtain ⟨oe4, vs4, he4, hz4, hd4⟩ := fl4.there
          have S4 := J4.suite he4 hd4 na nL nF
          refine wpAny_mono ((hsu a oe4 k d (X.pn ++ pins) hz4 ⟨_, hd4⟩).run [] _ _ H' _ S4 (hyes rfl a na)) (fun f s6 hsp => ?_) (fun _ _ z => False.elim z)
          cases f with
          | ret u =>
            obtain ⟨v6, t6, H6, S6, r6, q6⟩ := hsp
            exact ⟨_, _, _, S6.unsuite ok, r6, q6⟩
          | _ =>
            obtain ⟨t6, H6, S6, q6⟩ := hsp
            exact ⟨_, _, S6.unsuite ok, q6⟩
        | false => exact ih (hno rfl)
      | named hN hi hln hc hsu r ih =>
        intro w
        obtain ⟨b, hb1, hyes, hno⟩ := w
        refine wpAny_handleBy_cons (codeAny_handlers_test ?_) (by intro q; cases q)
        refine name_in_suite S3 hc ((PySem.W.exm_one (M := model X.prog X.w) J3.kIn ofType hb1).here ?_)
        cases b with
        | true =>
          refine codeAny_handlers_suite_as ?_
          refine HandSPX.lands_againZ fl3 fun h4 fl4 up4 => ?_
          have J4 : Inv X pins st' H' { s' with heap := h4 } := J.landed nb fl4.1 ((up.trans up3).trans up4) os ag
          obtain ⟨oe4, vs4, he4, hz4, hd4⟩ := fl4.there
          have S4 := J4.suite he4 hd4 na nL nF
          refine store_ok (X := X.suite a ((a, oe4) :: (X.pn ++ pins))) (v := .ref a) S4 hN hi (.inl hln) rfl (fun s5 S5 => ?_) (.inr hln)
          refine wpAny_mono ((hsu a oe4 k d (X.pn ++ pins) hz4 ⟨_, hd4⟩).run [] s5 _ H' _ S5 (hyes rfl a na (by rw [J.len]; exact (List.getElem?_eq_some_iff.mp hi).1))) (fun f s6 hsp => ?_) (fun _ _ z => False.elim z)
          cases f with
          | ret u =>
            obtain ⟨v6, t6, H6, S6, r6, q6⟩ := hsp
            exact gone_ok (S6.unsuite ok) hN hi hln fun s7 J7 => ⟨_, _, _, J7, r6, q6⟩
          | _ =>
            obtain ⟨t6, H6, S6, q6⟩ := hsp
            exact gone_ok (S6.unsuite ok) hN hi hln fun s7 J7 => ⟨_, _, J7, q6⟩
        | false => exact ih (hno rfl)
    exact go hh w
  refine wpAny_mono ((hb (wMix X.K Wout D l) (X.pn ++ pins) catcher takes PassesOwn.looking).run [] s st H D (Iv.toTry _) h) (fun f s1 hsp => ?_) (fun e s1 he => he)
  cases f with
  | next =>
    obtain ⟨t1, H1, J1, q⟩ := hsp
    exact wpAny_execs_nil ⟨t1, H1, J1.ofTry ok, q⟩
  | ret u =>
    obtain ⟨v, t1, H1, J1, r, q⟩ := hsp
    exact ⟨v, t1, H1, J1.ofTry ok, r, q⟩
  | _ =>
    obtain ⟨t1, H1, J1, q⟩ := hsp
    exact ⟨t1, H1, J1.ofTry ok, q⟩
end
end G58

set_option Elab.async false
set_option linter.all false
set_option maxRecDepth 100000
set_option maxHeartbeats 4000000
/-! Dicts whose keys are nested tuples, over the hand layer. -/
namespace G58
open PySem PySem.Spec PyProof.Rows L2
mutual
/-- the value v is the key k -/
def NV (H : Hp) : NestedKey → V → Prop
  | .none, v => v = .non
  | .num i, v => v = .int i
  | .text x, v => v = .str x
  | .tup ks, v => ∃ p xs, v = .ref p ∧ H p = some (.tup xs) ∧ NVs H ks xs
def NVs (H : Hp) : List NestedKey → List V → Prop
  | [], xs => xs = []
  | k :: ks, xs => ∃ x r, xs = x :: r ∧ NV H k x ∧ NVs H ks r
end
mutual
theorem NV.go {H H' : Hp} (e : ∀ b xs, H b = some (.tup xs) → H' b = some (.tup xs)) : ∀ (k : NestedKey) (v : V), NV H k v → NV H' k v
  | .none, v, h => by
    unfold NV at h ⊢
    exact h
  | .num i, v, h => by
    unfold NV at h ⊢
    exact h
  | .text x, v, h => by
    unfold NV at h ⊢
    exact h
  | .tup ks, v, h => by
    unfold NV at h ⊢
    obtain ⟨p, xs, h1, h2, h3⟩ := h
    exact ⟨p, xs, h1, e _ _ h2, NVs.go e ks xs h3⟩
theorem NVs.go {H H' : Hp} (e : ∀ b xs, H b = some (.tup xs) → H' b = some (.tup xs)) : ∀ (ks : List NestedKey) (xs : List V), NVs H ks xs → NVs H' ks xs
  | [], xs, h => by
    unfold NVs at h ⊢
    exact h
  | k :: ks, xs, h => by
    unfold NVs at h ⊢
    obtain ⟨x, r, h1, h2, h3⟩ := h
    exact ⟨x, r, h1, NV.go e k x h2, NVs.go e ks r h3⟩
end
mutual
theorem nv_is {P : Program} {w : World} {H : Hp} {h : Heap} (ok : HOk P w H h) : ∀ (k : NestedKey) (v : V) (u : Value), NV H k v → RelV v u → NestedIs h k u
  | .none, v, u, n, r => by
    unfold NV at n
    subst n
    cases (show u = Value.none from r)
    exact .none
  | .num i, v, u, n, r => by
    unfold NV at n
    subst n
    obtain ⟨t, e⟩ := (show ∃ t, u = Value.int i t from r)
    subst e
    exact .int i t
  | .text x, v, u, n, r => by
    unfold NV at n
    subst n
    obtain ⟨t, e⟩ := (show ∃ t, u = Value.str x t from r)
    subst e
    exact .text x t
  | .tup ks, v, u, n, r => by
    unfold NV at n
    obtain ⟨p, xs, h1, h2, h3⟩ := n
    subst h1
    cases (show u = Value.ref p from r)
    obtain ⟨_, its, rr, o, e1, e2, m, e3⟩ := (show ObjOk P w H h p (.tup xs) from ok p _ h2)
    exact .tup e1 e2 e3 (by simpa using nvs_is ok ks xs its h3 rr)
theorem nvs_is {P : Program} {w : World} {H : Hp} {h : Heap} (ok : HOk P w H h) : ∀ (ks : List NestedKey) (xs : List V) (us : List Value), NVs H ks xs → Vals xs us → NestedAll h ks us
  | [], xs, us, n, r => by
    unfold NVs at n
    subst n
    cases r
    exact .nil
  | k :: ks, xs, us, n, r => by
    unfold NVs at n
    obtain ⟨x, t, h1, h2, h3⟩ := n
    subst h1
    cases r with
    | cons r1 r2 => exact .cons (nv_is ok k x _ h2 r1) (nvs_is ok ks t _ h3 r2)
end
abbrev NEnt := NestedKey × Addr × V
abbrev NT : List NEnt → List (NestedKey × Addr × Value) → Prop := Paired fun p q => p.1 = q.1 ∧ p.2.1 = q.2.1 ∧ RelV p.2.2 q.2.2
/-- a dict with such keys -/
def ND (P : Program) (w : World) (a : Addr) (kvs : List NEnt) : HO := .ext fun h => kvs.length ≤ sizeLine ∧ (a == sysModules) = false ∧ ∃ xs, NT kvs xs ∧
  ∃ o es ep, h.get? a = some o ∧ o.ExactDict ∧ o.data = .dict es ep ∧ es.toList = xs.map (entryOfKey (nestedKind P w)) ∧ (xs.map (·.1)).Nodup
/-- its keys stand -/
def KOk (H : Hp) (kvs : List NEnt) : Prop := ∀ x ∈ kvs, NV H x.1 (.ref x.2.1) ∧ x.1.depth ≤ 8
theorem KOk.go {H H' : Hp} {kvs : List NEnt} (e : ∀ b xs, H b = some (.tup xs) → H' b = some (.tup xs)) (h : KOk H kvs) : KOk H' kvs := fun x hx => ⟨NV.go e _ _ (h x hx).1, (h x hx).2⟩
def valN (kvs : List NEnt) (k : NestedKey) : Option V := (kvs.find? fun x => decide (x.1 = k)).map (·.2.2)
def putN (kvs : List NEnt) (k : NestedKey) (b : Addr) (v : V) : List NEnt := if (valN kvs k).isSome then kvs.map (fun x => if x.1 = k then (x.1, x.2.1, v) else x) else kvs ++ [(k, b, v)]
theorem NT.val {kvs : List NEnt} {xs : List (NestedKey × Addr × Value)} (r : NT kvs xs) (k : NestedKey) : RelO (valN kvs k) ((atKey xs k).map (·.2)) := by
  unfold NT at r
  induction r with
  | nil => exact True.intro
  | @cons p q ps qs h t ih =>
    obtain ⟨h1, _, h2⟩ := h
    by_cases e : p.1 = k
    · have e' : q.1 = k := h1.symm.trans e
      have a1 : atKey (q :: qs) k = some q.2 := by simp [atKey, List.find?_cons, e']
      have a2 : valN (p :: ps) k = some p.2.2 := by simp [valN, List.find?_cons, e]
      rw [a1, a2]
      exact h2
    · have e' : ¬ q.1 = k := fun z => e (h1.trans z)
      have a1 : atKey (q :: qs) k = atKey qs k := by simp [atKey, List.find?_cons, e']
      have a2 : valN (p :: ps) k = valN ps k := by simp [valN, List.find?_cons, e]
      rw [a1, a2]
      exact ih
theorem NT.repl {kvs : List NEnt} {xs : List (NestedKey × Addr × Value)} (r : NT kvs xs) (k : NestedKey) {y : V} {u : Value} (ry : RelV y u) :
    NT (kvs.map fun x => if x.1 = k then (x.1, x.2.1, y) else x) (xs.map (putAt k u)) := by
  unfold NT at r
  induction r with
  | nil => exact .nil
  | @cons p q ps qs h t ih =>
    rw [List.map_cons, List.map_cons]
    refine .cons ?_ ih
    obtain ⟨h1, h2, h3⟩ := h
    unfold putAt
    by_cases e : p.1 = k
    · rw [if_pos e, if_pos (h1.symm.trans e)]
      exact ⟨h1, h2, ry⟩
    · rw [if_neg e, if_neg (fun z => e (h1.trans z))]
      exact ⟨h1, h2, h3⟩
theorem NT.put {kvs : List NEnt} {xs : List (NestedKey × Addr × Value)} (r : NT kvs xs) (k : NestedKey) {b : Addr} {y : V} {u : Value} (ry : RelV y u) : NT (putN kvs k b y) (storedH xs k b u) := by
  have e : (valN kvs k).isSome = (atKey xs k).isSome := by rw [(r.val k).isSome_eq, Option.isSome_map]
  unfold putN storedH
  rw [e]
  by_cases q : (atKey xs k).isSome = true
  · rw [if_pos q, if_pos q]
    exact r.repl k ry
  · rw [if_neg q, if_neg q]
    exact Paired.snoc r ⟨rfl, rfl, ry⟩
theorem length_putN (kvs : List NEnt) (k : NestedKey) (b : Addr) (v : V) : (putN kvs k b v).length ≤ kvs.length + 1 := by
  unfold putN
  split
  · rw [List.length_map]
    omega
  · rw [List.length_append]
    exact Nat.le_refl _
theorem KOk.put {H : Hp} {kvs : List NEnt} {k : NestedKey} {b : Addr} {v : V} (h : KOk H kvs) (hk : NV H k (.ref b)) (hd : k.depth ≤ 8) : KOk H (putN kvs k b v) := by
  unfold putN
  split
  · intro x hx
    obtain ⟨y, hy, rfl⟩ := List.mem_map.mp hx
    by_cases e : y.1 = k
    · rw [if_pos e]
      exact h y hy
    · rw [if_neg e]
      exact h y hy
  · intro x hx
    rcases List.mem_append.mp hx with hx | hx
    · exact h x hx
    · rw [List.mem_singleton.mp hx]
      exact ⟨hk, hd⟩
section
variable {P : Program} {w : World} {H : Hp} {h : Heap} {a : Addr}
theorem nd_of {kvs : List NEnt} (ok : HOk P w H h) (e : H a = some (ND P w a kvs)) (kk : KOk H kvs) : kvs.length ≤ sizeLine ∧ (a == sysModules) = false ∧ ∃ xs, NT kvs xs ∧ h.DictOfH (nestedKind P w) a xs := by
  obtain ⟨⟨z, y, xs, r, o, es, ep, h1, h2, h3, h4, h5⟩, _, _⟩ := (show ObjOk P w H h a (ND P w a kvs) from ok a _ e)
  refine ⟨z, y, xs, r, o, es, ep, h1, h2, h3, h4, fun x hx => ?_, h5⟩
  have all : ∀ {l : List NEnt} {m : List (NestedKey × Addr × Value)}, NT l m → KOk H l → ∀ x ∈ m, (nestedKind P w).is h x.1 x.2.1 := by
    intro l m q
    unfold NT at q
    induction q with
    | nil =>
      intro _ x hx
      exact nomatch hx
    | @cons p q ps qs hq t ih =>
      intro kl x hx
      rcases List.mem_cons.mp hx with e | hx
      · subst e
        obtain ⟨k1, k2⟩ := kl p (List.mem_cons_self ..)
        rw [hq.1, hq.2.1] at k1
        rw [hq.1] at k2
        exact ⟨nv_is ok _ _ _ k1 rfl, k2⟩
      · exact ih (fun y hy => kl y (List.mem_cons_of_mem _ hy)) x hx
  exact all r kk x hx
theorem nd_new {H' : Hp} {h' : Heap} {kvs : List NEnt} {xs : List (NestedKey × Addr × Value)} (z : kvs.length ≤ sizeLine) (hd : (a == sysModules) = false) (rel : NT kvs xs) (dd : h'.DictOfH (nestedKind P w) a xs) : ObjOk P w H' h' a (ND P w a kvs) := by
  obtain ⟨o, es, ep, h1, h2, h3, h4, _, h5⟩ := dd
  refine ⟨⟨z, hd, xs, rel, o, es, ep, h1, h2, h3, h4, h5⟩, ⟨o, h1⟩, fun g1 g2 p hs => ?_⟩
  obtain ⟨z, y, xs, r, o, es, ep, h1, h2, h3, h4, h5⟩ := p
  exact ⟨z, y, xs, r, o, es, ep, hs _ h1, h2, h3, h4, h5⟩
end
/-- what the dict at a holds at the key y -/
def NGet (P : Program) (w : World) (H : Hp) (a : Addr) (y : V) (r : Option V) : Prop := ∃ kvs k b, H a = some (ND P w a kvs) ∧ KOk H kvs ∧ y = .ref b ∧ NV H k (.ref b) ∧ k.depth ≤ 8 ∧ r = valN kvs k
def NPut (P : Program) (w : World) (H : Hp) (a : Addr) (y v : V) (H' : Hp) : Prop := ∃ kvs k b, H a = some (ND P w a kvs) ∧ KOk H kvs ∧ y = .ref b ∧ NV H k (.ref b) ∧ k.depth ≤ 8 ∧ kvs.length < sizeLine ∧ H' = upd H a (ND P w a (putN kvs k b v))
section
variable {X : Cx} {pins : List (Addr × Obj)} {σ : L2.St} {H : Hp} {s : Shared} {a : Addr} {y v : V} {u r : Value} {o : Option V} {A : Around} {E : Value → Shared → Prop}
theorem nk_room (hu : A.units + 64 < cLine) : (nestedKind X.prog X.w).room A.in1 := by
  show A.units + 1 + 8 < cLine
  omega
theorem n_getItem {Q : Value → Shared → Prop} (hu : A.units + 64 < cLine) (Iv : Inv X pins σ H s) (g : NGet X.prog X.w H a y (some v)) (ry : RelV y u) (h : ∀ w' s', Inv X pins σ H s' → RelV v w' → Q w' s') :
    wpAny (model X.prog X.w) A (getItem (.ref a) u) Q E s := by
  obtain ⟨kvs, k, b, e, kk, ey, nk, dk, l⟩ := g
  subst ey
  cases (show u = Value.ref b from ry)
  obtain ⟨z, hd, xs, rel, dd⟩ := nd_of Iv.hok e kk
  obtain ⟨w', hw, rw'⟩ := RelO.some_of (v := v) (o := (atKey xs k).map (·.2)) (by rw [l]; exact rel.val k)
  obtain ⟨p, hp, hp2⟩ := Option.map_eq_some_iff.mp hw
  refine wpAny_getItem_heap (nk_room hu) ⟨nv_is Iv.hok _ _ _ nk rfl, dk⟩ dd hp ?_
  rw [hp2]
  exact h w' _ (Iv.tok _) rw'
theorem n_in {Q : Value → Shared → Prop} (hu : A.units + 64 < cLine) (Iv : Inv X pins σ H s) (g : NGet X.prog X.w H a y o) (ry : RelV y u) (h : ∀ s', Inv X pins σ H s' → Q (.bool o.isSome) s') :
    wpAny (model X.prog X.w) A (compareOp .In u (.ref a)) Q E s := by
  obtain ⟨kvs, k, b, e, kk, ey, nk, dk, l⟩ := g
  subst ey
  cases (show u = Value.ref b from ry)
  obtain ⟨z, hd, xs, rel, dd⟩ := nd_of Iv.hok e kk
  refine wpAny_in_heap (nk_room hu) ⟨nv_is Iv.hok _ _ _ nk rfl, dk⟩ hd dd ?_
  have q := (rel.val k).isSome_eq
  rw [Option.isSome_map] at q
  rw [← q, ← l]
  exact h _ (Iv.tok _)
theorem n_notIn {Q : Value → Shared → Prop} (hu : A.units + 64 < cLine) (Iv : Inv X pins σ H s) (g : NGet X.prog X.w H a y o) (ry : RelV y u) (h : ∀ s', Inv X pins σ H s' → Q (.bool (!o.isSome)) s') :
    wpAny (model X.prog X.w) A (compareOp .NotIn u (.ref a)) Q E s := by
  obtain ⟨kvs, k, b, e, kk, ey, nk, dk, l⟩ := g
  subst ey
  cases (show u = Value.ref b from ry)
  obtain ⟨z, hd, xs, rel, dd⟩ := nd_of Iv.hok e kk
  refine wpAny_notIn_heap (nk_room hu) ⟨nv_is Iv.hok _ _ _ nk rfl, dk⟩ hd dd ?_
  have q := (rel.val k).isSome_eq
  rw [Option.isSome_map] at q
  rw [← q, ← l]
  exact h _ (Iv.tok _)
theorem n_setItem {H' : Hp} {Q : Unit → Shared → Prop} (hu : A.units + 64 < cLine) (Iv : Inv X pins σ H s) (g : NPut X.prog X.w H a y v H') (ry : RelV y u) (rv : RelV v r) (h : ∀ s', Inv X pins σ H' s' → Q () s') :
    wpAny (model X.prog X.w) A (setItem (.ref a) u r) Q E s := by
  obtain ⟨kvs, k, b, e, kk, ey, nk, dk, l, eH⟩ := g
  subst ey eH
  cases (show u = Value.ref b from ry)
  obtain ⟨z, hd, xs, rel, dd⟩ := nd_of Iv.hok e kk
  have hz : xs.length ≤ sizeLine := by
    rw [← Paired.length rel]
    exact z
  have hl : (putN kvs k b v).length ≤ sizeLine := by
    have := length_putN kvs k b v
    omega
  refine wpAny_setItem_heap (hsz := hz) (nk_room hu) ⟨nv_is Iv.hok _ _ _ nk rfl, dk⟩ dd fun h' dd' hs => h _ ?_
  obtain ⟨q, es, ep, hq, _⟩ := id dd'
  exact d_write Iv (by rw [e]; exact True.intro) hs ⟨q, hq⟩ (nd_new hl hd (rel.put k rv) dd')
theorem nd_typeIs (Iv : Inv X pins σ H s) (g : NGet X.prog X.w H a y o) : s.TypeIs (.ref a) "dict" := by
  obtain ⟨kvs, k, b, e, kk, _⟩ := g
  obtain ⟨_, _, xs, _, dd⟩ := nd_of Iv.hok e kk
  exact dd.typeIs
end
def tNGet (P : Program) (w : World) (td ty : TE) : TE := fun σ H Q => td σ H fun x H1 => ty σ H1 fun y H2 => ∃ a v, x = .ref a ∧ NGet P w H2 a y (some v) ∧ Q v H2
def tNIn (P : Program) (w : World) (ty td : TE) : TE := fun σ H Q => ty σ H fun y H1 => td σ H1 fun x H2 => ∃ a o, x = .ref a ∧ NGet P w H2 a y o ∧ Q (.bl o.isSome) H2
def tNNotIn (P : Program) (w : World) (ty td : TE) : TE := fun σ H Q => ty σ H fun y H1 => td σ H1 fun x H2 => ∃ a o, x = .ref a ∧ NGet P w H2 a y o ∧ Q (.bl (!o.isSome)) H2
def sNPut (P : Program) (w : World) (td ty tv : TE) : TS := fun D σ H => tv σ H fun v H1 => td σ H1 fun x H2 => ty σ H2 fun y H3 => ∃ a H4, x = .ref a ∧ NPut P w H3 a y v H4 ∧ D.nx σ H4
def tNNew (P : Program) (w : World) : TE := fun _ H Q => ∀ p, H p = none → Q (.ref p) (upd H p (ND P w p []))
section
variable {X : Cx} {o i e value : Expr} {pos pos' tpos : Pos} {td ty tv : TE}
theorem pe_nget (hu : X.A.units + 64 < cLine) (ho : PE X o td) (hi : PE X i ty) (hs : NoSl i) : PE X (.Subscript o i pos) (tNGet X.prog X.w td ty) := by
  refine ⟨fun pins s σ H Q Iv h => ?_⟩
  refine subD_of PySem.F.slot_dict_getitem.lookup hs (thn (ho.run pins s σ H _ Iv h) fun u s1 ⟨x, H1, I1, rx, q1⟩ => thn (hi.run pins s1 σ H1 _ I1 q1) fun iv s2 ⟨y, H2, I2, ry, a, v, ex, g, q2⟩ => ?_)
  subst ex
  obtain rfl : u = Value.ref a := rx
  exact ⟨nd_typeIs I2 g, n_getItem hu I2 g ry fun w' s3 I3 rw' => ⟨v, H2, I3, rw', q2⟩⟩
theorem pc_nin (hu : X.A.units + 64 < cLine) (hi : PE X i ty) (ho : PE X o td) : PC X .In i o (tNIn X.prog X.w ty td) := by
  refine ⟨fun pins s σ H Q Iv h => ?_⟩
  refine thn (hi.run pins s σ H _ Iv h) fun iv s1 ⟨y, H1, I1, ry, q1⟩ => thn (ho.run pins s1 σ H1 _ I1 q1) fun u s2 ⟨x, H2, I2, rx, a, ov, ex, g, q2⟩ => ?_
  subst ex
  obtain rfl : u = Value.ref a := rx
  exact n_in hu I2 g ry fun s3 I3 => ⟨.bl ov.isSome, H2, I3, rfl, q2⟩
theorem pc_nnotin (hu : X.A.units + 64 < cLine) (hi : PE X i ty) (ho : PE X o td) : PC X .NotIn i o (tNNotIn X.prog X.w ty td) := by
  refine ⟨fun pins s σ H Q Iv h => ?_⟩
  refine thn (hi.run pins s σ H _ Iv h) fun iv s1 ⟨y, H1, I1, ry, q1⟩ => thn (ho.run pins s1 σ H1 _ I1 q1) fun u s2 ⟨x, H2, I2, rx, a, ov, ex, g, q2⟩ => ?_
  subst ex
  obtain rfl : u = Value.ref a := rx
  exact n_notIn hu I2 g ry fun s3 I3 => ⟨.bl (!ov.isSome), H2, I3, rfl, q2⟩
theorem ps_nput (hu : X.A.units + 64 < cLine) (ho : PE X o td) (hi : PE X i ty) (hv : PE X value tv) (hs : swapsWith value (some (.Subscript o i pos')) pos.line X.env = pure false) :
    PS X (.Assign [.Subscript o i pos'] value pos) (sNPut X.prog X.w td ty tv) := by
  refine ⟨fun pins s σ H D Iv h => ?_⟩
  refine wpAny_Assign_Subscript (thn (hv.run pins s σ H _ Iv h) fun r s1 ⟨v, H1, I1, rv, q1⟩ => thn (ho.run pins s1 σ H1 _ I1 q1) fun u s2 ⟨x, H2, I2, rx, q2⟩ => thn (hi.run pins s2 σ H2 _ I2 q2) fun iv s3 ⟨y, H3, I3, ry, a, H4, ex, g, q3⟩ => ?_) hs
  subst ex
  obtain rfl : u = Value.ref a := rx
  exact n_setItem hu I3 g ry rv fun s4 I4 => ⟨σ, H4, I4, q3⟩
theorem pe_nnew : PE X (.Dict [] [] pos) (tNNew X.prog X.w) := ⟨fun pins s σ H Q Iv h =>
  wpAny_Dict_empty ⟨.ref s.heap.objs.size, _, Iv.laid (a := s.heap.objs.size) (o := ND X.prog X.w s.heap.objs.size []) (t' := s.toks) (fun _ _ q => Heap.get?_push_of_some _ q) (Nat.le_refl _)
    (nd_new (Nat.zero_le _) (beq_eq_false_iff_ne.mpr (Ne.symm (Nat.ne_of_lt Iv.big))) .nil (Heap.DictOfH.new s.heap)), rfl, h _ (Iv.hok.fresh (Nat.le_refl _))⟩⟩
end
end G58

set_option Elab.async false
set_option linter.all false
set_option maxRecDepth 100000
set_option maxHeartbeats 4000000
/-! Rings of a graph by two walks, in plain Lean. -/
namespace G58
namespace Scc
inductive Rch (adj : Nat → List Nat) : Nat → Nat → Prop
  | refl (u : Nat) : Rch adj u u
  | step {u v w : Nat} (e : v ∈ adj u) (r : Rch adj v w) : Rch adj u w
theorem Rch.trans {adj : Nat → List Nat} {u v w : Nat} (a : Rch adj u v) (b : Rch adj v w) : Rch adj u w := by
  induction a with
  | refl => exact b
  | step e _ ih => exact .step e (ih b)
theorem Rch.one {adj : Nat → List Nat} {u v : Nat} (e : v ∈ adj u) : Rch adj u v := .step e (.refl v)
/-- u lies on a ring -/
def OnC (adj : Nat → List Nat) (u : Nat) : Prop := ∃ v ∈ adj u, Rch adj v u
abbrev Stk := List (Nat × Bool)
/-- all grey nodes below an item reach it -/
def St (adj : Nat → List Nat) : Stk → Prop
  | [] => True
  | c :: s => (∀ u, (u, true) ∈ s → Rch adj u c.1) ∧ St adj s
/-- the children of a grey node are seen, or wait above it -/
def Dd (adj : Nat → List Nat) (seen : List Nat) : Stk → Stk → Prop
  | _, [] => True
  | ab, c :: s => (c.2 = true → ∀ z ∈ adj c.1, z ∈ seen ∨ (z, false) ∈ ab) ∧ Dd adj seen (ab ++ [c]) s
theorem Dd.mono {adj : Nat → List Nat} {seen seen' : List Nat} (hs : ∀ z ∈ seen, z ∈ seen') : ∀ {s ab ab' : Stk}, (∀ z, (z, false) ∈ ab → z ∈ seen' ∨ (z, false) ∈ ab') → Dd adj seen ab s → Dd adj seen' ab' s
  | [], _, _, _, _ => True.intro
  | c :: s, ab, ab', h, d => by
    refine ⟨fun hc z hz => ?_, Dd.mono (s := s) hs (fun z hz => ?_) d.2⟩
    · rcases d.1 hc z hz with q | q
      · exact .inl (hs z q)
      · exact h z q
    · rcases List.mem_append.mp hz with q | q
      · rcases h z q with q | q
        · exact .inl q
        · exact .inr (List.mem_append.mpr (.inl q))
      · exact .inr (List.mem_append.mpr (.inr q))
theorem Dd.kids {adj : Nat → List Nat} {seen : List Nat} : ∀ {ks ab s : Stk}, (∀ k ∈ ks, k.2 = false) → Dd adj seen (ab ++ ks) s → Dd adj seen ab (ks ++ s)
  | [], ab, s, _, d => by
    rw [List.append_nil] at d
    exact d
  | k :: ks, ab, s, h, d => by
    refine ⟨fun hc => ?_, Dd.kids (fun q hq => h q (List.mem_cons_of_mem _ hq)) ?_⟩
    · rw [h k (List.mem_cons_self ..)] at hc
      cases hc
    · rw [List.append_assoc]
      exact d
theorem St.kids {adj : Nat → List Nat} : ∀ {ks s : Stk}, (∀ k ∈ ks, k.2 = false) → (∀ k ∈ ks, ∀ u, (u, true) ∈ s → Rch adj u k.1) → St adj s → St adj (ks ++ s)
  | [], s, _, _, d => d
  | k :: ks, s, h, g, d => by
    refine ⟨fun u hu => ?_, St.kids (fun q hq => h q (List.mem_cons_of_mem _ hq)) (fun q hq => g q (List.mem_cons_of_mem _ hq)) d⟩
    rcases List.mem_append.mp hu with q | q
    · have z := h _ (List.mem_cons_of_mem _ q)
      cases z
    · exact g k (List.mem_cons_self ..) u q
/-- the order so far: a child that is not yet in it reaches its last one -/
def Ord (adj : Nat → List Nat) (found : List Nat) : Prop := ∀ pre x post, found = pre ++ x :: post → ∀ y ∈ pre ++ [x], ∀ z ∈ adj y, z ∉ pre ++ [x] → Rch adj z x
structure Inv1 (adj : Nat → List Nat) (stk : Stk) (seen found : List Nat) : Prop where
  st : St adj stk
  dd : Dd adj seen [] stk
  fs : ∀ u ∈ found, u ∈ seen
  gs : ∀ u, (u, true) ∈ stk → u ∈ seen
  sn : ∀ u ∈ seen, u ∈ found ∨ (u, true) ∈ stk
  nd : found.Nodup
  gf : ∀ u, (u, true) ∈ stk → u ∉ found
  g1 : ∀ top u bot, stk = top ++ (u, true) :: bot → (u, true) ∉ bot
  ch : ∀ u ∈ found, ∀ z ∈ adj u, z ∈ seen
  od : Ord adj found
theorem Inv1.start {adj : Nat → List Nat} {seen found : List Nat} (h : Inv1 adj [] seen found) (f : Nat) : Inv1 adj [(f, false)] seen found where
  st := ⟨fun u hu => (nomatch hu), True.intro⟩
  dd := ⟨fun q => (by cases q), True.intro⟩
  fs := h.fs
  gs := fun u hu => by
    rcases List.mem_singleton.mp hu with q
    cases q
  sn := fun u hu => by
    rcases h.sn u hu with q | q
    · exact .inl q
    · exact nomatch q
  nd := h.nd
  gf := fun u hu => by
    rcases List.mem_singleton.mp hu with q
    cases q
  g1 := fun top u bot e => by
    cases top with
    | nil => cases e
    | cons t top =>
      have z := (List.cons.inj e).2
      cases top <;> cases z
  ch := h.ch
  od := h.od
theorem Inv1.done {adj : Nat → List Nat} {s : Stk} {u : Nat} {seen found : List Nat} (h : Inv1 adj ((u, true) :: s) seen found) : Inv1 adj s seen (found ++ [u]) := by
  have us : u ∈ seen := h.gs u (List.mem_cons_self ..)
  have uf : u ∉ found := h.gf u (List.mem_cons_self ..)
  have ub : (u, true) ∉ s := h.g1 [] u s rfl
  have kids : ∀ z ∈ adj u, z ∈ seen := fun z hz => by
    rcases h.dd.1 rfl z hz with q | q
    · exact q
    · exact nomatch q
  refine ⟨h.st.2, Dd.mono (fun z q => q) (fun z hz => ?_) h.dd.2, ?_, fun v hv => h.gs v (List.mem_cons_of_mem _ hv), fun v hv => ?_, ?_, fun v hv => ?_, fun top v bot e => ?_, ?_, ?_⟩
  · rcases List.mem_append.mp hz with q | q
    · exact nomatch q
    · have z := List.mem_singleton.mp q
      cases z
  · intro v hv
    rcases List.mem_append.mp hv with q | q
    · exact h.fs v q
    · rw [List.mem_singleton.mp q]
      exact us
  · rcases h.sn v hv with q | q
    · exact .inl (List.mem_append.mpr (.inl q))
    · rcases List.mem_cons.mp q with q | q
      · cases q
        exact .inl (List.mem_append.mpr (.inr (List.mem_singleton.mpr rfl)))
      · exact .inr q
  · rw [List.nodup_append]
    refine ⟨h.nd, List.nodup_cons.mpr ⟨(fun q => nomatch q), List.nodup_nil⟩, fun a ha b hb e => ?_⟩
    rw [List.mem_singleton.mp hb] at e
    rw [e] at ha
    exact uf ha
  · intro q
    rcases List.mem_append.mp q with q | q
    · exact h.gf v (List.mem_cons_of_mem _ hv) q
    · rw [List.mem_singleton.mp q] at hv
      exact ub hv
  · exact h.g1 ((u, true) :: top) v bot (by rw [e]; rfl)
  · intro v hv z hz
    rcases List.mem_append.mp hv with q | q
    · exact h.ch v q z hz
    · rw [List.mem_singleton.mp q] at hz
      exact kids z hz
  · intro pre x post e y hy z hz hn
    rcases List.eq_nil_or_concat post with rfl | ⟨post', w, rfl⟩
    · obtain ⟨e1, e2⟩ := List.append_inj' e rfl
      have e3 : u = x := (List.cons.inj e2).1
      subst e1 e3
      have zs : z ∈ seen := by
        rcases List.mem_append.mp hy with q | q
        · exact h.ch y q z hz
        · rw [List.mem_singleton.mp q] at hz
          exact kids z hz
      rcases h.sn z zs with q | q
      · exact absurd (List.mem_append.mpr (.inl q)) hn
      · rcases List.mem_cons.mp q with q | q
        · cases q
          exact absurd (List.mem_append.mpr (.inr (List.mem_singleton.mpr rfl))) hn
        · exact h.st.1 z q
    · have e' : found ++ [u] = (pre ++ x :: post') ++ [w] := by
        rw [e]
        simp
      obtain ⟨e1, _⟩ := List.append_inj' e' rfl
      exact h.od pre x post' e1 y hy z hz hn
theorem Inv1.skip {adj : Nat → List Nat} {s : Stk} {u : Nat} {seen found : List Nat} (h : Inv1 adj ((u, false) :: s) seen found) (hu : u ∈ seen) : Inv1 adj s seen found := by
  refine ⟨h.st.2, Dd.mono (fun z q => q) (fun z hz => ?_) h.dd.2, h.fs, fun v hv => h.gs v (List.mem_cons_of_mem _ hv), fun v hv => ?_, h.nd, fun v hv => h.gf v (List.mem_cons_of_mem _ hv), fun top v bot e => h.g1 ((u, false) :: top) v bot (by rw [e]; rfl), h.ch, h.od⟩
  · rcases List.mem_append.mp hz with q | q
    · exact nomatch q
    · have z := List.mem_singleton.mp q
      cases z
      exact .inl hu
  · rcases h.sn v hv with q | q
    · exact .inl q
    · rcases List.mem_cons.mp q with q | q
      · cases q
      · exact .inr q
def kidsOf (adj : Nat → List Nat) (u : Nat) : Stk := ((adj u).map fun c => (c, false)).reverse
theorem mem_kids {adj : Nat → List Nat} {u : Nat} {k : Nat × Bool} : k ∈ kidsOf adj u ↔ k.2 = false ∧ k.1 ∈ adj u := by
  unfold kidsOf
  rw [List.mem_reverse, List.mem_map]
  constructor
  · rintro ⟨c, hc, rfl⟩
    exact ⟨rfl, hc⟩
  · rintro ⟨h1, h2⟩
    exact ⟨k.1, h2, by cases k; cases h1; rfl⟩
theorem Inv1.open {adj : Nat → List Nat} {s : Stk} {u : Nat} {seen found : List Nat} (h : Inv1 adj ((u, false) :: s) seen found) (hu : u ∉ seen) : Inv1 adj (kidsOf adj u ++ (u, true) :: s) (seen ++ [u]) found := by
  have un : (u, true) ∉ s := fun q => hu (h.gs u (List.mem_cons_of_mem _ q))
  have kf : ∀ k ∈ kidsOf adj u, k.2 = false := fun k hk => (mem_kids.mp hk).1
  have gr : ∀ v, (v, true) ∈ kidsOf adj u ++ (u, true) :: s → v = u ∨ (v, true) ∈ s := fun v hv => by
    rcases List.mem_append.mp hv with q | q
    · have z := kf _ q
      cases z
    · rcases List.mem_cons.mp q with q | q
      · cases q
        exact .inl rfl
      · exact .inr q
  refine ⟨St.kids kf (fun k hk v hv => ?_) ⟨fun v hv => h.st.1 v hv, h.st.2⟩, Dd.kids kf ⟨fun _ z hz => .inr ?_, Dd.mono (fun z q => List.mem_append.mpr (.inl q)) (fun z hz => ?_) h.dd.2⟩, fun v hv => List.mem_append.mpr (.inl (h.fs v hv)), fun v hv => ?_, fun v hv => ?_, h.nd, fun v hv => ?_, fun top v bot e => ?_, fun v hv z hz => List.mem_append.mpr (.inl (h.ch v hv z hz)), h.od⟩
  · have e := (mem_kids.mp hk).2
    rcases List.mem_cons.mp hv with q | q
    · cases q
      exact Rch.one e
    · exact (h.st.1 v q).trans (Rch.one e)
  · rw [List.nil_append]
    exact mem_kids.mpr ⟨rfl, hz⟩
  · rcases List.mem_append.mp hz with q | q
    · exact nomatch q
    · have e := List.mem_singleton.mp q
      cases e
      exact .inl (List.mem_append.mpr (.inr (List.mem_singleton.mpr rfl)))
  · rcases gr v hv with rfl | q
    · exact List.mem_append.mpr (.inr (List.mem_singleton.mpr rfl))
    · exact List.mem_append.mpr (.inl (h.gs v (List.mem_cons_of_mem _ q)))
  · rcases List.mem_append.mp hv with q | q
    · rcases h.sn v q with q | q
      · exact .inl q
      · rcases List.mem_cons.mp q with q | q
        · cases q
        · exact .inr (List.mem_append.mpr (.inr (List.mem_cons_of_mem _ q)))
    · rw [List.mem_singleton.mp q]
      exact .inr (List.mem_append.mpr (.inr (List.mem_cons_self ..)))
  · rcases gr v hv with rfl | q
    · exact fun z => hu (h.fs v z)
    · exact h.gf v (List.mem_cons_of_mem _ q)
  · rcases List.append_eq_append_iff.mp e with ⟨as, e1, e2⟩ | ⟨as, e1, e2⟩
    · cases as with
      | nil =>
        rw [List.nil_append] at e2
        obtain ⟨e3, e4⟩ := List.cons.inj e2
        cases e3
        rw [← e4]
        exact un
      | cons t ts =>
        obtain ⟨e3, e4⟩ := List.cons.inj e2
        exact h.g1 ((u, false) :: ts) v bot (by rw [e4]; rfl)
    · cases as with
      | nil =>
        rw [List.nil_append] at e2
        obtain ⟨e3, e4⟩ := List.cons.inj e2
        cases e3
        rw [e4]
        exact un
      | cons t ts =>
        obtain ⟨e3, e4⟩ := List.cons.inj e2
        have m : (v, true) ∈ kidsOf adj u := by
          rw [e1, e3]
          exact List.mem_append.mpr (.inr (List.mem_cons_self ..))
        have z := kf _ m
        cases z
/-! ### paths -/
inductive PIn (adj : Nat → List Nat) (S : Nat → Prop) : Nat → Nat → Nat → Prop
  | refl {f : Nat} (h : S f) : PIn adj S 0 f f
  | step {k x y f : Nat} (h : S x) (e : y ∈ adj x) (r : PIn adj S k y f) : PIn adj S (k + 1) x f
theorem PIn.rch {adj : Nat → List Nat} {S : Nat → Prop} {k x f : Nat} (h : PIn adj S k x f) : Rch adj x f := by
  induction h with
  | refl => exact .refl _
  | step _ e _ ih => exact .step e ih
theorem PIn.head {adj : Nat → List Nat} {S : Nat → Prop} {k x f : Nat} (h : PIn adj S k x f) : S x := by
  cases h with
  | refl h => exact h
  | step h _ _ => exact h
theorem PIn.mono {adj : Nat → List Nat} {S S' : Nat → Prop} (hs : ∀ u, S u → S' u) {k x f : Nat} (h : PIn adj S k x f) : PIn adj S' k x f := by
  induction h with
  | refl h => exact .refl (hs _ h)
  | step h e _ ih => exact .step (hs _ h) e ih
/-- the first step out of a set -/
theorem PIn.exit {adj : Nat → List Nat} {S : Nat → Prop} {pre : List Nat} {k x f : Nat} (h : PIn adj S k x f) (hx : x ∈ pre) (hf : f ∉ pre) : ∃ y z j, y ∈ pre ∧ z ∈ adj y ∧ z ∉ pre ∧ j < k ∧ PIn adj S j z f := by
  induction h with
  | refl => exact absurd hx hf
  | @step k x y f h e r ih =>
    by_cases hy : y ∈ pre
    · obtain ⟨a, b, j, h1, h2, h3, h4, h5⟩ := ih hy hf
      exact ⟨a, b, j, h1, h2, h3, by omega, h5⟩
    · exact ⟨x, y, k, hx, e, hy, by omega, r⟩
/-- a path whose nodes all stand not behind f: f reaches its begin -/
theorem back {adj : Nat → List Nat} {A B : List Nat} {f : Nat} (hn : (A ++ f :: B).Nodup) (ho : Ord adj (A ++ f :: B)) : ∀ (n k x : Nat), k ≤ n → PIn adj (fun u => u ∈ A ++ [f]) k x f → Rch adj f x := by
  intro n
  induction n with
  | zero =>
    intro k x hk p
    obtain rfl : k = 0 := by omega
    cases p
    exact .refl _
  | succ n ih =>
    intro k x hk p
    by_cases hxf : x = f
    · rw [hxf]
      exact .refl _
    have hx : x ∈ A := by
      rcases List.mem_append.mp p.head with q | q
      · exact q
      · exact absurd (List.mem_singleton.mp q) hxf
    obtain ⟨A1, A2, rfl⟩ := List.append_of_mem hx
    have hf : f ∉ A1 ++ [x] := fun q => by
      have h2 : f ∈ A1 ++ x :: A2 := by
        rcases List.mem_append.mp q with q | q
        · exact List.mem_append.mpr (.inl q)
        · rw [List.mem_singleton.mp q]
          exact List.mem_append.mpr (.inr (List.mem_cons_self ..))
      exact (List.nodup_append.mp hn).2.2 f h2 f (List.mem_cons_self ..) rfl
    obtain ⟨y, z, j, h1, h2, h3, h4, h5⟩ := p.exit (pre := A1 ++ [x]) (List.mem_append.mpr (.inr (List.mem_singleton.mpr rfl))) hf
    have r1 := ho A1 x (A2 ++ f :: B) (by simp) y h1 z h2 h3
    exact (ih j z (by omega) h5).trans r1
end Scc
end G58

set_option Elab.async false
set_option linter.all false
set_option maxRecDepth 100000
set_option maxHeartbeats 4000000
/-! The second walk: groups, and the least node on a ring. -/
namespace G58
namespace Scc
theorem PIn.last {adj : Nat → List Nat} {S : Nat → Prop} {k x f : Nat} (h : PIn adj S k x f) : S f := by
  induction h with
  | refl h => exact h
  | step _ _ _ ih => exact ih
structure Inv2 (adj : Nat → List Nat) (order old : List Nat) (f : Nat) (wt seen G : List Nat) : Prop where
  sn : ∀ u, u ∈ seen ↔ u ∈ old ∨ u ∈ G
  no : ∀ u ∈ G, u ∉ old
  pa : ∀ u ∈ G, ∃ k, PIn adj (fun x => x ∈ G) k u f
  wg : ∀ u ∈ wt, u = f ∨ ∃ x ∈ G, x ∈ adj u
  cl : ∀ x ∈ G, ∀ y ∈ order, x ∈ adj y → y ∈ seen ∨ y ∈ wt
  ld : f ∈ seen ∨ f ∈ wt
  nd : G.Nodup
  bw : ∀ u ∈ wt, u ∈ order
  bg : ∀ u ∈ G, u ∈ order
theorem Inv2.start {adj : Nat → List Nat} {order old : List Nat} {f : Nat} (hf : f ∈ order) : Inv2 adj order old f [f] old [] where
  sn := fun u => ⟨.inl, fun h => h.elim id (fun q => nomatch q)⟩
  no := fun u h => nomatch h
  pa := fun u h => nomatch h
  wg := fun u h => .inl (List.mem_singleton.mp h)
  cl := fun x h => nomatch h
  ld := .inr (List.mem_singleton.mpr rfl)
  nd := List.nodup_nil
  bw := fun u h => by
    rw [List.mem_singleton.mp h]
    exact hf
  bg := fun u h => nomatch h
theorem Inv2.skip {adj : Nat → List Nat} {order old : List Nat} {f u : Nat} {w0 seen G : List Nat} (h : Inv2 adj order old f (w0 ++ [u]) seen G) (hu : u ∈ seen) : Inv2 adj order old f w0 seen G where
  sn := h.sn
  no := h.no
  pa := h.pa
  wg := fun v hv => h.wg v (List.mem_append.mpr (.inl hv))
  cl := fun x hx y hy e => by
    rcases h.cl x hx y hy e with q | q
    · exact .inl q
    · rcases List.mem_append.mp q with q | q
      · exact .inr q
      · rw [List.mem_singleton.mp q]
        exact .inl hu
  ld := by
    rcases h.ld with q | q
    · exact .inl q
    · rcases List.mem_append.mp q with q | q
      · exact .inr q
      · rw [List.mem_singleton.mp q]
        exact .inl hu
  nd := h.nd
  bw := fun v hv => h.bw v (List.mem_append.mpr (.inl hv))
  bg := h.bg
theorem Inv2.open {adj : Nat → List Nat} {order old : List Nat} {f u : Nat} {w0 seen G us : List Nat} (h : Inv2 adj order old f (w0 ++ [u]) seen G) (hu : u ∉ seen) (hus : ∀ y, y ∈ us ↔ y ∈ order ∧ u ∈ adj y) :
    Inv2 adj order old f (w0 ++ us) (seen ++ [u]) (G ++ [u]) := by
  have uG : u ∉ G := fun q => hu ((h.sn u).mpr (.inr q))
  have uo : u ∉ old := fun q => hu ((h.sn u).mpr (.inl q))
  have up : ∀ x, x ∈ G → x ∈ G ++ [u] := fun x q => List.mem_append.mpr (.inl q)
  have um : u ∈ G ++ [u] := List.mem_append.mpr (.inr (List.mem_singleton.mpr rfl))
  refine ⟨fun v => ?_, fun v hv => ?_, fun v hv => ?_, fun v hv => ?_, fun x hx y hy e => ?_, ?_, ?_, fun v hv => ?_, fun v hv => ?_⟩
  · rw [List.mem_append, List.mem_append, h.sn v, or_assoc]
  · rcases List.mem_append.mp hv with q | q
    · exact h.no v q
    · rw [List.mem_singleton.mp q]
      exact uo
  · rcases List.mem_append.mp hv with q | q
    · obtain ⟨k, p⟩ := h.pa v q
      exact ⟨k, p.mono up⟩
    · rw [List.mem_singleton.mp q]
      rcases h.wg u (List.mem_append.mpr (.inr (List.mem_singleton.mpr rfl))) with rfl | ⟨x, hx, e⟩
      · exact ⟨0, .refl um⟩
      · obtain ⟨k, p⟩ := h.pa x hx
        exact ⟨k + 1, .step um e (p.mono up)⟩
  · rcases List.mem_append.mp hv with q | q
    · rcases h.wg v (List.mem_append.mpr (.inl q)) with e | ⟨x, hx, e⟩
      · exact .inl e
      · exact .inr ⟨x, up x hx, e⟩
    · exact .inr ⟨u, um, ((hus v).mp q).2⟩
  · rcases List.mem_append.mp hx with q | q
    · rcases h.cl x q y hy e with z | z
      · exact .inl (List.mem_append.mpr (.inl z))
      · rcases List.mem_append.mp z with z | z
        · exact .inr (List.mem_append.mpr (.inl z))
        · exact .inl (List.mem_append.mpr (.inr z))
    · rw [List.mem_singleton.mp q] at e
      exact .inr (List.mem_append.mpr (.inr ((hus y).mpr ⟨hy, e⟩)))
  · rcases h.ld with q | q
    · exact .inl (List.mem_append.mpr (.inl q))
    · rcases List.mem_append.mp q with q | q
      · exact .inr (List.mem_append.mpr (.inl q))
      · exact .inl (List.mem_append.mpr (.inr q))
  · rw [List.nodup_append]
    refine ⟨h.nd, List.nodup_cons.mpr ⟨(fun q => nomatch q), List.nodup_nil⟩, fun a ha b hb e => ?_⟩
    rw [List.mem_singleton.mp hb] at e
    rw [e] at ha
    exact uG ha
  · rcases List.mem_append.mp hv with q | q
    · exact h.bw v (List.mem_append.mpr (.inl q))
    · exact ((hus v).mp q).1
  · rcases List.mem_append.mp hv with q | q
    · exact h.bg v q
    · rw [List.mem_singleton.mp q]
      exact h.bw u (List.mem_append.mpr (.inr (List.mem_singleton.mpr rfl)))
/-- behind some leaders -/
structure Out (adj : Nat → List Nat) (order B old rings : List Nat) : Prop where
  o1 : ∀ u ∈ B, u ∈ old
  o2 : ∀ x ∈ old, ∀ y ∈ order, x ∈ adj y → y ∈ old
  r1 : ∀ r ∈ rings, r ∈ order ∧ OnC adj r
  r2 : ∀ u ∈ old, OnC adj u → ∃ r ∈ rings, r ≤ u
theorem Out.start {adj : Nat → List Nat} {order : List Nat} : Out adj order [] [] [] := ⟨(fun u h => nomatch h), (fun x h => nomatch h), (fun r h => nomatch h), (fun u h => nomatch h)⟩
def isRing (adj : Nat → List Nat) (f : Nat) (G : List Nat) : Prop := 1 < G.length ∨ (G = [f] ∧ f ∈ adj f)
theorem pre_closed {adj : Nat → List Nat} {order S : List Nat} (all : ∀ u ∈ order, ∀ v ∈ adj u, v ∈ order) (cl : ∀ x ∈ S, ∀ y ∈ order, x ∈ adj y → y ∈ S) {v f : Nat} (r : Rch adj v f) (hv : v ∈ order) (hf : f ∈ S) : v ∈ S := by
  induction r with
  | refl => exact hf
  | @step u w f e r ih => exact cl w (ih (all u hv w e) hf) u hv e
theorem Out.next {adj : Nat → List Nat} {A B old rings seen G : List Nat} {f : Nat} (all : ∀ u ∈ A ++ f :: B, ∀ v ∈ adj u, v ∈ A ++ f :: B) (hn : (A ++ f :: B).Nodup) (ho : Ord adj (A ++ f :: B)) (h : Out adj (A ++ f :: B) B old rings) (i : Inv2 adj (A ++ f :: B) old f [] seen G) :
    (isRing adj f G → ∀ m, m ∈ G → (∀ x ∈ G, m ≤ x) → Out adj (A ++ f :: B) (f :: B) seen (rings ++ [m])) ∧ (¬ isRing adj f G → Out adj (A ++ f :: B) (f :: B) seen rings) := by
  have fs : f ∈ seen := by
    rcases i.ld with q | q
    · exact q
    · exact nomatch q
  have o1 : ∀ u ∈ f :: B, u ∈ seen := fun u hu => by
    rcases List.mem_cons.mp hu with rfl | q
    · exact fs
    · exact (i.sn u).mpr (.inl (h.o1 u q))
  have o2 : ∀ x ∈ seen, ∀ y ∈ A ++ f :: B, x ∈ adj y → y ∈ seen := fun x hx y hy e => by
    rcases (i.sn x).mp hx with q | q
    · exact (i.sn y).mpr (.inl (h.o2 x q y hy e))
    · rcases i.cl x q y hy e with z | z
      · exact z
      · exact nomatch z
  have hof : f ∈ A ++ f :: B := List.mem_append.mpr (.inr (List.mem_cons_self ..))
  -- a group's nodes are reached by its leader
  have inA : ∀ u ∈ G, u ∈ A ++ [f] := fun u hu => by
    rcases List.mem_append.mp (i.bg u hu) with q | q
    · exact List.mem_append.mpr (.inl q)
    · rcases List.mem_cons.mp q with q | q
      · exact List.mem_append.mpr (.inr (List.mem_singleton.mpr q))
      · exact absurd (h.o1 u q) (i.no u hu)
  have to : ∀ x ∈ G, Rch adj x f := fun x hx => by
    obtain ⟨k, p⟩ := i.pa x hx
    exact p.rch
  have fro : ∀ x ∈ G, Rch adj f x := fun x hx => by
    obtain ⟨k, p⟩ := i.pa x hx
    exact back hn ho k k x (Nat.le_refl _) (p.mono inA)
  have fG : ∀ x ∈ G, f ∈ G := fun x hx => by
    obtain ⟨k, p⟩ := i.pa x hx
    exact p.last
  have yes : isRing adj f G → ∀ x ∈ G, OnC adj x := fun hr x hx => by
    have other : ∀ y ∈ G, y ≠ x → OnC adj x := fun y hy ne => by
      have r := (to x hx).trans (fro y hy)
      cases r with
      | refl => exact absurd rfl ne
      | @step _ v _ e r => exact ⟨v, e, r.trans ((to y hy).trans (fro x hx))⟩
    rcases hr with hr | ⟨rfl, e⟩
    · match G, hr, hx, other, i.nd with
      | a :: b :: t, _, hx, other, nd =>
        by_cases ea : a = x
        · refine other b (List.mem_cons_of_mem _ (List.mem_cons_self ..)) fun eb => ?_
          rw [ea, ← eb] at nd
          exact (List.nodup_cons.mp nd).1 (List.mem_cons_self ..)
        · exact other a (List.mem_cons_self ..) ea
    · rw [List.mem_singleton.mp hx]
      exact ⟨f, e, .refl f⟩
  have no : ¬ isRing adj f G → ∀ x ∈ G, ¬ OnC adj x := fun hr x hx oc => by
    have f1 := fG x hx
    have hl : G = [f] := by
      have hle : ¬ 1 < G.length := fun q => hr (.inl q)
      match G, hle, f1 with
      | [a], _, f1 => rw [List.mem_singleton.mp f1]
      | a :: b :: t, hle, _ => exact absurd (by rw [List.length_cons, List.length_cons]; omega) hle
    have nf : f ∉ adj f := fun q => hr (.inr ⟨hl, q⟩)
    rw [hl] at hx
    rw [List.mem_singleton.mp hx] at oc
    obtain ⟨v, e, r⟩ := oc
    have vo : v ∈ A ++ f :: B := all f hof v e
    have vs : v ∈ seen := pre_closed all o2 r vo fs
    rcases (i.sn v).mp vs with q | q
    · exact i.no f f1 (h.o2 v q f hof e)
    · rw [hl] at q
      rw [List.mem_singleton.mp q] at e
      exact nf e
  refine ⟨fun hr m hm hle => ⟨o1, o2, fun r q => ?_, fun u hu oc => ?_⟩, fun hr => ⟨o1, o2, h.r1, fun u hu oc => ?_⟩⟩
  · rcases List.mem_append.mp q with q | q
    · exact h.r1 r q
    · rw [List.mem_singleton.mp q]
      exact ⟨i.bg m hm, yes hr m hm⟩
  · rcases (i.sn u).mp hu with q | q
    · obtain ⟨r, h1, h2⟩ := h.r2 u q oc
      exact ⟨r, List.mem_append.mpr (.inl h1), h2⟩
    · exact ⟨m, List.mem_append.mpr (.inr (List.mem_singleton.mpr rfl)), hle u q⟩
  · rcases (i.sn u).mp hu with q | q
    · exact h.r2 u q oc
    · exact absurd oc (no hr u q)
end Scc
end G58

set_option Elab.async false
set_option linter.all false
set_option maxRecDepth 100000
set_option maxHeartbeats 4000000
/-! Small things: heaps that grow, rows of ints, lists or tuples. -/
namespace G58
open PySem PySem.Spec PyProof.Rows L2
theorem same_new {H H1 : Hp} (s : Same H H1) {d : Addr} {o : HO} (hd : H1 d = none) : Same H (upd H1 d o) := fun b u e => by
  rw [upd_ne (ne_of_none (s b u e) hd)]
  exact s b u e
theorem Same.tup {K : PySem.W.Frag} {H H' : Hp} {p : Addr} {xs : List V} (e : Same H H') (h : SqT K H p xs) : SqT K H' p xs := by
  rcases h with (h | ⟨o, h⟩) | h
  · exact .inl (.inl (e _ _ h))
  · exact .inl (.inr ⟨o, e _ _ h⟩)
  · exact .inr h
theorem ifNeT {c A B : Prop} [Decidable c] (hc : ¬ c) (h : A) : if (!decide c) = true then A else B := by
  rw [decide_eq_false hc]
  exact iteT h
theorem ifNeF {c A B : Prop} [Decidable c] (hc : c) (h : B) : if (!decide c) = true then A else B := by
  rw [decide_eq_true hc]
  exact iteF h
abbrev vInts (ns : List Nat) : List V := ns.map fun n => V.int (n : Nat)
theorem vInts_app (l r : List Nat) : vInts (l ++ r) = vInts l ++ vInts r := List.map_append ..
theorem vInts_rev (l : List Nat) : vInts l.reverse = (vInts l).reverse := List.map_reverse ..
theorem vInts_len (l : List Nat) : (vInts l).length = l.length := List.length_map ..
theorem vInts_at {l : List Nat} {i n : Nat} (h : l[i]? = some n) : (vInts l)[i]? = some (.int (n : Nat)) := by
  rw [List.getElem?_map, h]
  rfl
theorem vInts_get {l : List Nat} {i : Nat} {x : V} (h : (vInts l)[i]? = some x) : ∃ n, l[i]? = some n ∧ x = .int (n : Nat) := by
  rw [List.getElem?_map] at h
  obtain ⟨n, h1, h2⟩ := Option.map_eq_some_iff.mp h
  exact ⟨n, h1, h2.symm⟩
def Bytes (ns : List Nat) : Prop := ∀ n ∈ ns, n < 256
theorem Bytes.app {l r : List Nat} (a : Bytes l) (b : Bytes r) : Bytes (l ++ r) := fun n h => (List.mem_append.mp h).elim (a n) (b n)
theorem Bytes.nil : Bytes [] := fun n h => nomatch h
theorem Bytes.one {n : Nat} (h : n < 256) : Bytes [n] := fun m hm => by
  rw [List.mem_singleton.mp hm]
  exact h
/-- a list or a tuple -/
def SqB (K : PySem.W.Frag) (H : Hp) (p : Addr) (xs : List V) : Prop := SqL K H p xs ∨ SqT K H p xs
theorem SqB.same {K : PySem.W.Frag} {H H' : Hp} {p : Addr} {xs : List V} (h : SqB K H p xs) (s : Same H H') : SqB K H' p xs := h.imp (fun z => s.seq z) (fun z => Same.tup s z)
theorem SqB.lst {K : PySem.W.Frag} {H : Hp} {p : Addr} {xs : List V} (h : H p = some (.lst xs)) : SqB K H p xs := .inl (.inl (.inl h))
theorem SqB.tup {K : PySem.W.Frag} {H : Hp} {p : Addr} {xs : List V} (h : H p = some (.tup xs)) : SqB K H p xs := .inr (.inl (.inl h))
def rIxB (K : PySem.W.Frag) : R2 := fun x y H Q => ∃ p xs i v, x = .ref p ∧ y = .int i ∧ SqB K H p xs ∧ atI xs i = some v ∧ Q v H
def rSlB2 (K : PySem.W.Frag) : V → Option Int → Option Int → Hp → VK → Prop := fun x lo hi H Q => ∃ p xs, x = .ref p ∧ SqB K H p xs ∧ ∀ q H', Same H H' → SqB K H' q (cutV xs lo hi) → Q (.ref q) H'
section
variable {X : Cx}
theorem ix_b : IxR X (rIxB X.K) := by
  intro value slice pins s σ H x y v u Q Iv rx ry h hs
  obtain ⟨p, xs, i, z, e1, e2, hb, ha, q⟩ := h
  exact (ix_list.or ix_tup) value slice pins s σ H x y v u Q Iv rx ry (hb.imp (fun c => ⟨p, xs, i, z, e1, e2, c, ha, q⟩) (fun c => ⟨p, xs, i, z, e1, e2, c, ha, q⟩)) hs
theorem cut_whole {xs : List V} {lo hi : Option Int} (h : HT.sIx xs.length 0 lo = 0 ∧ HT.sIx xs.length xs.length hi = xs.length) : cutV xs lo hi = xs := by
  unfold cutV
  rw [h.1, h.2, List.drop_zero, Nat.sub_zero, List.take_length]
theorem sl_b : SlR X (rSlB2 X.K) := by
  intro pins s σ H x v vl vu lo hi sl Q Iv rx hs pl pu h
  obtain ⟨p, xs, e, hb, q⟩ := h
  refine (sl_list.or sl_tupA) pins s σ H x v vl vu lo hi sl Q Iv rx hs pl pu (hb.imp (fun c => ⟨p, xs, e, c, fun b hb => ?_⟩) (fun c => ⟨p, xs, e, c, fun hw => ?_, fun _ b hb => ?_⟩))
  · exact q b _ (same_new (Same.refl H) hb) (.lst upd_same)
  · exact q p H (Same.refl H) (by rw [cut_whole hw]; exact .inr c)
  · exact q b _ (same_new (Same.refl H) hb) (.tup upd_same)
end
theorem sIx_nat (n d a : Nat) : HT.sIx n d (some (a : Int)) = min a n := by
  unfold HT.sIx
  simp
  omega
/-- ns[a:b] -/
def cut (ns : List Nat) (a b : Nat) : List Nat := (ns.drop a).take (b - a)
theorem cut_len {ns : List Nat} {a b : Nat} (h : b ≤ ns.length) : (cut ns a b).length = b - a := by
  unfold cut
  rw [List.length_take, List.length_drop]
  omega
theorem mem_cut {ns : List Nat} {a b n : Nat} (h : n ∈ cut ns a b) : n ∈ ns := List.mem_of_mem_drop (List.mem_of_mem_take h)
theorem Bytes.cut {ns : List Nat} {a b : Nat} (h : Bytes ns) : Bytes (cut ns a b) := fun n hn => h n (mem_cut hn)
theorem cutV_ints (ns : List Nat) (a b : Nat) : cutV (vInts ns) (some (a : Int)) (some (b : Int)) = vInts (cut ns a b) := by
  unfold cutV cut
  rw [sIx_nat, sIx_nat, vInts_len]
  show _ = List.map _ (List.take _ (List.drop _ ns))
  rw [List.map_take, List.map_drop]
  by_cases ha : a ≤ ns.length
  · rw [Nat.min_eq_left ha]
    by_cases hb : b ≤ ns.length
    · rw [Nat.min_eq_left hb]
    · rw [Nat.min_eq_right (by omega)]
      rw [List.take_of_length_le (by rw [List.length_drop, List.length_map]; omega), List.take_of_length_le (by rw [List.length_drop, List.length_map]; omega)]
  · have e1 : ∀ k, (List.map (fun n : Nat => V.int (n : Nat)) ns).drop k = [] ∨ k < ns.length := fun k => by
      rcases Nat.lt_or_ge k ns.length with q | q
      · exact .inr q
      · exact .inl (List.drop_eq_nil_of_le (by rw [List.length_map]; exact q))
    have h1 := (e1 a).resolve_right (by omega)
    have h2 := (e1 (min a ns.length)).resolve_right (by omega)
    rw [h1, h2, List.take_nil, List.take_nil]
theorem cutV_tail (ns : List Nat) (a : Nat) : cutV (vInts ns) (some (a : Int)) none = vInts (cut ns a ns.length) := by
  have e := cutV_ints ns a ns.length
  rw [← e]
  unfold cutV
  rw [sIx_nat, sIx_nat, vInts_len, Nat.min_self]
  rfl
/-- the number of big-endian octets -/
def num (l : List Nat) : Nat := l.foldl (fun a b => a * 256 + b) 0
def snum (l : List Nat) : Int := if 128 ≤ l.headD 0 then (num l : Int) - 1 - (num (List.replicate l.length 255) : Nat) else (num l : Nat)
theorem num_snoc (l : List Nat) (b : Nat) : num (l ++ [b]) = num l * 256 + b := by
  unfold num
  rw [List.foldl_append]
  rfl
theorem flat_ints (k : Nat) (ns : List Nat) : (List.replicate k (vInts ns)).flatten = vInts (List.replicate k ns).flatten := by
  induction k with
  | zero => rfl
  | succ k ih => rw [List.replicate_succ, List.replicate_succ, List.flatten_cons, List.flatten_cons, vInts_app, ih]
theorem flat_one (k n : Nat) : (List.replicate k [n]).flatten = List.replicate k n := by
  induction k with
  | zero => rfl
  | succ k ih => rw [List.replicate_succ, List.replicate_succ, List.flatten_cons, ih]; rfl
end G58

set_option Elab.async false
set_option linter.all false
set_option pp.maxSteps 2500
set_option maxRecDepth 100000
set_option maxHeartbeats 4000000
/-! Defs that are entered where no container's text is being made; texts of containers. -/
namespace G58
open PySem PySem.Spec PyProof.Rows L2
/-- FnOk, entered with no guard on the stack -/
structure FnG (P : Program) (w : World) (K : PySem.W.Frag) (mg : Str → Option Value) (base : Heap) (CX : CXT) (k : Nat) (f : Addr) (fd : FuncData) (ps : List Str) (sp : Sp) : Prop where
  len : ∀ vs H Q E, sp vs H Q E → vs.length = ps.length
  run : ∀ (A : Around) (outer : List Env) (s : Shared) (H : Hp) (args : Args) (us : List Value) (vs : List V) (Q : VK) (E : XK), A.guards = some [] → Room k A → Env0 P w K mg base A outer s H → BindsTo s fd args (ps.zip us) → Vals vs us → sp vs H Q E →
    codeAny (model P w) A (.call (.ref f) args) (CR CX outer P w H s Q E) s
section
variable {P : Program} {w : World} {K : PySem.W.Frag} {mg : Str → Option Value} {base : Heap}
/-- a def by its body, where no guard stands on the stack -/
theorem okG {x qual : Str} {st : Stmt} {f : Addr} {fd : FuncData} {N ps : List Str} {k : Nat} {sp : Sp} (F : Fun K x qual st f fd) (S : FnScope N ps (defScope st)) (len : ∀ vs H Q E, sp vs H Q E → vs.length = ps.length)
    (hbody : ∀ (cdv : Value) (A : Around) (outer : List Env) (s : Shared) (H : Hp) (vs : List V) (Q : VK) (E : XK), (A.deeper (envOfC qual (defScope st) s.heap.objs.size f cdv)).guards = some [] → Room k (A.deeper (envOfC qual (defScope st) s.heap.objs.size f cdv)) → sp vs H Q E →
      ∃ t, PSs (cxOf CX0 P w K mg base N qual (defScope st) f cdv A outer s H E).nox (defBody st) t ∧ t { nx := fun _ H' => Q .non H', rt := Q } (start N vs) H) : FnG P w K mg base CX0 (k + 1) f fd ps sp := by
  obtain ⟨oc, od, kV, doc, pm, an, cdv, ct, osl, rfl, lk, hcd⟩ := F.ex
  refine ⟨len, fun A outer s H args us vs Q E hgu hr e0 hb r hsp => ?_⟩
  have hlen := len _ _ _ _ hsp
  have inK : K.In s.heap := e0.mod.kin.keeps fun b o e => (e0.bs b o e).1
  have noLim : s.heap.NoLimit := e0.mod.nolimit.keeps fun b o e => (e0.bs b o e).1
  have kinds : ∀ y ∈ ps.zip us, (defScope st).names.lookup y.1 = some .local ∨ ((defScope st).names.lookup y.1 = some .cell ∧ ((cellsFrom (s.heap.objs.size + 1) (defScope st).names []).lookup y.1).isSome = true) := by
    rintro ⟨n, v⟩ hy
    exact (S.par n (List.of_mem_zip hy).1).imp id fun q => ⟨q, PySem.W.cellsFrom_some _ _ _ (.inl q)⟩
  refine codeAny_call_function hr.depth (inK _ _ lk) rfl S.co S.gen rfl (PySem.W.codeRec_of inK hcd) (hb _ _ _ _ ?_)
  refine wpAny_newFunctionEnv_cells S.kind kinds fun env he s1 entered => ?_
  subst he
  refine ⟨noLim.keeps entered.toInCall.keep, codeAny_func ?_⟩
  obtain ⟨t, ht0, hq⟩ := hbody cdv A outer s H vs Q E hgu (hr.deeper _) hsp
  have ht := ht0.nox
  have I0 : Inv (cxOf CX0 P w K mg base N qual (defScope st) f cdv A outer s H E) [] (start N vs) H s1 := inv_start S hr.hd e0 hlen r entered
  refine wpAny_mono (ht.run [] s1 (start N vs) H _ I0 hq) (fun fl s' hs => ?_) fun _ _ hs => hs
  cases fl with
  | ret u =>
    obtain ⟨v, σ', H', J, rv, q⟩ := hs
    exact ⟨v, H', J.os, J.bare, J.base, J.hok, rv, q⟩
  | next =>
    obtain ⟨σ', H', J, q⟩ := hs
    exact ⟨.non, H', J.os, J.bare, J.base, J.hok, rfl, q⟩
  | brk =>
    obtain ⟨_, _, _, q⟩ := hs
    exact q.elim
  | cont =>
    obtain ⟨_, _, _, q⟩ := hs
    exact q.elim
end
section
variable {X : Cx} {CX : CXT} {k : Nat} {f : Addr} {fd : FuncData} {ps : List Str} {sp : Sp} {ds : List Value} {dvs : List V} {E : XK} {x : Str} {p pos : Pos} {e : Expr} {es : List Expr} {t : TA}
theorem run_G {pins : List (Addr × Obj)} {σ : L2.St} {H : Hp} {s : Shared} {Q : VK} {us : List Value} {vs : List V} (hgu : X.A.guards = some []) (F : FnG X.prog X.w X.K X.mg X.base CX k f fd ps sp) (hr : Room k X.A) (hb : Binds X.K fd ps ds) (hd : Vals dvs ds) (hx : Passes CX X E)
    (I : Inv X pins σ H s) (r : Vals vs us) (h : sp (vs ++ dvs) H Q E) : wpAny (model X.prog X.w) X.A (call (.ref f) us) (EP X pins σ Q) X.xe s := by
  have rAll : Vals (vs ++ dvs) (us ++ ds) := r.append hd
  have hlen : (us ++ ds).length = ps.length := rAll.length.symm.trans (F.len _ _ _ _ h)
  refine wpAny_call (codeAny_mono (F.run X.A X.stack s H ⟨us, []⟩ (us ++ ds) (vs ++ dvs) Q E hgu hr I.env0 (hb s us I.kIn hlen) rAll h) fun r s' hq => ?_)
  cases r with
  | error e => exact hx pins σ H s e s' I hq
  | ok fl =>
    cases fl with
    | ret u => exact I.after hq
    | next => exact hq.elim
    | brk => exact hq.elim
    | cont => exact hq.elim
theorem pe_callG (hgu : X.A.guards = some []) (F : FnG X.prog X.w X.K X.mg X.base CX k f fd ps sp) (hr : Room k X.A) (hg : Gl X x) (hm : X.mg x = some (.ref f)) (hk : PySem.W.keepIn X.K (.ref f) = true) (hb : Binds X.K fd ps ds) (hd : Vals dvs ds) (hx : Passes CX X E)
    (ha : PA X (e :: es) t) (hdb : (x == ("__debug__" : Str)) = false := by decide) (he : starEach (e :: es) X.env = (false, eval e X.env) :: starEach es X.env := by rfl) (hpl : (backTo pos (starEach es X.env)).any (·.1) = false := by rfl) :
    PE X (.Call (.Name x p) (e :: es) [] pos) (tCall sp dvs E t) :=
  ⟨fun pins s σ H Q I h => wpAny_Call_Name_kw (ld_glob I hg hm (PySem.W.callWith_K (h₀ := X.base) I.ok.mod.kin hk (thn (ha.run pos pins s σ H _ I h) fun _ _ ⟨_, _, I1, r, q⟩ => ⟨I1.kIn, run_G hgu F hr hb hd hx I1 r q⟩) he hpl) hdb)⟩
/-- repr(x) of lists and tuples -/
theorem call_reprD {X : Cx} (hgu : X.A.guards = some []) (hu : X.A.units + 64 < cLine) : CallR X (.builtin "repr") (fun xs H Q => ∃ (a : Addr) (d : PyData), xs = [.ref a] ∧ Dp X.K H (.ref a) d ∧ d.showable = true ∧ d.hasDict = false ∧ d.depth ≤ 60 ∧ d.shown.length ≤ sizeLine ∧ Q (.str d.shown) H) := by
  intro pins s σ H xs us Q I r h
  obtain ⟨a, d, rfl, hd, hs, hdd, hdp, hz, q⟩ := h
  obtain ⟨u, rfl, ru⟩ := r.one
  cases ru
  obtain ⟨as, rd⟩ := Dp.reads I d _ _ hd rfl
  exact PySem.repr_of_reads' rd hs (fun z => by rw [hdd] at z; cases z) hgu (by omega) (fun _ _ e => e) (fun h' u tk hk => ⟨.str d.shown, H, I.kept hk, ⟨u, rfl⟩, q⟩) hz
/-- the law, called with no guard on the stack -/
theorem law_callG {P : Program} {w : World} {K : PySem.W.Frag} {mg mb : Str → Option Value} {k : Nat} {fa a : Addr} {fd : FuncData} {x : Str} {sp : Sp} {s₁ : Shared} {vs : List Value} {ns : List Int}
    (KX : K.In s₁.heap) (hns : s₁.heap.Ns mainGlobals mg) (hb : s₁.heap.Ns builtinsNs mb) (hbb : ∀ x : Str, x ≠ "__name__" → mb x = bootBuiltins x) (hlim : s₁.heap.NoLimit) (hg : s₁.gens = #[])
    (ha : s₁.heap.get? a = some { cls := .type "list", data := .seq vs.toArray }) (hi : IntsAre vs ns) (hl : ns.length ≤ sizeLine) (hr : Room k callerA)
    (F : ∀ base : Heap, K.In base → base.Ns mainGlobals mg → FnG P w K mg base CX0 k fa fd [x] sp) (hbind : ∀ (s : Shared) (u : Value), BindsTo s fd ⟨[u], []⟩ [(x, u)])
    (hsp : ∀ H : Hp, SqL K H a (ns.map V.int) → sp [.ref a] H (fun v _ => v = .bl true) fun _ _ _ => False) :
    codeAny (model P w) callerA (.call (.ref fa) ⟨[.ref a], []⟩) (fun r s' => r = .ok (.ret (.bool true)) ∧ OldK s₁.heap s'.heap ∧ s'.os = s₁.os ∧ AllBare s'.gens) s₁ := by
  have rv := vals_ints hi
  have lv := hi.length
  -- from a heap in which at most the script is tracked
  have core : ∀ H : Hp, SqL K H a (ns.map V.int) → HOk P w H s₁.heap → (∀ b o, H b = some o → b = a ∧ K.lookup a = none ∧ ∃ ob, o = .frz ob (.lst (ns.map V.int))) →
      codeAny (model P w) callerA (.call (.ref fa) ⟨[.ref a], []⟩) (fun r s' => r = .ok (.ret (.bool true)) ∧ OldK s₁.heap s'.heap ∧ s'.os = s₁.os ∧ AllBare s'.gens) s₁ := by
    intro H hS hok hA
    have off : ∀ {b : Addr}, b ≠ a → H b = none := fun {b} n => by
      cases q : H b with
      | none => rfl
      | some o => exact absurd (hA b o q).1 n
    have low : ∀ {b : Addr} {o : Obj}, s₁.heap.get? b = some o → (∀ us n, o.data ≠ .seq us n) → (hidT s₁.heap H).get? b = some o := fun {b o} e n => hidT_get e (off fun z => by
      rw [z, ha] at e
      cases e
      exact n _ _ rfl)
    have ns' : ∀ {b : Addr} {m : Str → Option Value}, s₁.heap.Ns b m → (hidT s₁.heap H).Ns b m := fun {b m} ⟨o, es, ep, e, d, r⟩ => ⟨o, es, ep, low e (fun us n z => by rw [d] at z; cases z), d, r⟩
    have kIn : K.In (hidT s₁.heap H) := fun b o e => hidT_get (KX b o e) (by
      cases q : H b with
      | none => rfl
      | some u =>
        obtain ⟨rfl, hk, _⟩ := hA b u q
        rw [hk] at e
        cases e)
    obtain ⟨mc, l1, l2⟩ := hlim
    have md : L2.Mod K mg (hidT s₁.heap H) := ⟨kIn, ns' hns, ⟨mb, ns' hb, hbb⟩, ⟨mc, ns' l1, l2⟩⟩
    have e0 : Env0 P w K mg (hidT s₁.heap H) callerA [] s₁ H := ⟨rfl, md, fun b o e => of_hidT e, Nat.le_of_eq (hidT_size _ _), trivial, (fun b z => nomatch z), hok, .of_eq hg⟩
    refine codeAny_mono ((F _ kIn (ns' hns)).run callerA [] s₁ H ⟨[.ref a], []⟩ [.ref a] [.ref a] _ _ rfl hr e0 (hbind s₁ (.ref a)) (.cons rfl .nil) (hsp H hS)) fun r s' h => ?_
    cases r with
    | error e =>
      exact h.elim
    | ok fl =>
      cases fl with
      | next => exact h.elim
      | brk => exact h.elim
      | cont => exact h.elim
      | ret u =>
        obtain ⟨v, H', os, bare, un, hok', r', q⟩ := h
        have q' : v = .bl true := q
        subst q'
        obtain rfl : u = Value.bool true := r'
        have same : ∀ b o, s₁.heap.get? b = some o → s'.heap.get? b = some o := fun b o e => by
          cases q : H b with
          | none => exact un.keep b o e q (fun z => nomatch z) (fun z => nomatch z)
          | some u =>
            obtain ⟨_, _, ob, rfl⟩ := hA b u q
            obtain ⟨e1, _⟩ := hok b _ q
            obtain ⟨e2, _⟩ := hok' b _ (un.frzs b ob _ q)
            rw [e] at e1
            cases e1
            exact e2
        exact ⟨rfl, ⟨fun b o e => .inl (same b o e), fun b o e => ⟨o, same b o e⟩⟩, os, bare⟩
  cases hk : K.lookup a with
  | some o =>
    have e := KX a o hk
    rw [ha] at e
    cases e
    exact core (fun _ => none) (.inr ⟨_, vs.toArray, _, hk, rfl, rfl, rfl, by rw [List.size_toArray, lv]; exact hl, by simpa using rv⟩) (fun b u z => nomatch z) (fun b o z => nomatch z)
  | none =>
    refine core (fun b => if b = a then some (.frz { cls := .type "list", data := .seq vs.toArray } (.lst (ns.map V.int))) else none) (.inl (.inr ⟨{ cls := .type "list", data := .seq vs.toArray }, if_pos rfl⟩)) (fun b u z => ?_) (fun b o z => ?_)
    · by_cases hb : b = a
      · have z' := (if_pos hb).symm.trans z
        cases z'
        rw [hb]
        exact ⟨ha, by rw [List.length_map]; exact hl, vs, _, rv, ha⟩
      · have z' := (if_neg hb).symm.trans z
        cases z'
    · by_cases hb : b = a
      · have z' := (if_pos hb).symm.trans z
        cases z'
        exact ⟨hb, hk, _, rfl⟩
      · have z' := (if_neg hb).symm.trans z
        cases z'
/-- what the top must have written for such a law -/
def LawG (l : PySem.W.OpenLaw) (w : World) (K : PySem.W.Frag) (k n : Nat) (x : Str) (mg : Str → Option Value) (fa : Addr) : Prop :=
  ∃ (fd : FuncData) (sp : Sp), (∀ (s : Shared) (u : Value), BindsTo s fd ⟨[u], []⟩ [(x, u)]) ∧
    (∀ (H : Hp) (a : Addr) (ns : List Int), ns.length ≤ n → SqL K H a (ns.map V.int) → sp [.ref a] H (fun v _ => v = .bl true) fun _ _ _ => False) ∧
    ∀ base : Heap, K.In base → base.Ns mainGlobals mg → FnG l.prog w K mg base CX0 k fa fd [x] sp
theorem walk_G {l : PySem.W.OpenLaw} {n k : Nat} {q : Program} {loose : List Str} {XP : (Str → Option Value) → Heap → Prop} {YP : World → Heap → Prop} {d : DefRec} {K : Params → PySem.W.Frag} {x : Str}
    (hn : l.most = some n) (hn2 : n ≤ sizeLine) (hdf : d.params.defaults = []) (hr : Room k callerA) (hY : ∀ (w : World) (h : Heap), YP w h → (K w.params).In h)
    (F : ∀ (w : World) (mg : Str → Option Value) (fa : Addr) (h : Heap), YP w h → (K w.params).In h → h.Ns mainGlobals mg → mg d.name = some (.ref fa) → LawG l w (K w.params) k n x mg fa) :
    PySem.W.WalkO q loose XP YP l.row.toRowW d [] (fun f vs => PySem.call f vs) :=
  Att.attach_callB hn hdf fun w s₀ s₁ mg mb fa o pm cd doc a vs ns G Y _ _ _ hmg hobj hints hlen _ hg => by
    obtain ⟨fd, sp, hb, hsp, hF⟩ := F w mg fa _ Y (hY w _ Y) G.T.g hmg
    exact law_callG (hY w _ Y) G.T.g G.T.b G.T.builtins G.T.nolimit hg hobj hints (Nat.le_trans hlen hn2) hr hF hb fun H hS => hsp H a ns hlen hS
end
end G58

set_option Elab.async false
set_option linter.all false
set_option pp.maxSteps 2500
set_option maxRecDepth 100000
set_option maxHeartbeats 4000000
/-! Own errors as values: made by position and by keyword, their classes, fields, methods. -/
namespace PySem
namespace HandSPX
open PySem.W PySem.Calls PyProof.Rows
section
variable {M : Model} {A : Around} {E : Value → Shared → Prop} {h : Heap} {g : Array GenState} {d : Drawn} {t : Nat} {os : OsState}
variable {nm q : Str} {C N : Addr} {bs bm bmB : List Value} {hdct : Bool} {sn : List Str} {sub : List Value} {ab : Bool} {col : Option Bool} {dd : Option Addr} {k0 k1 k2 k3 k5 : Option Value} {B newId initId : String}
theorem check_new_kw (F : ExcBaseFacts B newId initId bmB) (hT : ∀ X : String, bm.contains (.type X) = bmB.contains (.type X)) {rest : List Value} {kw : List (Str × Value)} {Q : Unit → Shared → Prop}
    (hC : h.get? C = some (excClassObj nm q C N bs bm hdct sn sub ab col dd k0 k1 k2 k3 k5 newId)) (hq : Q () ⟨h, g, d, t, os⟩) : wpAny M A (checkBuiltinCall newId ⟨.ref C :: rest, kw⟩) Q E ⟨h, g, d, t, os⟩ := by
  have hcont : (Value.ref C :: bm).contains (.type B) = true := by rw [List.contains_cons, hT, F.hasB, Bool.or_true]
  have hstar := F.noStar
  simp only [checkBuiltinCall, F.newKind, F.newSplit, F.newRow]
  repeat (first | refine wpAny_loadPart_at hC ?_ | (refine wpAny_isSubtype_exc hC ?_; rw [hcont]) | refine wpAny_staticBase_exc hC ?_ | refine wpAny_madeBy_exc hC ?_ | simp only [bne_self_eq_false, Bool.false_eq_true, if_false] | wp_step)
  exact hq
end
section
variable {prog : Program} {w : World} {A : Around} {E : Value → Shared → Prop} {R : Result → Shared → Prop} {h : Heap} {g : Array GenState} {d : Drawn} {t : Nat} {os : OsState}
variable {nm q : Str} {C N : Addr} {bs bm bmB : List Value} {hdct : Bool} {sn : List Str} {sub : List Value} {ab : Bool} {col : Option Bool} {dd : Option Addr} {k0 k1 k2 k3 k5 : Option Value} {B newId initId : String}
theorem new_kw (F : ExcBaseFacts B newId initId bmB) (hT : ∀ X : String, bm.contains (.type X) = bmB.contains (.type X)) {rest : List Value} {kw : List (Str × Value)}
    (hC : h.get? C = some (excClassObj nm q C N bs bm hdct sn sub ab col dd k0 k1 k2 k3 k5 newId))
    (hq : R (.ok (.ret (.ref (h.objs.size + 1)))) ⟨(h.push { cls := .type "tuple", data := .seq rest.toArray }).push
      { cls := .ref C, data := .fields #[.ref h.objs.size, .none, .none, .none, .bool false, .none] }, g, d, t, os⟩) (hrest : rest.length ≤ sizeLine) :
    codeAny (model prog w) A (.builtin newId ⟨.ref C :: rest, kw⟩) R ⟨h, g, d, t, os⟩ := by
  have hends := F.ends
  have hcB : (Value.ref C :: bm).contains (.type B) = true := by rw [List.contains_cons, hT, F.hasB, Bool.or_true]
  have hcA : (Value.ref C :: bm).contains (.type "AttributeError") = false := by rw [List.contains_cons, hT, F.noAttr]; rfl
  have hcN : (Value.ref C :: bm).contains (.type "NameError") = false := by rw [List.contains_cons, hT, F.noName]; rfl
  refine codeAny_builtinAt F.entry ?_
  unfold Builtin.«BaseException.__new__»
  refine wpAt_bind ?_
  show wpAt _ _ _ (stack >>= _) _ _ _
  refine wpAt_bind (wpAt_stack fun p below => wpAt_of_wpAny ?_)
  wp_walk
  refine wpAt_of_wpAny ?_
  rw [F.owner]
  repeat (first | with_reducible refine wpAny_madeHere_exc F.canon hC ?_ | with_reducible refine wpAny_loadPart_at hC ?_ | (with_reducible refine wpAny_isSubtype_exc hC ?_; first | rw [hcB] | rw [hcA] | rw [hcN]) | wp_step)
  show R _ _
  rw [Heap.size_push]
  exact hq
theorem type_call_kw (F : ExcBaseFacts B newId initId bmB) (hT : ∀ X : String, bm.contains (.type X) = bmB.contains (.type X)) {rest : List Value} {kw : List (Str × Value)} {fI : Addr} {Q : Fin → Shared → Prop}
    (hC : h.get? C = some (excClassObj nm q C N bs bm hdct sn sub ab col dd k0 k1 k2 k3 k5 newId))
    (hi : W.Looks (model prog w) h (typeLookup (.ref C) "__init__") (some (.ref fI))) (hb : ∀ self, W.Looks (model prog w) h (bindSpecial (.ref fI) self) (.ref fI, [self])) (hrest : rest.length ≤ sizeLine)
    (hq : codeAny (model prog w) A (.call (.ref fI) ⟨.ref (h.objs.size + 1) :: rest, kw⟩)
      (fun r s' => match r with | .ok (.ret v) => v = .none ∧ Q (.done (.ret (.ref (h.objs.size + 1)))) s' | .ok _ => False | .error e => E e s')
      ⟨(h.push (W.kdv_tup rest)).push (excO C h.objs.size), g, d, t, os⟩) :
    wpAny (model prog w) A (Builtin.«type.__call__» ⟨.ref C :: rest, kw⟩) Q E ⟨h, g, d, t, os⟩ := by
  repeat (first | with_reducible refine wpAny_loadPart_at hC ?_ | with_reducible refine wpAny_madeBy_exc hC ?_ | wp_step)
  refine codeAny_call_builtin_code (Code.quiet_builtin _ F.quiet) (check_new_kw F hT hC ?_)
  refine new_kw F hT hC ?_ hrest
  show wpAny _ _ _ _ _ _
  have k : ∀ b o, h.get? b = some o → ((h.push (W.kdv_tup rest)).push (excO C h.objs.size)).get? b = some o := fun b o e => Heap.get?_push_of_some _ (Heap.get?_push_of_some _ e)
  have hC₁ := k _ _ hC
  have hget : ((h.push (W.kdv_tup rest)).push (excO C h.objs.size)).get? (h.objs.size + 1) = some (excO C h.objs.size) := by heap_get
  have hcC : (Value.ref C :: bm).contains (.ref C) = true := by simp
  have i1 := hi.keeps k
  have b1 := (hb (.ref (h.objs.size + 1))).keeps k
  unfold isInstance
  repeat (first | with_reducible refine wpAny_loadPart_at hget ?_ | (with_reducible refine wpAny_isSubtype_exc hC₁ ?_; rw [hcC]) | wp_step)
  show wpAny _ _ (typeLookup (.ref C) _) _ _ _
  refine i1.at ?_
  refine wpAny_holding (wpAny_bind (b1.at ?_))
  refine wpAny_bind (wpAny_call (codeAny_mono hq fun r s' z => ?_))
  rcases r with e | (v | _ | _ | _) <;> first | exact z | exact z.elim | skip
  obtain ⟨rfl, z⟩ := z
  first
    | exact wpAny_pure (wpAny_pure z)
    | (wp_walk; exact z)
theorem call_kw (F : ExcBaseFacts B newId initId bmB) (hT : ∀ X : String, bm.contains (.type X) = bmB.contains (.type X)) {rest : List Value} {kw : List (Str × Value)} {fI : Addr}
    (hC : h.get? C = some (excClassObj nm q C N bs bm hdct sn sub ab col dd k0 k1 k2 k3 k5 newId))
    (hi : W.Looks (model prog w) h (typeLookup (.ref C) "__init__") (some (.ref fI))) (hb : ∀ self, W.Looks (model prog w) h (bindSpecial (.ref fI) self) (.ref fI, [self])) (hrest : rest.length ≤ sizeLine)
    (hq : codeAny (model prog w) (A.under (.builtin "type.__call__" ⟨.ref C :: rest, kw⟩)) (.call (.ref fI) ⟨.ref (h.objs.size + 1) :: rest, kw⟩) (W.InitBack (h.objs.size + 1) R)
      ⟨(h.push (W.kdv_tup rest)).push (excO C h.objs.size), g, d, t, os⟩) :
    codeAny (model prog w) A (.call (.ref C) ⟨rest, kw⟩) R ⟨h, g, d, t, os⟩ := by
  have f1 := tc_lookup
  have f2 := tc_bind (.ref C)
  have hTy : (⟨h, g, d, t, os⟩ : Shared).TypeIs (.ref C) "type" := ⟨_, hC, rfl⟩
  refine codeAny_of_tree ?_
  show wpAny _ _ (callAny (.ref C) _) _ _ _
  repeat (any_goals (first | assumption | with_reducible refine wpAny_loadPart_at hC ?_ | wp_step))
  refine ⟨rfl, ?_⟩
  refine codeAny_call_builtin_at (Code.quiet_builtin _ (by decide +kernel)) entry_typeCall (wpAny_check_type_call_sub hC (type_call_kw F hT hC hi hb hrest ?_))
  refine codeAny_mono hq fun r s' z => ?_
  rcases r with e | (v | _ | _ | _) <;> exact z
end
end HandSPX
end PySem

set_option Elab.async false
set_option linter.all false
set_option pp.maxSteps 2500
set_option maxRecDepth 100000
set_option maxHeartbeats 4000000
/-! Own errors as values: the rules. -/
namespace G58
open PySem PySem.Spec PyProof.Rows L2
/-- keywords named ks behind n values; no defaults -/
theorem kbn_of {K : PySem.W.Frag} {x qual : Str} {st : Stmt} {f : Addr} {fd : FuncData} {ps ks : List Str} {n : Nat} (F : Fun K x qual st f fd) (g : {α : Type} → List α → List α → List α)
    (hrel : ∀ {vs : List V} {us : List Value} {zs : List V} {ws : List Value}, Vals vs us → Vals zs ws → Vals (g vs zs) (g us ws))
    (h : ∀ (kV doc pm : Value) (an : Option Addr) (cdv ct : Value) (us ws : List Value), us.length = n → ws.length = ks.length → bindArgs (PySem.W.fnOf x qual (defArgs st) (defBody st) (defScope st) .none kV doc pm an cdv ct) ⟨us, ks.zip ws⟩ = pure (ps.zip (g us ws))) :
    KBn K fd ps n ks (fun us ws => g us ws) (fun vs zs => g vs zs) := by
  obtain ⟨oc, od, kV, doc, pm, an, cdv, ct, osl, rfl, lk, hcd⟩ := F.ex
  exact ⟨fun s us ws _ l1 l2 => BindsTo.of_eq (h kV doc pm an cdv ct us ws l1 l2), fun r1 r2 => hrel r1 r2⟩
/-- C(.., k = v, ..), an own error with its own __init__, as a value -/
def tOex (C : Addr) (n m : Nat) (sp : Sp) (gV : List V → List V → List V) (t tk : TA) : TE := fun σ H Q => t σ H fun vs H1 => tk σ H1 fun zs H2 => vs.length = n ∧ zs.length = m ∧
  ∀ a, H2 a = none → sp (gV (.ref a :: vs) zs) (upd H2 a (exo a C none)) (fun v H3 => v = .non ∧ Q (.ref a) H3) fun _ _ _ => False
section
variable {X : Cx} {CX : CXT} {k n : Nat} {f C : Addr} {fd : FuncData} {ps ks : List Str} {sp : Sp} {x m : Str} {p pos apos : Pos} {e o : Expr} {es : List Expr} {kws : List Keyword} {te ta : TE} {t tk : TA} {g : List Value → List Value → List Value} {gV : List V → List V → List V}
theorem run_oex {pins : List (Addr × Obj)} {σ : L2.St} {H : Hp} {s : Shared} {Q : VK} {us ws : List Value} {vs zs : List V} (T : OexC X.K C) (iC : PySem.W.findIn X.K (.ref C) "__init__" = some (some (.ref f))) (tI : PySem.W.typeIn X.K (.ref f) = some (.type "function"))
    (F1 : FnOk X.prog X.w X.K X.mg X.base CX k f fd ps sp) (hr : Room (k + 1) X.A) (hb : KBn X.K fd ps (n + 1) ks g gV) (hx : Passes CX X (fun _ _ _ => False)) (hn : n ≤ 1000) (I : Inv X pins σ H s) (r : Vals vs us) (rz : Vals zs ws) (l1 : vs.length = n) (l2 : zs.length = ks.length)
    (h : ∀ a, H a = none → sp (gV (.ref a :: vs) zs) (upd H a (exo a C none)) (fun v H3 => v = .non ∧ Q (.ref a) H3) fun _ _ _ => False) :
    wpAny (model X.prog X.w) X.A (call (.ref C) us (ks.zip ws)) (EP X pins σ Q) X.xe s := by
  obtain ⟨nm, q, N, bs, bm, sn, sub, ab, col, dd, k0, k1, k2, k3, k5, hC, hbm⟩ := T.cls
  obtain ⟨hp, gg, dr, tok, os⟩ := s
  have hsz : hp.objs.size ≤ hp.objs.size + 1 := Nat.le_succ _
  have hn0 : H (hp.objs.size + 1) = none := I.hok.fresh hsz
  have hq := h (hp.objs.size + 1) hn0
  have kk : ∀ b o, hp.get? b = some o → ((hp.push (PySem.W.kdv_tup us)).push (PySem.HandSPX.excO C hp.objs.size)).get? b = some o := fun b o e => Heap.get?_push_of_some _ (Heap.get?_push_of_some _ e)
  have hget : ((hp.push (PySem.W.kdv_tup us)).push (PySem.HandSPX.excO C hp.objs.size)).get? (hp.objs.size + 1) = some (PySem.HandSPX.excO C hp.objs.size) := by heap_get
  have I2 : Inv X pins σ (upd H (hp.objs.size + 1) (exo (hp.objs.size + 1) C none)) ⟨(hp.push (PySem.W.kdv_tup us)).push (PySem.HandSPX.excO C hp.objs.size), gg, dr, tok, os⟩ :=
    I.laid (t' := tok) (a := hp.objs.size + 1) (o := exo (hp.objs.size + 1) C none) (h' := (hp.push (PySem.W.kdv_tup us)).push (PySem.HandSPX.excO C hp.objs.size)) kk hsz (exo_ok hget)
  have r1 : Vals (V.ref (hp.objs.size + 1) :: vs) (Value.ref (hp.objs.size + 1) :: us) := .cons rfl r
  have r2 := hb.rel r1 rz
  have n1 : (Value.ref (hp.objs.size + 1) :: us).length = n + 1 := r1.length.symm.trans (congrArg Nat.succ l1)
  have n2 : ws.length = ks.length := rz.length.symm.trans l2
  have hus : us.length ≤ sizeLine := by
    rw [← r.length, l1, sizeLine_eq]
    omega
  refine wpAny_call (PySem.HandSPX.call_kw F.excBase_ValueError (fun Y => PySem.HandSPX.refsVE_contains Y bm hbm) (I.kIn _ _ hC) (PySem.W.looks_findIn I.kIn iC) (fun self => PySem.W.bind_fn I.kIn self tI) hus
    (codeAny_mono (F1.run _ X.stack _ _ ⟨Value.ref (hp.objs.size + 1) :: us, ks.zip ws⟩ (g (Value.ref (hp.objs.size + 1) :: us) ws) _ _ (fun _ _ _ => False) (hr.make C us (ks.zip ws)) (I2.env0.make C us (ks.zip ws)) (hb.to _ (Value.ref (hp.objs.size + 1) :: us) ws I2.kIn n1 n2) r2 hq) fun r s' hq' => ?_))
  cases r with
  | error er => exact hx pins σ _ _ er s' I2 hq'
  | ok fl =>
    cases fl with
    | ret u =>
      obtain ⟨v, H', I3, rv, ev, q3⟩ := I2.after hq'
      subst ev
      exact ⟨rv, ⟨V.ref (hp.objs.size + 1), H', I3, rfl, q3⟩⟩
    | next => exact False.elim hq'
    | brk => exact False.elim hq'
    | cont => exact False.elim hq'
/-- C(e, ..) -/
theorem pe_oex (T : OexC X.K C) (iC : PySem.W.findIn X.K (.ref C) "__init__" = some (some (.ref f))) (tI : PySem.W.typeIn X.K (.ref f) = some (.type "function")) (F1 : FnOk X.prog X.w X.K X.mg X.base CX k f fd ps sp) (hr : Room (k + 1) X.A) (hb : KBn X.K fd ps (n + 1) [] g gV)
    (hx : Passes CX X (fun _ _ _ => False)) (hn : n ≤ 1000) (hg : Gl X x) (hm : X.mg x = some (.ref C)) (ha : PA X (e :: es) t)
    (hdb : (x == ("__debug__" : Str)) = false := by decide) (he : starEach (e :: es) X.env = (false, eval e X.env) :: starEach es X.env := by rfl) (hpl : (backTo pos (starEach es X.env)).any (·.1) = false := by rfl) :
    PE X (.Call (.Name x p) (e :: es) [] pos) (tOex C n 0 sp gV t tNil) := by
  refine ⟨fun pins s σ H Q I h => ?_⟩
  refine wpAny_Call_Name_kw (ld_glob I hg hm ?_ hdb)
  refine PySem.W.callWith_K (h₀ := X.base) I.ok.mod.kin T.kC (thn (ha.run pos pins s σ H _ I h) fun us s1 ⟨vs, H1, I1, r1, l1, _, q1⟩ => ⟨I1.kIn, ?_⟩) he hpl
  exact run_oex (ks := []) (ws := []) (zs := []) T iC tI F1 hr hb hx hn I1 r1 .nil l1 rfl q1
/-- C(k = v, ..) -/
theorem pe_oexK (T : OexC X.K C) (iC : PySem.W.findIn X.K (.ref C) "__init__" = some (some (.ref f))) (tI : PySem.W.typeIn X.K (.ref f) = some (.type "function")) (F1 : FnOk X.prog X.w X.K X.mg X.base CX k f fd ps sp) (hr : Room (k + 1) X.A) (hb : KBn X.K fd ps 1 ks g gV)
    (hx : Passes CX X (fun _ _ _ => False)) (hg : Gl X x) (hm : X.mg x = some (.ref C)) (hkw : PK X kws tk)
    (hall : (backToKw pos (keywordEach kws X.env)).all (·.1.isSome) = true := by rfl) (hks : (backToKw pos (keywordEach kws X.env)).filterMap (·.1) = ks := by rfl) (hdb : (x == ("__debug__" : Str)) = false := by decide)
    (hpl : ((backTo pos (starEach [] X.env)).any (·.1) || (backToKw pos (keywordEach kws X.env)).any (·.1.isNone)) = false := by rfl) :
    PE X (.Call (.Name x p) [] kws pos) (tOex C 0 ks.length sp gV tNil tk) := by
  refine ⟨fun pins s σ H Q I h => ?_⟩
  refine wpAny_Call_Name_kw (ld_glob I hg hm ?_ hdb)
  refine PySem.W.callWith_KW0 (h₀ := X.base) I.ok.mod.kin T.kC hall ?_ hpl
  refine thn (hkw.run pos pins s σ H _ I h) fun ws s2 ⟨zs, H2, I2, rz, l1, l2, q2⟩ => ⟨I2.kIn, ?_⟩
  rw [hks]
  exact run_oex (us := []) (vs := []) (n := 0) T iC tI F1 hr hb hx (Nat.zero_le _) I2 .nil rz rfl l2 q2
/-- C(), an own error without own __init__, as a value -/
theorem pe_oex0 (q : PySem.W.excIn X.K C [.type "ValueError", .type "Exception", .type "BaseException", .type "object"] "ValueError.__new__" = true) (kC : PySem.W.keepIn X.K (.ref C) = true) (hg : Gl X x) (hm : X.mg x = some (.ref C)) (hdb : (x == ("__debug__" : Str)) = false := by decide) :
    PE X (.Call (.Name x p) [] [] pos) (fun _ H Q => ∀ a, H a = none → Q (.ref a) (upd H a (exo a C none))) := by
  refine ⟨fun pins s σ H Q I h => ?_⟩
  refine wpAny_Call_Name_kw (ld_glob I hg hm ?_ hdb)
  refine PySem.W.callWith_K0 I.kIn kC ?_
  obtain ⟨bm, N, nm, qn, bs, hdct, sn, sub, ab, col, dd, k0, k1, k2, k3, k5, mN, hC, hN, hni, T⟩ := exc_obj I.kIn q
  refine wpAny_call_exc_subT F.excBase_ValueError T hC hN hni (fun h' a hm => ?_) (Nat.zero_le _)
  have hn : H a = none := I.hok.gone hm.new
  obtain ⟨t, ht, _, _⟩ := hm.there
  exact ⟨.ref a, upd H a (exo a C none), I.laidN (t' := s.toks) hm.keeps hm.new hn (exo_ok ht), rfl, h a hn⟩
/-- an exception of ValueError itself -/
def exv (a : Addr) : HO := .ext fun h => ∃ o : Obj, h.get? a = some o ∧ o.cls = .type "ValueError"
theorem exv_ok {P : Program} {w : World} {H : Hp} {h : Heap} {a : Addr} {o : Obj} (he : h.get? a = some o) (hc : o.cls = .type "ValueError") : ObjOk P w H h a (exv a) :=
  ⟨⟨o, he, hc⟩, ⟨_, he⟩, fun h1 h2 z k => by
    obtain ⟨t, q, r⟩ := z
    exact ⟨t, k _ q, r⟩⟩
/-- ValueError(e, ..) as a value -/
theorem pe_exv (hg : Gl X "ValueError") (hm : X.mg "ValueError" = none) (ha : PA X (e :: es) t)
    (he : starEach (e :: es) X.env = (false, eval e X.env) :: starEach es X.env := by rfl) (hpl : (backTo pos (starEach es X.env)).any (·.1) = false := by rfl) :
    PE X (.Call (.Name "ValueError" p) (e :: es) [] pos) (fun σ H Q => t σ H fun vs H1 => vs.length ≤ sizeLine ∧ ∀ a, H1 a = none → Q (.ref a) (upd H1 a (exv a))) := by
  refine ⟨fun pins s σ H Q I h => ?_⟩
  refine wpAny_Call_Name_kw (ld_blt I hg hm boot_ValueError ?_ (by decide) (by decide))
  refine PyProof.Rows.callWith_type1 (thn (ha.run pos pins s σ H _ I h) fun us s1 hh => ?_) he hpl
  obtain ⟨vs, H1, I1, r1, q0, q1⟩ := hh
  obtain ⟨hp1, g1, d1, tk1, os1⟩ := s1
  refine wpAny_call_exc exb_ValueError.call (fun h' a mk => ?_) (by rw [← r1.length]; exact q0)
  have mk' := PySem.Heap.MadeExc.of mk
  have hn : H1 a = none := I1.hok.gone mk'.new
  obtain ⟨t, ht, _, _⟩ := mk'.there
  exact ⟨.ref a, upd H1 a (exv a), I1.laidN (t' := tk1) mk'.keeps mk'.new hn (exv_ok ht rfl), rfl, q1 a hn⟩
end
/-- at a: an own error of the class at C; its fields -/
def ErrO (H : Hp) (a C : Addr) (fs : List (Str × V)) : Prop := (H a = some (exo a C none) ∧ fs = []) ∨ ∃ dx, H a = some (exo a C (some dx)) ∧ H dx = some (exd dx fs)
section
variable {X : Cx} {pins : List (Addr × Obj)} {σ : L2.St} {H : Hp} {s : Shared}
theorem err_inst {a C : Addr} {fs : List (Str × V)} (I : Inv X pins σ H s) (h : ErrO H a C fs) : ∃ (oe : Obj) (od : Option Obj), PySem.W.InstAt s.heap a oe C od ∧
    (∀ f v, fs.lookup f = some v → ∃ u o, od = some o ∧ PySem.W.lookIn f o = some (some u) ∧ RelV v u) ∧ ∀ f, fs.lookup f = none → PySem.W.shadowIn od f = some false := by
  rcases h with ⟨e, rfl⟩ | ⟨dx, e, ed⟩
  · obtain ⟨t1, ho⟩ := exo_at I.hok e
    exact ⟨_, none, ⟨ho, rfl, rfl, trivial⟩, (fun f v z => by cases z), fun f _ => rfl⟩
  · obtain ⟨t1, ho⟩ := exo_at I.hok e
    obtain ⟨mA, hns, rel⟩ := exd_at I.hok ed
    obtain ⟨od, hod, hl⟩ := lookIn_ns hns
    refine ⟨_, some od, ⟨ho, rfl, rfl, hod⟩, fun f v z => ?_, fun f z => ?_⟩
    · obtain ⟨u, hu, ru⟩ := RelO.some_of (v := v) (o := mA f) (by rw [← z]; exact rel f)
      exact ⟨u, od, rfl, by rw [hl, hu], ru⟩
    · have r := rel f
      rw [z] at r
      cases hm : mA f with
      | none =>
        show (PySem.W.lookIn f od).map (·.isSome) = some false
        rw [hl, hm]
        rfl
      | some u =>
        rw [hm] at r
        exact r.elim
/-- e.f -/
def tXo (K : PySem.W.Frag) (f : Str) (te : TE) : TE := fun σ H Q => te σ H fun x H1 => ∃ (a C : Addr) (fs : List (Str × V)) (v : V), x = .ref a ∧ XfC K C ∧ PySem.W.findIn K (.ref C) f = some none ∧ ErrO H1 a C fs ∧ fs.lookup f = some v ∧ Q v H1
theorem pe_xo {e : Expr} {te : TE} {pos : Pos} {n : Str} (he : PE X e te) (hb : attributeBase e n X.env (eval e X.env) = eval e X.env := by rfl) : PE X (.Attribute e n pos) (tXo X.K n te) := by
  refine ⟨fun pins s σ H Q I h => ?_⟩
  refine attr_of hb (thn (he.run pins s σ H _ I h) fun u s1 hh => ?_)
  obtain ⟨x, H1, I1, rx, a, C, fs, v, ex, T, hno, er, l, q⟩ := hh
  subst ex
  obtain rfl : u = Value.ref a := rx
  obtain ⟨oe, od, J, hf, _⟩ := err_inst I1 er
  obtain ⟨u, o, rfl, hu, ru⟩ := hf n v l
  exact HandSPX.exc_get I1.kIn J T.ga T.gg T.exC (PySem.W.findObj_own T.hdC hno rfl hu) (handed_of ru) ⟨v, H1, I1.tok _, ru, q⟩
/-- isinstance(e, C) -/
def rIsO (K : PySem.W.Frag) : List V → Hp → VK → Prop := fun xs H Q => ∃ (a C : Addr) (fs : List (Str × V)) (c : V) (u : Value) (b : Bool), xs = [.ref a, c] ∧ ClsV c u ∧ L2.ExcC K C ∧ ErrO H a C fs ∧ PySem.W.kitOne K (.ref C) u = some b ∧ Q (.bl b) H
theorem call_isO : CallR X (.builtin "isinstance") (rIsO X.K) := by
  intro pins s σ H xs us Q I r h
  obtain ⟨a, C, fs, c, u, b, rfl, k, T, er, e, q⟩ := h
  obtain ⟨u1, u2, rfl, r1, r2⟩ := vals2 r
  have e2 := k.eq r2
  subst e2
  cases (show u1 = Value.ref a from r1)
  obtain ⟨oe, od, J, _, _⟩ := err_inst I er
  have hcl : (PySem.W.clsIn X.K C).isSome = true := by
    obtain ⟨cd, hc, _⟩ := PySem.W.any_some T.hd
    rw [hc]
    rfl
  exact PySem.W.kia_one (PySem.W.kitx_exc hcl T.hg T.hk T.hs T.ha T.hn T.ht T.hm) I.kIn J e (fun z => nomatch z) fun tk => ⟨.bl b, H, I.tok tk, rfl, q⟩
/-- isinstance(e, C), e of ValueError itself -/
def rIsV (K : PySem.W.Frag) : List V → Hp → VK → Prop := fun xs H Q => ∃ (a : Addr) (c : V) (u : Value) (b : Bool), xs = [.ref a, c] ∧ ClsV c u ∧ H a = some (exv a) ∧ PySem.W.kitOne K (.type "ValueError") u = some b ∧ Q (.bl b) H
theorem call_isV : CallR X (.builtin "isinstance") (rIsV X.K) := by
  intro pins s σ H xs us Q I r h
  obtain ⟨a, c, u, b, rfl, k, ha, e, q⟩ := h
  obtain ⟨u1, u2, rfl, r1, r2⟩ := vals2 r
  have e2 := k.eq r2
  subst e2
  cases (show u1 = Value.ref a from r1)
  have hx : ObjOk X.prog X.w H s.heap a (.ext fun h => ∃ o : Obj, h.get? a = some o ∧ o.cls = .type "ValueError") := I.hok a _ ha
  obtain ⟨o, ho, hc⟩ := hx.1
  exact PySem.W.kia_one (PySem.W.kitx_bexc PySem.F.excAttr_ValueError PySem.F.lkClass_ValueError PySem.F.soClass_ValueError (by decide +kernel)) I.kIn ⟨o, ho, hc⟩ e (fun z => nomatch z) fun tk => ⟨.bl b, H, I.tok tk, rfl, q⟩
/-- e.m(), the class among a family -/
def tXm {ι : Type} (K : PySem.W.Frag) (m : Str) (f : ι → Addr) (sp : ι → Sp) (te : TE) : TE := fun σ H Q => te σ H fun x H1 => ∃ (i : ι) (a C : Addr) (fs : List (Str × V)), x = .ref a ∧ XfC K C ∧ PySem.W.findIn K (.ref C) m = some (some (.ref (f i))) ∧ ErrO H1 a C fs ∧ fs.lookup m = none ∧ sp i [.ref a] H1 Q fun _ _ _ => False
theorem pe_xm {ι : Type} {CX : CXT} {k : Nat} {f : ι → Addr} {fd : ι → FuncData} {sp : ι → Sp} {o : Expr} {m : Str} {te : TE} {apos pos : Pos} {pl : Sem Bool} (he : PE X o te) (F : ∀ i, FnOk X.prog X.w X.K X.mg X.base CX k (f i) (fd i) ["self"] (sp i)) (hr : Room k X.A) (hb : ∀ i, Binds X.K (fd i) ["self"] []) (kp : ∀ i, PySem.W.keepIn X.K (.ref (f i)) = true) (fn : ∀ i, PySem.W.isFn X.K (.ref (f i)) = true)
    (hx : Passes CX X (fun _ _ _ => False))
    (ht : eval (.Call (.Attribute o m apos) [] [] pos) X.env = (do
      let ov ← eval o X.env
      standAt apos.atName
      let (f, first) ← holding [ov] (getMethod ov m pl)
      callWith pos f first (backTo pos (starEach [] X.env)) (backToKw pos (keywordEach [] X.env))) := by rfl) :
    PE X (.Call (.Attribute o m apos) [] [] pos) (tXm X.K m f sp te) := by
  refine ⟨fun pins s σ H Q I h => ?_⟩
  refine PySem.W.methodCall_KW (pl := pl) (thn (he.run pins s σ H _ I h) fun u s1 ⟨x, H1, I1, rx, i, a, C, fs, ex, T, hm, er, l, q⟩ => ?_) ht
  subst ex
  obtain rfl : u = Value.ref a := rx
  obtain ⟨oe, od, J, _, hsh⟩ := err_inst I1 er
  obtain ⟨mm, fr⟩ := I1.fr
  refine PySem.W.method_exc fr I1.ok.mod.kin J T.ga T.gg hm (fn i) (hsh m l) ?_
  exact PySem.W.callWith_K0 (first := [.ref a]) I1.kIn (kp i) (run_fn (us := [.ref a]) (vs := [.ref a]) (F i) hr (hb i) .nil hx I1 (.cons rfl .nil) (by rw [List.append_nil]; exact q))
end
end G58

set_option Elab.async false
set_option linter.all false
set_option pp.maxSteps 2500
set_option maxRecDepth 100000
set_option maxHeartbeats 4000000
/-! k05: the text by places, the errors' own defs. -/
namespace G58
open PySem PySem.Spec PyProof.Rows L2
def topS (i : Nat) : Stmt := PySem.Challenge.pw_nestfile_k05_errors.main.body.getD i (.Pass ⟨0, 0, 0, 0⟩)
abbrev sIvl : Stmt := inClass (topS 2) 0
abbrev sTvl : Stmt := inClass (topS 2) 1
abbrev sIlg : Stmt := inClass (topS 3) 0
abbrev sTlg : Stmt := inClass (topS 3) 1
abbrev sIbt : Stmt := inClass (topS 4) 0
abbrev sTbt : Stmt := inClass (topS 4) 1
abbrev sItn : Stmt := inClass (topS 5) 0
abbrev sTtn : Stmt := inClass (topS 5) 1
abbrev sIpt : Stmt := inClass (topS 6) 0
abbrev sTpt : Stmt := inClass (topS 6) 1
abbrev sIpl : Stmt := inClass (topS 7) 0
abbrev sTpl : Stmt := inClass (topS 7) 1
abbrev sIob : Stmt := inClass (topS 8) 0
abbrev sTob : Stmt := inClass (topS 8) 1
abbrev sIft : Stmt := inClass (topS 9) 0
abbrev sTft : Stmt := inClass (topS 9) 1
abbrev sIct : Stmt := inClass (topS 10) 0
abbrev sTct : Stmt := inClass (topS 10) 1
abbrev sInn : Stmt := inClass (topS 11) 0
abbrev sTnn : Stmt := inClass (topS 11) 1
abbrev sIfl : Stmt := inClass (topS 12) 0
abbrev sTfl : Stmt := inClass (topS 12) 1
abbrev sTbk : Stmt := inClass (topS 13) 0
abbrev sItx : Stmt := inClass (topS 14) 0
abbrev sTtx : Stmt := inClass (topS 14) 1
abbrev sSrc : Stmt := topS 16
abbrev sDrw : Stmt := topS 17
abbrev sPik : Stmt := topS 18
abbrev sPla : Stmt := topS 19
abbrev sNam : Stmt := topS 20
abbrev sFld : Stmt := topS 21
abbrev sCls : Stmt := topS 22
abbrev sRgt : Stmt := topS 23
abbrev sLaw : Stmt := topS 24
/-- the classes of errors -/
inductive Kd where
  | vl | lg | bt | tn | pt | pl | ob | ft | ct | nn | fl | bk | tx
deriving DecidableEq
def Kd.cls : Kd → Str
  | .vl => "NoValue"
  | .lg => "Large"
  | .bt => "NoBytes"
  | .tn => "Torn"
  | .pt => "NoPart"
  | .pl => "NoPlace"
  | .ob => "NoObject"
  | .ft => "NoFit"
  | .ct => "BadCount"
  | .nn => "NoName"
  | .fl => "NoFile"
  | .bk => "NoBack"
  | .tx => "BadText"
def Kd.nm : Kd → Str
  | .vl => "novalue"
  | .lg => "large"
  | .bt => "nobytes"
  | .tn => "torn"
  | .pt => "nopart"
  | .pl => "noplace"
  | .ob => "noobject"
  | .ft => "nofit"
  | .ct => "badcount"
  | .nn => "noname"
  | .fl => "nofile"
  | .bk => "noback"
  | .tx => "badtext"
def Kd.fs : Kd → List Str
  | .vl => ["path"]
  | .lg => ["what"]
  | .bt => ["place"]
  | .tn => ["word", "place"]
  | .pt => ["length"]
  | .pl => ["place"]
  | .ob => ["number"]
  | .ft => ["length"]
  | .ct => ["what", "count"]
  | .nn => ["name"]
  | .fl => ["name"]
  | .bk => []
  | .tx => ["place"]
/-- the fields as they are kept: the way, a word, a number -/
def Kd.flds (w : V) (z : Str) (n : Int) : Kd → List (Str × V)
  | .vl => [("path", w)]
  | .lg => [("what", .str z)]
  | .bt => [("place", .int n)]
  | .tn => [("place", .int n), ("word", .str z)]
  | .pt => [("length", .int n)]
  | .pl => [("place", .int n)]
  | .ob => [("number", .int n)]
  | .ft => [("length", .int n)]
  | .ct => [("count", .int n), ("what", .str z)]
  | .nn => [("name", .str z)]
  | .fl => [("name", .str z)]
  | .bk => []
  | .tx => [("place", .int n)]
def Kd.vals (w : V) (z : Str) (n : Int) : Kd → List V
  | .vl => [w]
  | .lg => [.str z]
  | .bt => [.int n]
  | .tn => [.str z, .int n]
  | .pt => [.int n]
  | .pl => [.int n]
  | .ob => [.int n]
  | .ft => [.int n]
  | .ct => [.str z, .int n]
  | .nn => [.str z]
  | .fl => [.str z]
  | .bk => []
  | .tx => [.int n]
def Kd.dats (d : PyData) (z : Str) (n : Int) : Kd → List PyData
  | .vl => [d]
  | .lg => [.str z]
  | .bt => [.int n]
  | .tn => [.str z, .int n]
  | .pt => [.int n]
  | .pl => [.int n]
  | .ob => [.int n]
  | .ft => [.int n]
  | .ct => [.str z, .int n]
  | .nn => [.str z]
  | .fl => [.str z]
  | .bk => []
  | .tx => [.int n]
structure Ad where
  (cN : Addr)
  (c fi ft : Kd → Addr)
structure Txt (K : PySem.W.Frag) (mg : Str → Option Value) (a : Ad) : Prop where
  gN : mg "NestError" = some (.ref a.cN)
  gc : ∀ k : Kd, mg k.cls = some (.ref (a.c k))
  ox : ∀ k : Kd, OexC K (a.c k)
  xf : ∀ k : Kd, XfC K (a.c k)
  xc : ∀ k : Kd, L2.ExcC K (a.c k)
  ini : ∀ k : Kd, k ≠ .bk → PySem.W.findIn K (.ref (a.c k)) "__init__" = some (some (.ref (a.fi k)))
  ti : ∀ k : Kd, k ≠ .bk → PySem.W.typeIn K (.ref (a.fi k)) = some (.type "function")
  no : ∀ k : Kd, ∀ f ∈ k.fs, PySem.W.findIn K (.ref (a.c k)) f = some none
  mt : ∀ k : Kd, PySem.W.findIn K (.ref (a.c k)) "told" = some (some (.ref (a.ft k)))
  tf : ∀ k : Kd, PySem.W.isFn K (.ref (a.ft k)) = true
  kit : ∀ k j : Kd, PySem.W.kitOne K (.ref (a.c k)) (.ref (a.c j)) = some (decide (k = j))
  kitN : ∀ k : Kd, PySem.W.kitOne K (.ref (a.c k)) (.ref a.cN) = some true
  kitV : ∀ k : Kd, PySem.W.kitOne K (.ref (a.c k)) (.type "ValueError") = some true
  kitE : PySem.W.kitOne K (.type "ValueError") (.ref a.cN) = some false
  ex0 : PySem.W.excIn K (a.c .bk) [.type "ValueError", .type "Exception", .type "BaseException", .type "object"] "ValueError.__new__" = true
  bIsinstance : mg "isinstance" = none
  bTuple : mg "tuple" = none
  bList : mg "list" = none
  bLen : mg "len" = none
  bAbs : mg "abs" = none
  bInt : mg "int" = none
  bRepr : mg "repr" = none
  bZip : mg "zip" = none
  bVe : mg "ValueError" = none
structure Df (K : PySem.W.Frag) (a : Ad) where
  (fdI fdT : Kd → FuncData)
  Ivl : Fun K "__init__" "NoValue.__init__" sIvl (a.fi .vl) (fdI .vl)
  Tvl : Fun K "told" "NoValue.told" sTvl (a.ft .vl) (fdT .vl)
  Ilg : Fun K "__init__" "Large.__init__" sIlg (a.fi .lg) (fdI .lg)
  Tlg : Fun K "told" "Large.told" sTlg (a.ft .lg) (fdT .lg)
  Ibt : Fun K "__init__" "NoBytes.__init__" sIbt (a.fi .bt) (fdI .bt)
  Tbt : Fun K "told" "NoBytes.told" sTbt (a.ft .bt) (fdT .bt)
  Itn : Fun K "__init__" "Torn.__init__" sItn (a.fi .tn) (fdI .tn)
  Ttn : Fun K "told" "Torn.told" sTtn (a.ft .tn) (fdT .tn)
  Ipt : Fun K "__init__" "NoPart.__init__" sIpt (a.fi .pt) (fdI .pt)
  Tpt : Fun K "told" "NoPart.told" sTpt (a.ft .pt) (fdT .pt)
  Ipl : Fun K "__init__" "NoPlace.__init__" sIpl (a.fi .pl) (fdI .pl)
  Tpl : Fun K "told" "NoPlace.told" sTpl (a.ft .pl) (fdT .pl)
  Iob : Fun K "__init__" "NoObject.__init__" sIob (a.fi .ob) (fdI .ob)
  Tob : Fun K "told" "NoObject.told" sTob (a.ft .ob) (fdT .ob)
  Ift : Fun K "__init__" "NoFit.__init__" sIft (a.fi .ft) (fdI .ft)
  Tft : Fun K "told" "NoFit.told" sTft (a.ft .ft) (fdT .ft)
  Ict : Fun K "__init__" "BadCount.__init__" sIct (a.fi .ct) (fdI .ct)
  Tct : Fun K "told" "BadCount.told" sTct (a.ft .ct) (fdT .ct)
  Inn : Fun K "__init__" "NoName.__init__" sInn (a.fi .nn) (fdI .nn)
  Tnn : Fun K "told" "NoName.told" sTnn (a.ft .nn) (fdT .nn)
  Ifl : Fun K "__init__" "NoFile.__init__" sIfl (a.fi .fl) (fdI .fl)
  Tfl : Fun K "told" "NoFile.told" sTfl (a.ft .fl) (fdT .fl)
  Tbk : Fun K "told" "NoBack.told" sTbk (a.ft .bk) (fdT .bk)
  Itx : Fun K "__init__" "BadText.__init__" sItx (a.fi .tx) (fdI .tx)
  Ttx : Fun K "told" "BadText.told" sTtx (a.ft .tx) (fdT .tx)
  bvl : KBn K (fdI .vl) ["self", "path"] 2 [] (fun us _ => us) (fun vs _ => vs)
  kvl : KBn K (fdI .vl) ["self", "path"] 1 ["path"] (fun us ws => us ++ ws) (fun vs zs => vs ++ zs)
  blg : KBn K (fdI .lg) ["self", "what"] 2 [] (fun us _ => us) (fun vs _ => vs)
  klg : KBn K (fdI .lg) ["self", "what"] 1 ["what"] (fun us ws => us ++ ws) (fun vs zs => vs ++ zs)
  bbt : KBn K (fdI .bt) ["self", "place"] 2 [] (fun us _ => us) (fun vs _ => vs)
  kbt : KBn K (fdI .bt) ["self", "place"] 1 ["place"] (fun us ws => us ++ ws) (fun vs zs => vs ++ zs)
  btn : KBn K (fdI .tn) ["self", "word", "place"] 3 [] (fun us _ => us) (fun vs _ => vs)
  ktn : KBn K (fdI .tn) ["self", "word", "place"] 1 ["place", "word"] (fun us ws => us ++ ws.reverse) (fun vs zs => vs ++ zs.reverse)
  bpt : KBn K (fdI .pt) ["self", "length"] 2 [] (fun us _ => us) (fun vs _ => vs)
  kpt : KBn K (fdI .pt) ["self", "length"] 1 ["length"] (fun us ws => us ++ ws) (fun vs zs => vs ++ zs)
  bpl : KBn K (fdI .pl) ["self", "place"] 2 [] (fun us _ => us) (fun vs _ => vs)
  kpl : KBn K (fdI .pl) ["self", "place"] 1 ["place"] (fun us ws => us ++ ws) (fun vs zs => vs ++ zs)
  bob : KBn K (fdI .ob) ["self", "number"] 2 [] (fun us _ => us) (fun vs _ => vs)
  kob : KBn K (fdI .ob) ["self", "number"] 1 ["number"] (fun us ws => us ++ ws) (fun vs zs => vs ++ zs)
  bft : KBn K (fdI .ft) ["self", "length"] 2 [] (fun us _ => us) (fun vs _ => vs)
  kft : KBn K (fdI .ft) ["self", "length"] 1 ["length"] (fun us ws => us ++ ws) (fun vs zs => vs ++ zs)
  bct : KBn K (fdI .ct) ["self", "what", "count"] 3 [] (fun us _ => us) (fun vs _ => vs)
  kct : KBn K (fdI .ct) ["self", "what", "count"] 1 ["count", "what"] (fun us ws => us ++ ws.reverse) (fun vs zs => vs ++ zs.reverse)
  bnn : KBn K (fdI .nn) ["self", "name"] 2 [] (fun us _ => us) (fun vs _ => vs)
  knn : KBn K (fdI .nn) ["self", "name"] 1 ["name"] (fun us ws => us ++ ws) (fun vs zs => vs ++ zs)
  bfl : KBn K (fdI .fl) ["self", "name"] 2 [] (fun us _ => us) (fun vs _ => vs)
  kfl : KBn K (fdI .fl) ["self", "name"] 1 ["name"] (fun us ws => us ++ ws) (fun vs zs => vs ++ zs)
  btx : KBn K (fdI .tx) ["self", "place"] 2 [] (fun us _ => us) (fun vs _ => vs)
  ktx : KBn K (fdI .tx) ["self", "place"] 1 ["place"] (fun us ws => us ++ ws) (fun vs zs => vs ++ zs)
  bT : ∀ k : Kd, L2.Binds K (fdT k) ["self"] []
structure Ld where
  (fSrc fDrw fPik fPla fNam fFld fCls fRgt : Addr)
structure LTx (mg : Str → Option Value) (l : Ld) : Prop where
  gSrc : mg "_law_source" = some (.ref l.fSrc)
  gDrw : mg "_law_draw" = some (.ref l.fDrw)
  gPik : mg "_law_pick" = some (.ref l.fPik)
  gPla : mg "_law_by_place" = some (.ref l.fPla)
  gNam : mg "_law_by_name" = some (.ref l.fNam)
  gFld : mg "_law_fields" = some (.ref l.fFld)
  gCls : mg "_law_classes" = some (.ref l.fCls)
  gRgt : mg "_law_right" = some (.ref l.fRgt)
structure LDf (K : PySem.W.Frag) (l : Ld) where
  (fdSrc fdDrw fdPik fdPla fdNam fdFld fdCls fdRgt : FuncData)
  FSrc : Fun K "_law_source" "_law_source" sSrc l.fSrc fdSrc
  bSrc : L2.Binds K fdSrc ["_law_cell"] []
  FDrw : Fun K "_law_draw" "_law_draw" sDrw l.fDrw fdDrw
  bDrw : L2.Binds K fdDrw ["_law_source_here", "_law_many"] []
  FPik : Fun K "_law_pick" "_law_pick" sPik l.fPik fdPik
  bPik : L2.Binds K fdPik ["_law_source_here", "_law_items"] []
  FPla : Fun K "_law_by_place" "_law_by_place" sPla l.fPla fdPla
  bPla : L2.Binds K fdPla ["_law_way", "_law_some_word", "_law_many"] []
  FNam : Fun K "_law_by_name" "_law_by_name" sNam l.fNam fdNam
  bNam : L2.Binds K fdNam ["_law_way", "_law_some_word", "_law_many"] []
  FFld : Fun K "_law_fields" "_law_fields" sFld l.fFld fdFld
  bFld : L2.Binds K fdFld ["_law_e", "_law_called"] []
  FCls : Fun K "_law_classes" "_law_classes" sCls l.fCls fdCls
  bCls : L2.Binds K fdCls ["_law_e"] []
  FRgt : Fun K "_law_right" "_law_right" sRgt l.fRgt fdRgt
  bRgt : L2.Binds K fdRgt ["_law_source_here"] []
/-- C.__init__(self, ..) on a fresh error -/
def spIn (C : Addr) (n : Nat) (fs : List V → List (Str × V)) : Sp := fun vs H Q _ => ∃ (a : Addr) (us : List V), vs = .ref a :: us ∧ us.length = n ∧ H a = some (exo a C none) ∧
  ∀ dx H', H dx = none → dx ≠ a → (∀ b, b ≠ a → b ≠ dx → H' b = H b) → H' a = some (exo a C (some dx)) → H' dx = some (exd dx (fs us)) → Q .non H'
/-- the way is a tuple at an address -/
def spIw (C : Addr) : Sp := fun vs H Q _ => ∃ (a w : Addr) (xs : List V), vs = [.ref a, .ref w] ∧ H w = some (.tup xs) ∧ H a = some (exo a C none) ∧
  ∀ dx H', H dx = none → dx ≠ a → (∀ b o, b ≠ a → b ≠ dx → H b = some o → H' b = some o) → H' a = some (exo a C (some dx)) → H' dx = some (exd dx [("path", .ref w)]) → Q .non H'
def spTo (k : Kd) : Sp := fun vs H Q _ => ∃ a : Addr, vs = [.ref a] ∧ Q (.str ((Str.ofString "refused ").append k.nm)) H
theorem len1of {us : List V} (h : us.length = 1) : ∃ v, us = [v] := by
  match us, h with
  | [v], _ => exact ⟨v, rfl⟩
theorem len2of {us : List V} (h : us.length = 2) : ∃ v u, us = [v, u] := by
  match us, h with
  | [v, u], _ => exact ⟨v, u, rfl⟩
section
variable {P : Program} {w : World} {K : PySem.W.Frag} {mg : Str → Option Value} {base : Heap} {a : Ad}
theorem scTvl : FnScope ["self"] ["self"] (defScope sTvl) := ⟨rfl, rfl, rfl, by decide +kernel, rfl, by decide +kernel, by decide +kernel⟩
theorem ok_Tvl (T : Txt K mg a) (D : Df K a) : FnOk P w K mg base CX0 1 (a.ft .vl) (D.fdT .vl) ["self"] (spTo .vl) := by
  refine D.Tvl.ok scTvl (fun vs H Q E h => ?_) (fun cdv A outer s H vs Q E hr h => ?_)
  · obtain ⟨p, rfl, _⟩ := h
    rfl
  · obtain ⟨p, rfl, q⟩ := h
    exact ⟨_, (pss_one (ps_ret pe_str)), q⟩
theorem scTlg : FnScope ["self"] ["self"] (defScope sTlg) := ⟨rfl, rfl, rfl, by decide +kernel, rfl, by decide +kernel, by decide +kernel⟩
theorem ok_Tlg (T : Txt K mg a) (D : Df K a) : FnOk P w K mg base CX0 1 (a.ft .lg) (D.fdT .lg) ["self"] (spTo .lg) := by
  refine D.Tlg.ok scTlg (fun vs H Q E h => ?_) (fun cdv A outer s H vs Q E hr h => ?_)
  · obtain ⟨p, rfl, _⟩ := h
    rfl
  · obtain ⟨p, rfl, q⟩ := h
    exact ⟨_, (pss_one (ps_ret pe_str)), q⟩
theorem scTbt : FnScope ["self"] ["self"] (defScope sTbt) := ⟨rfl, rfl, rfl, by decide +kernel, rfl, by decide +kernel, by decide +kernel⟩
theorem ok_Tbt (T : Txt K mg a) (D : Df K a) : FnOk P w K mg base CX0 1 (a.ft .bt) (D.fdT .bt) ["self"] (spTo .bt) := by
  refine D.Tbt.ok scTbt (fun vs H Q E h => ?_) (fun cdv A outer s H vs Q E hr h => ?_)
  · obtain ⟨p, rfl, _⟩ := h
    rfl
  · obtain ⟨p, rfl, q⟩ := h
    exact ⟨_, (pss_one (ps_ret pe_str)), q⟩
theorem scTtn : FnScope ["self"] ["self"] (defScope sTtn) := ⟨rfl, rfl, rfl, by decide +kernel, rfl, by decide +kernel, by decide +kernel⟩
theorem ok_Ttn (T : Txt K mg a) (D : Df K a) : FnOk P w K mg base CX0 1 (a.ft .tn) (D.fdT .tn) ["self"] (spTo .tn) := by
  refine D.Ttn.ok scTtn (fun vs H Q E h => ?_) (fun cdv A outer s H vs Q E hr h => ?_)
  · obtain ⟨p, rfl, _⟩ := h
    rfl
  · obtain ⟨p, rfl, q⟩ := h
    exact ⟨_, (pss_one (ps_ret pe_str)), q⟩
theorem scTpt : FnScope ["self"] ["self"] (defScope sTpt) := ⟨rfl, rfl, rfl, by decide +kernel, rfl, by decide +kernel, by decide +kernel⟩
theorem ok_Tpt (T : Txt K mg a) (D : Df K a) : FnOk P w K mg base CX0 1 (a.ft .pt) (D.fdT .pt) ["self"] (spTo .pt) := by
  refine D.Tpt.ok scTpt (fun vs H Q E h => ?_) (fun cdv A outer s H vs Q E hr h => ?_)
  · obtain ⟨p, rfl, _⟩ := h
    rfl
  · obtain ⟨p, rfl, q⟩ := h
    exact ⟨_, (pss_one (ps_ret pe_str)), q⟩
theorem scTpl : FnScope ["self"] ["self"] (defScope sTpl) := ⟨rfl, rfl, rfl, by decide +kernel, rfl, by decide +kernel, by decide +kernel⟩
theorem ok_Tpl (T : Txt K mg a) (D : Df K a) : FnOk P w K mg base CX0 1 (a.ft .pl) (D.fdT .pl) ["self"] (spTo .pl) := by
  refine D.Tpl.ok scTpl (fun vs H Q E h => ?_) (fun cdv A outer s H vs Q E hr h => ?_)
  · obtain ⟨p, rfl, _⟩ := h
    rfl
  · obtain ⟨p, rfl, q⟩ := h
    exact ⟨_, (pss_one (ps_ret pe_str)), q⟩
theorem scTob : FnScope ["self"] ["self"] (defScope sTob) := ⟨rfl, rfl, rfl, by decide +kernel, rfl, by decide +kernel, by decide +kernel⟩
theorem ok_Tob (T : Txt K mg a) (D : Df K a) : FnOk P w K mg base CX0 1 (a.ft .ob) (D.fdT .ob) ["self"] (spTo .ob) := by
  refine D.Tob.ok scTob (fun vs H Q E h => ?_) (fun cdv A outer s H vs Q E hr h => ?_)
  · obtain ⟨p, rfl, _⟩ := h
    rfl
  · obtain ⟨p, rfl, q⟩ := h
    exact ⟨_, (pss_one (ps_ret pe_str)), q⟩
theorem scTft : FnScope ["self"] ["self"] (defScope sTft) := ⟨rfl, rfl, rfl, by decide +kernel, rfl, by decide +kernel, by decide +kernel⟩
theorem ok_Tft (T : Txt K mg a) (D : Df K a) : FnOk P w K mg base CX0 1 (a.ft .ft) (D.fdT .ft) ["self"] (spTo .ft) := by
  refine D.Tft.ok scTft (fun vs H Q E h => ?_) (fun cdv A outer s H vs Q E hr h => ?_)
  · obtain ⟨p, rfl, _⟩ := h
    rfl
  · obtain ⟨p, rfl, q⟩ := h
    exact ⟨_, (pss_one (ps_ret pe_str)), q⟩
theorem scTct : FnScope ["self"] ["self"] (defScope sTct) := ⟨rfl, rfl, rfl, by decide +kernel, rfl, by decide +kernel, by decide +kernel⟩
theorem ok_Tct (T : Txt K mg a) (D : Df K a) : FnOk P w K mg base CX0 1 (a.ft .ct) (D.fdT .ct) ["self"] (spTo .ct) := by
  refine D.Tct.ok scTct (fun vs H Q E h => ?_) (fun cdv A outer s H vs Q E hr h => ?_)
  · obtain ⟨p, rfl, _⟩ := h
    rfl
  · obtain ⟨p, rfl, q⟩ := h
    exact ⟨_, (pss_one (ps_ret pe_str)), q⟩
theorem scTnn : FnScope ["self"] ["self"] (defScope sTnn) := ⟨rfl, rfl, rfl, by decide +kernel, rfl, by decide +kernel, by decide +kernel⟩
theorem ok_Tnn (T : Txt K mg a) (D : Df K a) : FnOk P w K mg base CX0 1 (a.ft .nn) (D.fdT .nn) ["self"] (spTo .nn) := by
  refine D.Tnn.ok scTnn (fun vs H Q E h => ?_) (fun cdv A outer s H vs Q E hr h => ?_)
  · obtain ⟨p, rfl, _⟩ := h
    rfl
  · obtain ⟨p, rfl, q⟩ := h
    exact ⟨_, (pss_one (ps_ret pe_str)), q⟩
theorem scTfl : FnScope ["self"] ["self"] (defScope sTfl) := ⟨rfl, rfl, rfl, by decide +kernel, rfl, by decide +kernel, by decide +kernel⟩
theorem ok_Tfl (T : Txt K mg a) (D : Df K a) : FnOk P w K mg base CX0 1 (a.ft .fl) (D.fdT .fl) ["self"] (spTo .fl) := by
  refine D.Tfl.ok scTfl (fun vs H Q E h => ?_) (fun cdv A outer s H vs Q E hr h => ?_)
  · obtain ⟨p, rfl, _⟩ := h
    rfl
  · obtain ⟨p, rfl, q⟩ := h
    exact ⟨_, (pss_one (ps_ret pe_str)), q⟩
theorem scTbk : FnScope ["self"] ["self"] (defScope sTbk) := ⟨rfl, rfl, rfl, by decide +kernel, rfl, by decide +kernel, by decide +kernel⟩
theorem ok_Tbk (T : Txt K mg a) (D : Df K a) : FnOk P w K mg base CX0 1 (a.ft .bk) (D.fdT .bk) ["self"] (spTo .bk) := by
  refine D.Tbk.ok scTbk (fun vs H Q E h => ?_) (fun cdv A outer s H vs Q E hr h => ?_)
  · obtain ⟨p, rfl, _⟩ := h
    rfl
  · obtain ⟨p, rfl, q⟩ := h
    exact ⟨_, (pss_one (ps_ret pe_str)), q⟩
theorem scTtx : FnScope ["self"] ["self"] (defScope sTtx) := ⟨rfl, rfl, rfl, by decide +kernel, rfl, by decide +kernel, by decide +kernel⟩
theorem ok_Ttx (T : Txt K mg a) (D : Df K a) : FnOk P w K mg base CX0 1 (a.ft .tx) (D.fdT .tx) ["self"] (spTo .tx) := by
  refine D.Ttx.ok scTtx (fun vs H Q E h => ?_) (fun cdv A outer s H vs Q E hr h => ?_)
  · obtain ⟨p, rfl, _⟩ := h
    rfl
  · obtain ⟨p, rfl, q⟩ := h
    exact ⟨_, (pss_one (ps_ret pe_str)), q⟩
theorem ok_T (T : Txt K mg a) (D : Df K a) : ∀ k : Kd, FnOk P w K mg base CX0 1 (a.ft k) (D.fdT k) ["self"] (spTo k)
  | .vl => ok_Tvl T D
  | .lg => ok_Tlg T D
  | .bt => ok_Tbt T D
  | .tn => ok_Ttn T D
  | .pt => ok_Tpt T D
  | .pl => ok_Tpl T D
  | .ob => ok_Tob T D
  | .ft => ok_Tft T D
  | .ct => ok_Tct T D
  | .nn => ok_Tnn T D
  | .fl => ok_Tfl T D
  | .bk => ok_Tbk T D
  | .tx => ok_Ttx T D
theorem scIlg : FnScope ["self", "what"] ["self", "what"] (defScope sIlg) := ⟨rfl, rfl, rfl, by decide +kernel, rfl, by decide +kernel, by decide +kernel⟩
theorem ok_Ilg (T : Txt K mg a) (D : Df K a) : FnOk P w K mg base CX0 1 (a.fi .lg) (D.fdI .lg) ["self", "what"] (spIn (a.c .lg) 1 fun us => [("what", us.headD .non)]) := by
  refine D.Ilg.ok scIlg (fun vs H Q E h => ?_) (fun cdv A outer s H vs Q E hr h => ?_)
  · obtain ⟨p, us, rfl, hl, _⟩ := h
    simp [hl]
  · obtain ⟨p, us, rfl, hl, hp, q⟩ := h
    obtain ⟨v, rfl⟩ := len1of hl
    refine ⟨_, (pss_one (ps_ost (pv 0) (pv 1) rfl)), ?_⟩
    refine ⟨_, rfl, _, rfl, p, _, rfl, T.ox .lg, T.no .lg _ (by decide), .inl ⟨hp, fun dx hd ne => ?_⟩⟩
    exact q dx _ hd ne (fun b n1 n2 => by rw [upd_ne n1, upd_ne n2]) upd_same (by rw [upd_ne ne]; exact upd_same)
theorem scIbt : FnScope ["self", "place"] ["self", "place"] (defScope sIbt) := ⟨rfl, rfl, rfl, by decide +kernel, rfl, by decide +kernel, by decide +kernel⟩
theorem ok_Ibt (T : Txt K mg a) (D : Df K a) : FnOk P w K mg base CX0 1 (a.fi .bt) (D.fdI .bt) ["self", "place"] (spIn (a.c .bt) 1 fun us => [("place", us.headD .non)]) := by
  refine D.Ibt.ok scIbt (fun vs H Q E h => ?_) (fun cdv A outer s H vs Q E hr h => ?_)
  · obtain ⟨p, us, rfl, hl, _⟩ := h
    simp [hl]
  · obtain ⟨p, us, rfl, hl, hp, q⟩ := h
    obtain ⟨v, rfl⟩ := len1of hl
    refine ⟨_, (pss_one (ps_ost (pv 0) (pv 1) rfl)), ?_⟩
    refine ⟨_, rfl, _, rfl, p, _, rfl, T.ox .bt, T.no .bt _ (by decide), .inl ⟨hp, fun dx hd ne => ?_⟩⟩
    exact q dx _ hd ne (fun b n1 n2 => by rw [upd_ne n1, upd_ne n2]) upd_same (by rw [upd_ne ne]; exact upd_same)
theorem scItn : FnScope ["self", "word", "place"] ["self", "word", "place"] (defScope sItn) := ⟨rfl, rfl, rfl, by decide +kernel, rfl, by decide +kernel, by decide +kernel⟩
theorem ok_Itn (T : Txt K mg a) (D : Df K a) : FnOk P w K mg base CX0 1 (a.fi .tn) (D.fdI .tn) ["self", "word", "place"] (spIn (a.c .tn) 2 fun us => [("place", us.getD 1 .non), ("word", us.headD .non)]) := by
  refine D.Itn.ok scItn (fun vs H Q E h => ?_) (fun cdv A outer s H vs Q E hr h => ?_)
  · obtain ⟨p, us, rfl, hl, _⟩ := h
    simp [hl]
  · obtain ⟨p, us, rfl, hl, hp, q⟩ := h
    obtain ⟨v, u, rfl⟩ := len2of hl
    refine ⟨_, (pss_cons (ps_ost (pv 0) (pv 1) rfl) (pss_one (ps_ost (pv 0) (pv 2) rfl))), ?_⟩
    refine ⟨_, rfl, _, rfl, p, _, rfl, T.ox .tn, T.no .tn _ (by decide), .inl ⟨hp, fun dx hd ne => ?_⟩⟩
    refine ⟨_, rfl, _, rfl, p, _, rfl, T.ox .tn, T.no .tn _ (by decide), .inr ⟨dx, [("word", v)], upd_same, (by rw [upd_ne ne]; exact upd_same), (by show 1 ≤ 900; decide), ?_⟩⟩
    exact q dx _ hd ne (fun b n1 n2 => by rw [upd_ne n2, upd_ne n1, upd_ne n2]) (by rw [upd_ne ne.symm]; exact upd_same) upd_same
theorem scIpt : FnScope ["self", "length"] ["self", "length"] (defScope sIpt) := ⟨rfl, rfl, rfl, by decide +kernel, rfl, by decide +kernel, by decide +kernel⟩
theorem ok_Ipt (T : Txt K mg a) (D : Df K a) : FnOk P w K mg base CX0 1 (a.fi .pt) (D.fdI .pt) ["self", "length"] (spIn (a.c .pt) 1 fun us => [("length", us.headD .non)]) := by
  refine D.Ipt.ok scIpt (fun vs H Q E h => ?_) (fun cdv A outer s H vs Q E hr h => ?_)
  · obtain ⟨p, us, rfl, hl, _⟩ := h
    simp [hl]
  · obtain ⟨p, us, rfl, hl, hp, q⟩ := h
    obtain ⟨v, rfl⟩ := len1of hl
    refine ⟨_, (pss_one (ps_ost (pv 0) (pv 1) rfl)), ?_⟩
    refine ⟨_, rfl, _, rfl, p, _, rfl, T.ox .pt, T.no .pt _ (by decide), .inl ⟨hp, fun dx hd ne => ?_⟩⟩
    exact q dx _ hd ne (fun b n1 n2 => by rw [upd_ne n1, upd_ne n2]) upd_same (by rw [upd_ne ne]; exact upd_same)
theorem scIpl : FnScope ["self", "place"] ["self", "place"] (defScope sIpl) := ⟨rfl, rfl, rfl, by decide +kernel, rfl, by decide +kernel, by decide +kernel⟩
theorem ok_Ipl (T : Txt K mg a) (D : Df K a) : FnOk P w K mg base CX0 1 (a.fi .pl) (D.fdI .pl) ["self", "place"] (spIn (a.c .pl) 1 fun us => [("place", us.headD .non)]) := by
  refine D.Ipl.ok scIpl (fun vs H Q E h => ?_) (fun cdv A outer s H vs Q E hr h => ?_)
  · obtain ⟨p, us, rfl, hl, _⟩ := h
    simp [hl]
  · obtain ⟨p, us, rfl, hl, hp, q⟩ := h
    obtain ⟨v, rfl⟩ := len1of hl
    refine ⟨_, (pss_one (ps_ost (pv 0) (pv 1) rfl)), ?_⟩
    refine ⟨_, rfl, _, rfl, p, _, rfl, T.ox .pl, T.no .pl _ (by decide), .inl ⟨hp, fun dx hd ne => ?_⟩⟩
    exact q dx _ hd ne (fun b n1 n2 => by rw [upd_ne n1, upd_ne n2]) upd_same (by rw [upd_ne ne]; exact upd_same)
theorem scIob : FnScope ["self", "number"] ["self", "number"] (defScope sIob) := ⟨rfl, rfl, rfl, by decide +kernel, rfl, by decide +kernel, by decide +kernel⟩
theorem ok_Iob (T : Txt K mg a) (D : Df K a) : FnOk P w K mg base CX0 1 (a.fi .ob) (D.fdI .ob) ["self", "number"] (spIn (a.c .ob) 1 fun us => [("number", us.headD .non)]) := by
  refine D.Iob.ok scIob (fun vs H Q E h => ?_) (fun cdv A outer s H vs Q E hr h => ?_)
  · obtain ⟨p, us, rfl, hl, _⟩ := h
    simp [hl]
  · obtain ⟨p, us, rfl, hl, hp, q⟩ := h
    obtain ⟨v, rfl⟩ := len1of hl
    refine ⟨_, (pss_one (ps_ost (pv 0) (pv 1) rfl)), ?_⟩
    refine ⟨_, rfl, _, rfl, p, _, rfl, T.ox .ob, T.no .ob _ (by decide), .inl ⟨hp, fun dx hd ne => ?_⟩⟩
    exact q dx _ hd ne (fun b n1 n2 => by rw [upd_ne n1, upd_ne n2]) upd_same (by rw [upd_ne ne]; exact upd_same)
theorem scIft : FnScope ["self", "length"] ["self", "length"] (defScope sIft) := ⟨rfl, rfl, rfl, by decide +kernel, rfl, by decide +kernel, by decide +kernel⟩
theorem ok_Ift (T : Txt K mg a) (D : Df K a) : FnOk P w K mg base CX0 1 (a.fi .ft) (D.fdI .ft) ["self", "length"] (spIn (a.c .ft) 1 fun us => [("length", us.headD .non)]) := by
  refine D.Ift.ok scIft (fun vs H Q E h => ?_) (fun cdv A outer s H vs Q E hr h => ?_)
  · obtain ⟨p, us, rfl, hl, _⟩ := h
    simp [hl]
  · obtain ⟨p, us, rfl, hl, hp, q⟩ := h
    obtain ⟨v, rfl⟩ := len1of hl
    refine ⟨_, (pss_one (ps_ost (pv 0) (pv 1) rfl)), ?_⟩
    refine ⟨_, rfl, _, rfl, p, _, rfl, T.ox .ft, T.no .ft _ (by decide), .inl ⟨hp, fun dx hd ne => ?_⟩⟩
    exact q dx _ hd ne (fun b n1 n2 => by rw [upd_ne n1, upd_ne n2]) upd_same (by rw [upd_ne ne]; exact upd_same)
theorem scIct : FnScope ["self", "what", "count"] ["self", "what", "count"] (defScope sIct) := ⟨rfl, rfl, rfl, by decide +kernel, rfl, by decide +kernel, by decide +kernel⟩
theorem ok_Ict (T : Txt K mg a) (D : Df K a) : FnOk P w K mg base CX0 1 (a.fi .ct) (D.fdI .ct) ["self", "what", "count"] (spIn (a.c .ct) 2 fun us => [("count", us.getD 1 .non), ("what", us.headD .non)]) := by
  refine D.Ict.ok scIct (fun vs H Q E h => ?_) (fun cdv A outer s H vs Q E hr h => ?_)
  · obtain ⟨p, us, rfl, hl, _⟩ := h
    simp [hl]
  · obtain ⟨p, us, rfl, hl, hp, q⟩ := h
    obtain ⟨v, u, rfl⟩ := len2of hl
    refine ⟨_, (pss_cons (ps_ost (pv 0) (pv 1) rfl) (pss_one (ps_ost (pv 0) (pv 2) rfl))), ?_⟩
    refine ⟨_, rfl, _, rfl, p, _, rfl, T.ox .ct, T.no .ct _ (by decide), .inl ⟨hp, fun dx hd ne => ?_⟩⟩
    refine ⟨_, rfl, _, rfl, p, _, rfl, T.ox .ct, T.no .ct _ (by decide), .inr ⟨dx, [("what", v)], upd_same, (by rw [upd_ne ne]; exact upd_same), (by show 1 ≤ 900; decide), ?_⟩⟩
    exact q dx _ hd ne (fun b n1 n2 => by rw [upd_ne n2, upd_ne n1, upd_ne n2]) (by rw [upd_ne ne.symm]; exact upd_same) upd_same
theorem scInn : FnScope ["self", "name"] ["self", "name"] (defScope sInn) := ⟨rfl, rfl, rfl, by decide +kernel, rfl, by decide +kernel, by decide +kernel⟩
theorem ok_Inn (T : Txt K mg a) (D : Df K a) : FnOk P w K mg base CX0 1 (a.fi .nn) (D.fdI .nn) ["self", "name"] (spIn (a.c .nn) 1 fun us => [("name", us.headD .non)]) := by
  refine D.Inn.ok scInn (fun vs H Q E h => ?_) (fun cdv A outer s H vs Q E hr h => ?_)
  · obtain ⟨p, us, rfl, hl, _⟩ := h
    simp [hl]
  · obtain ⟨p, us, rfl, hl, hp, q⟩ := h
    obtain ⟨v, rfl⟩ := len1of hl
    refine ⟨_, (pss_one (ps_ost (pv 0) (pv 1) rfl)), ?_⟩
    refine ⟨_, rfl, _, rfl, p, _, rfl, T.ox .nn, T.no .nn _ (by decide), .inl ⟨hp, fun dx hd ne => ?_⟩⟩
    exact q dx _ hd ne (fun b n1 n2 => by rw [upd_ne n1, upd_ne n2]) upd_same (by rw [upd_ne ne]; exact upd_same)
theorem scIfl : FnScope ["self", "name"] ["self", "name"] (defScope sIfl) := ⟨rfl, rfl, rfl, by decide +kernel, rfl, by decide +kernel, by decide +kernel⟩
theorem ok_Ifl (T : Txt K mg a) (D : Df K a) : FnOk P w K mg base CX0 1 (a.fi .fl) (D.fdI .fl) ["self", "name"] (spIn (a.c .fl) 1 fun us => [("name", us.headD .non)]) := by
  refine D.Ifl.ok scIfl (fun vs H Q E h => ?_) (fun cdv A outer s H vs Q E hr h => ?_)
  · obtain ⟨p, us, rfl, hl, _⟩ := h
    simp [hl]
  · obtain ⟨p, us, rfl, hl, hp, q⟩ := h
    obtain ⟨v, rfl⟩ := len1of hl
    refine ⟨_, (pss_one (ps_ost (pv 0) (pv 1) rfl)), ?_⟩
    refine ⟨_, rfl, _, rfl, p, _, rfl, T.ox .fl, T.no .fl _ (by decide), .inl ⟨hp, fun dx hd ne => ?_⟩⟩
    exact q dx _ hd ne (fun b n1 n2 => by rw [upd_ne n1, upd_ne n2]) upd_same (by rw [upd_ne ne]; exact upd_same)
theorem scItx : FnScope ["self", "place"] ["self", "place"] (defScope sItx) := ⟨rfl, rfl, rfl, by decide +kernel, rfl, by decide +kernel, by decide +kernel⟩
theorem ok_Itx (T : Txt K mg a) (D : Df K a) : FnOk P w K mg base CX0 1 (a.fi .tx) (D.fdI .tx) ["self", "place"] (spIn (a.c .tx) 1 fun us => [("place", us.headD .non)]) := by
  refine D.Itx.ok scItx (fun vs H Q E h => ?_) (fun cdv A outer s H vs Q E hr h => ?_)
  · obtain ⟨p, us, rfl, hl, _⟩ := h
    simp [hl]
  · obtain ⟨p, us, rfl, hl, hp, q⟩ := h
    obtain ⟨v, rfl⟩ := len1of hl
    refine ⟨_, (pss_one (ps_ost (pv 0) (pv 1) rfl)), ?_⟩
    refine ⟨_, rfl, _, rfl, p, _, rfl, T.ox .tx, T.no .tx _ (by decide), .inl ⟨hp, fun dx hd ne => ?_⟩⟩
    exact q dx _ hd ne (fun b n1 n2 => by rw [upd_ne n1, upd_ne n2]) upd_same (by rw [upd_ne ne]; exact upd_same)
theorem scIvl : FnScope ["self", "path"] ["self", "path"] (defScope sIvl) := ⟨rfl, rfl, rfl, by decide +kernel, rfl, by decide +kernel, by decide +kernel⟩
theorem ok_Ivl (T : Txt K mg a) (D : Df K a) : FnOk P w K mg base CX0 1 (a.fi .vl) (D.fdI .vl) ["self", "path"] (spIw (a.c .vl)) := by
  refine D.Ivl.ok scIvl (fun vs H Q E h => ?_) (fun cdv A outer s H vs Q E hr h => ?_)
  · obtain ⟨p, w, xs, rfl, _⟩ := h
    rfl
  · obtain ⟨p, w, xs, rfl, hw, hp, q⟩ := h
    refine ⟨_, (pss_one (ps_ost (pv 0) (pe_ifExp (pt_val (pe_callB call_isiT (by rfl) T.bIsinstance (by decide +kernel) (pa_cons (pv 1) (pa_cons (pe_tup (pa_cons (pe_bltn (v := .ty "list") rfl T.bList (by decide +kernel) rfl) (pa_cons (pe_bltn (v := .ty "tuple") rfl T.bTuple (by decide +kernel) rfl) pa_nil))) pa_nil)))) (pe_callTy call_tuple_of (by rfl) T.bTuple (by decide +kernel) (pa_cons (pv 1) pa_nil)) (pv 1)) rfl)), ?_⟩
    refine ⟨_, rfl, (by show 2 ≤ sizeLine; decide), fun tp ht => ?_⟩
    have hw1 : (upd H tp (.tup [.ty "list", .ty "tuple"])) w = some (.tup xs) := by rw [upd_ne (ne_of_none hw ht)]; exact hw
    have hp1 : (upd H tp (.tup [.ty "list", .ty "tuple"])) p = some (exo p (a.c .vl) none) := by rw [upd_ne (ne_of_none hp ht)]; exact hp
    refine ⟨_, tp, _, .type "tuple", [.type "list", .type "tuple"], true, rfl, upd_same, .cons (.ty _) (.cons (.ty _) .nil), .base (.tup hw1), kitAny_cons (b := false) (kit_ty (by decide +kernel)) (fun _ => kitAny_cons (b := true) (kit_ty (by decide +kernel)) (fun z => by cases z) (fun _ => rfl)) (fun z => by cases z), ?_⟩
    refine ⟨_, rfl, ?_⟩
    refine iteT ?_
    refine ⟨_, rfl, w, xs, rfl, .inr ⟨.inl (.inl hw1), ?_⟩⟩
    refine ⟨_, rfl, p, _, rfl, T.ox .vl, T.no .vl _ (by decide), .inl ⟨hp1, fun dx hd ne => ?_⟩⟩
    have hd0 : H dx = none := by
      by_cases e : dx = tp
      · rw [e]; exact ht
      · rw [upd_ne e] at hd; exact hd
    exact q dx _ hd0 ne (fun b o n1 n2 hb => by rw [upd_ne n1, upd_ne n2, upd_ne (ne_of_none hb ht)]; exact hb) upd_same (by rw [upd_ne ne]; exact upd_same)
end
end G58

set_option Elab.async false
set_option linter.all false
set_option maxRecDepth 100000
set_option maxHeartbeats 4000000
/-! k05: the law's source of draws, its picks. -/
namespace G58
open PySem PySem.Spec PyProof.Rows L2
/-- a source stands at S -/
def SrcAt (H : Hp) (S : Addr) : Prop := ∃ x y z : Int, H S = some (.lst [.int x, .int y, .int z])
def spSrc : Sp := fun vs H Q _ => ∃ n : Int, vs = [.int n] ∧ ∀ p H', H p = none → Same H H' → SrcAt H' p → Q (.ref p) H'
/-- all that was tracked stays but what is at S -/
def But (S : Addr) (H H' : Hp) : Prop := ∀ b o, H b = some o → b ≠ S → H' b = some o
theorem But.refl (S : Addr) (H : Hp) : But S H H := fun _ _ h _ => h
theorem But.trans {S : Addr} {H H1 H2 : Hp} (x : But S H H1) (y : But S H1 H2) : But S H H2 := fun b o h n => y b o (x b o h n) n
theorem But.same {S : Addr} {H H1 H2 : Hp} (x : But S H H1) (y : Same H1 H2) : But S H H2 := fun b o h n => y b o (x b o h n)
theorem But.upd {S : Addr} {H : Hp} {o : HO} : But S H (L2.upd H S o) := fun b u h n => by
  rw [upd_ne n]
  exact h
theorem Same.but {S : Addr} {H H1 : Hp} (x : Same H H1) : But S H H1 := fun b o h _ => x b o h
def spDrw : Sp := fun vs H Q _ => ∃ (S : Addr) (m : Int), vs = [.ref S, .int m] ∧ SrcAt H S ∧ 0 < m ∧ m < 1073741824 ∧ ∀ (r : Int) (H' : Hp), 0 ≤ r → r < m → SrcAt H' S → But S H H' → (∀ b, H b = none → H' b = none) → Q (.int r) H'
def spPik : Sp := fun vs H Q _ => ∃ (S L : Addr) (xs : List V), vs = [.ref S, .ref L] ∧ SrcAt H S ∧ H L = some (.lst xs) ∧ L ≠ S ∧ 0 < xs.length ∧ xs.length < 1000 ∧ ∀ (i : Nat) (x : V) (H' : Hp), xs[i]? = some x → SrcAt H' S → But S H H' → (∀ b, H b = none → H' b = none) → Q x H'
section
variable {P : Program} {w : World} {K : PySem.W.Frag} {mg : Str → Option Value} {base : Heap} {a : Ad} {l : Ld}
theorem scSrc : FnScope ["_law_cell"] ["_law_cell"] (defScope sSrc) := ⟨rfl, rfl, rfl, by decide +kernel, rfl, by decide +kernel, by decide +kernel⟩
theorem scDrw : FnScope ["_law_source_here", "_law_many", "_law_found", "_law_mixed"] ["_law_source_here", "_law_many"] (defScope sDrw) := ⟨rfl, rfl, rfl, by decide +kernel, rfl, by decide +kernel, by decide +kernel⟩
theorem scPik : FnScope ["_law_source_here", "_law_items"] ["_law_source_here", "_law_items"] (defScope sPik) := ⟨rfl, rfl, rfl, by decide +kernel, rfl, by decide +kernel, by decide +kernel⟩
theorem ok_src (T : Txt K mg a) (LD : LDf K l) : FnOk P w K mg base CX0 1 l.fSrc LD.fdSrc ["_law_cell"] spSrc := by
  refine LD.FSrc.ok scSrc (fun vs H Q E h => ?_) (fun cdv A outer s H vs Q E hr h => ?_)
  · obtain ⟨n, rfl, _⟩ := h
    rfl
  · obtain ⟨n, rfl, k⟩ := h
    refine ⟨_, (pss_one (ps_ret (pe_lst (pa_cons (pe_callB call_abs (by rfl) T.bAbs (by decide +kernel) (pa_cons (pv 0) pa_nil)) (pa_cons (pe_op op_mod (pe_callTy call_int1 (by rfl) T.bInt (by decide +kernel) (pa_cons (pv 0) pa_nil)) pe_int) (pa_cons pe_int pa_nil)))))), ?_⟩
    refine ⟨_, rfl, n, rfl, _, rfl, .inl ⟨_, rfl, _, _, rfl, rfl, by show (0 : Int) < 2147483629; decide, by show 3 ≤ sizeLine; decide, fun p hp => ?_⟩⟩
    exact k p _ hp (same_new (Same.refl H) hp) ⟨_, _, _, upd_same⟩
theorem ok_drw (T : Txt K mg a) (LD : LDf K l) : FnOk P w K mg base CX0 1 l.fDrw LD.fdDrw ["_law_source_here", "_law_many"] spDrw := by
  refine LD.FDrw.ok scDrw (fun vs H Q E h => ?_) (fun cdv A outer s H vs Q E hr h => ?_)
  · obtain ⟨S, m, rfl, _⟩ := h
    rfl
  · obtain ⟨S, m, rfl, ⟨x, y, z, hS⟩, h0, h1, k⟩ := h
    refine ⟨_, (pss_cons (ps_if (pt_cmpR op_ge (pe_ix ix_list (pv 0) pe_int (fun _ _ => rfl)) (pe_op op_pow pe_int pe_int) (nomark _)) (pss_cons (ps_set (i := 2) scDrw.nd rfl (.inl rfl) (pe_op op_mod (pe_callTy call_int1 (by rfl) T.bInt (by decide +kernel) (pa_cons (pe_ix ix_list (pv 0) pe_int (fun _ _ => rfl)) pa_nil)) (pv 1))) (pss_cons (ps_asg (pe_op op_fdiv (pe_ix ix_list (pv 0) pe_int (fun _ _ => rfl)) (pv 1)) (pg_sub (pv 0) pe_int set_list)) (pss_one (ps_ret (pv 2))))) pss_nil) (pss_cons (ps_asg (pe_op op_add (pe_ix ix_list (pv 0) pe_int (fun _ _ => rfl)) pe_int) (pg_sub (pv 0) pe_int set_list)) (pss_cons (ps_set (i := 3) scDrw.nd rfl (.inl rfl) (pe_op op_mod (pe_callTy call_int1 (by rfl) T.bInt (by decide +kernel) (pa_cons (pe_op op_mul (pe_op op_add (pe_op op_add (pe_ix ix_list (pv 0) pe_int (fun _ _ => rfl)) (pe_op op_mul pe_int (pe_ix ix_list (pv 0) pe_int (fun _ _ => rfl)))) pe_int) pe_int) pa_nil)) pe_int)) (pss_cons (ps_set (i := 3) scDrw.nd rfl (.inl rfl) (pe_op op_mod (pe_callTy call_int1 (by rfl) T.bInt (by decide +kernel) (pa_cons (pe_op op_mul (pv 3) (pe_op op_add (pe_op op_fdiv (pv 3) pe_int) pe_int)) pa_nil)) pe_int)) (pss_one (ps_ret (pe_op op_mod (pe_callTy call_int1 (by rfl) T.bInt (by decide +kernel) (pa_cons (pe_op op_mod (pe_callTy call_int1 (by rfl) T.bInt (by decide +kernel) (pa_cons (pe_op op_add (pe_op op_fdiv (pv 3) pe_int) (pe_op op_mul (pe_op op_mod (pe_callTy call_int1 (by rfl) T.bInt (by decide +kernel) (pa_cons (pv 3) pa_nil)) pe_int) pe_int)) pa_nil)) pe_int) pa_nil)) (pv 1)))))))), ?_⟩
    have at0 : ∀ {u v t : V}, atI [u, v, t] 0 = some u := rfl
    have at1 : ∀ {u v t : V}, atI [u, v, t] 1 = some v := rfl
    have at2 : ∀ {u v t : V}, atI [u, v, t] 2 = some t := rfl
    have fr : ∀ {o : HO}, ∀ b, H b = none → (upd H S o) b = none := fun b hb => by
      rw [upd_ne (ne_of_none hS hb).symm]
      exact hb
    refine ⟨_, rfl, S, _, _, _, rfl, rfl, .inl (.inl hS), at0, _, _, rfl, rfl, ⟨by decide, by decide, by decide⟩, _, _, rfl, rfl, _, rfl, ?_⟩
    refine ite2 (fun _ => ?_) (fun _ => ?_)
    · refine ⟨_, rfl, S, _, _, _, rfl, rfl, .inl (.inl hS), at0, .inl ⟨_, rfl, _, rfl, _, _, rfl, rfl, h0, ?_⟩⟩
      refine ⟨_, rfl, S, _, _, _, rfl, rfl, .inl (.inl hS), at0, _, rfl, _, _, rfl, rfl, ⟨h0, h1⟩, _, rfl, S, _, _, 0, rfl, rfl, hS, rfl, ?_⟩
      refine ⟨_, rfl, k _ _ (Int.emod_nonneg _ (by omega)) (Int.emod_lt_of_pos _ h0) ⟨_, _, _, upd_same⟩ But.upd fr⟩
    · refine ⟨_, rfl, S, _, _, _, rfl, rfl, .inl (.inl hS), at2, _, _, rfl, rfl, _, rfl, S, _, _, 2, rfl, rfl, hS, rfl, ?_⟩
      refine ⟨_, rfl, S, _, _, _, rfl, rfl, .inl (.inl upd_same), at1, _, rfl, S, _, _, _, rfl, rfl, .inl (.inl upd_same), at2, _, _, rfl, rfl, .inl ⟨by decide, by decide⟩, _, _, rfl, rfl, _, _, rfl, rfl, _, _, rfl, rfl, .inr ⟨by decide, by decide⟩,
        .inl ⟨_, rfl, _, _, rfl, rfl, by show (0 : Int) < 2147483647; decide, ?_⟩⟩
      generalize hm : ((y + 7919 * (z + 1) + 1) * 48271 : Int) % 2147483647 = q
      have q0 : 0 ≤ q := by rw [← hm]; exact Int.emod_nonneg _ (by decide)
      have q1 : q < 2147483647 := by rw [← hm]; exact Int.emod_lt_of_pos _ (by decide)
      refine ⟨_, rfl, _, rfl, _, _, rfl, rfl, ⟨by decide, by decide⟩, _, _, rfl, rfl, _, _, rfl, rfl, .inl ⟨by omega, by omega⟩, .inl ⟨_, rfl, _, _, rfl, rfl, by show (0 : Int) < 2147483587; decide, ?_⟩⟩
      refine ⟨_, rfl, _, _, rfl, rfl, ⟨by decide, by decide⟩, _, rfl, .inl ⟨_, rfl, _, _, rfl, rfl, by show (0 : Int) < 7919; decide, _, _, rfl, rfl, .inr ⟨by decide, by decide⟩, _, _, rfl, rfl, .inl ⟨_, rfl, _, _, rfl, rfl, by show (0 : Int) < 2147483399; decide,
        .inl ⟨_, rfl, _, rfl, _, _, rfl, rfl, h0, ?_⟩⟩⟩⟩
      exact k _ _ (Int.emod_nonneg _ (by omega)) (Int.emod_lt_of_pos _ h0) ⟨_, _, _, upd_same⟩ But.upd fr
theorem ok_pik (T : Txt K mg a) (LD : LDf K l) (L : LTx mg l) : FnOk P w K mg base CX0 2 l.fPik LD.fdPik ["_law_source_here", "_law_items"] spPik := by
  have GDrw : FnOk P w K mg base CX0 1 l.fDrw LD.fdDrw ["_law_source_here", "_law_many"] spDrw := ok_drw T LD
  refine LD.FPik.ok scPik (fun vs H Q E h => ?_) (fun cdv A outer s H vs Q E hr h => ?_)
  · obtain ⟨S, L, xs, rfl, _⟩ := h
    rfl
  · obtain ⟨S, L1, xs, rfl, hS, hL, ne, l0, l1, k⟩ := h
    refine ⟨_, (pss_one (ps_ret (pe_ix ix_list (pv 1) (pe_call GDrw hr rfl L.gDrw LD.FDrw.kp LD.bDrw .nil pass0 (pa_cons (pv 0) (pa_cons (pe_callB call_len_seq (by rfl) T.bLen PySem.boot_len (pa_cons (pv 1) pa_nil)) pa_nil))) (fun _ _ => rfl)))), ?_⟩
    refine ⟨_, rfl, _, rfl, _, rfl, L1, xs, rfl, .inl (.inl (.inl hL)), S, _, rfl, hS, by omega, by omega, fun r H' r0 r1 hS' hB hF => ?_⟩
    have hi : r.toNat < xs.length := by omega
    refine ⟨L1, xs, r, xs[r.toNat], rfl, rfl, .inl (.inl (hB L1 _ hL ne)), ?_, k r.toNat _ H' (by simp [hi]) hS' hB hF⟩
    exact at_of (j := r.toNat) (by omega) (by simp [hi])
end
end G58

set_option Elab.async false
set_option linter.all false
set_option maxRecDepth 100000
set_option maxHeartbeats 4000000
/-! k05: one row of the law's errors: the error, its name, its fields. -/
namespace G58
open PySem PySem.Spec PyProof.Rows L2
/-- x: an error of the class k, its name, its fields in a list -/
def Tri (a : Ad) (H : Hp) (k : Kd) (xs : List V) (z : Str) (n : Int) (x : V) : Prop := ∃ t e l w : Addr, x = .ref t ∧ H t = some (.tup [.ref e, .str k.nm, .ref l]) ∧ ErrO H e (a.c k) (k.flds (.ref w) z n) ∧ H l = some (.lst (k.vals (.ref w) z n)) ∧ H w = some (.tup xs)
theorem ErrO.same {H H' : Hp} {e C : Addr} {fs : List (Str × V)} (h : ErrO H e C fs) (s : Same H H') : ErrO H' e C fs := by
  rcases h with ⟨h, rfl⟩ | ⟨dx, h1, h2⟩
  · exact .inl ⟨s _ _ h, rfl⟩
  · exact .inr ⟨dx, s _ _ h1, s _ _ h2⟩
theorem Tri.same {a : Ad} {H H' : Hp} {k : Kd} {xs : List V} {z : Str} {n : Int} {x : V} (h : Tri a H k xs z n x) (s : Same H H') : Tri a H' k xs z n x := by
  obtain ⟨t, e, l, w, rfl, h1, h2, h3, h4⟩ := h
  exact ⟨t, e, l, w, rfl, s _ _ h1, h2.same s, s _ _ h3, s _ _ h4⟩
/-- what is new from H to H1 stands in G -/
def Nw (H H1 G : Hp) : Prop := ∀ b o, H b = none → H1 b = some o → G b = some o
theorem Nw.refl (H H1 : Hp) : Nw H H1 H1 := fun _ _ _ h => h
structure El (a : Ad) (H H1 : Hp) (w : Addr) (xs : List V) (z : Str) (n : Int) (k : Kd) (x : V) : Prop where
  s : Same H H1
  tri : ∀ G, Nw H H1 G → G w = some (.tup xs) → Tri a G k xs z n x
theorem none_up {H H1 : Hp} (s : Same H H1) {b : Addr} (h : H1 b = none) : H b = none := by
  cases e : H b with
  | none => rfl
  | some o =>
    rw [s b o e] at h
    cases h
theorem tri_fin {a : Ad} {H H1 : Hp} {w e : Addr} {xs : List V} {z : Str} {n : Int} {k : Kd} {σ : L2.St} {Q : VK} {ta : TA} (hta : ∀ (H2 : Hp) (R : List V → Hp → Prop), R (k.vals (.ref w) z n) H2 → ta σ H2 R) (s1 : Same H H1) (hw : H w = some (.tup xs))
    (he : H e = none) (er : ∀ G, Nw H H1 G → ErrO G e (a.c k) (k.flds (.ref w) z n)) (h : ∀ t H2, El a H H2 w xs z n k (.ref t) → Q (.ref t) H2) :
    tCons (tC (.str k.nm)) (tCons (tLst ta) tNil) σ H1 (fun us H2 => (V.ref e :: us).length ≤ sizeLine ∧ ∀ p, H2 p = none → Q (.ref p) (upd H2 p (.tup (.ref e :: us)))) := by
  have hv : (k.vals (.ref w) z n).length ≤ sizeLine := by
    have : (k.vals (.ref w) z n).length ≤ 2 := by cases k <;> simp [Kd.vals]
    exact Nat.le_trans this (by decide)
  refine hta _ _ ⟨hv, fun l hl => ⟨by show 3 ≤ sizeLine; decide, fun t ht => h t _ ⟨?_, fun G hG hgw => ?_⟩⟩⟩
  · exact same_new (same_new s1 hl) ht
  · have ht1 : H1 t = none := by
      by_cases q : t = l
      · rw [q]; exact hl
      · rw [upd_ne q] at ht; exact ht
    have hlt : l ≠ t := fun q => by
      rw [q, upd_same] at ht
      cases ht
    refine ⟨t, e, l, w, rfl, hG t _ (none_up s1 ht1) upd_same, er G fun b o hb h1 => hG b o hb ?_, hG l _ (none_up s1 hl) (by rw [upd_ne hlt]; exact upd_same), hgw⟩
    rw [upd_ne (ne_of_none h1 ht1), upd_ne (ne_of_none h1 hl)]
    exact h1
section
variable {a : Ad} {H : Hp} {w : Addr} {xs : List V} {z : Str} {n : Int} {σ : L2.St} {Q : VK} {C : Addr}
/-- what an __init__ leaves -/
theorem init_new {H1 : Hp} {e dx : Addr} (he : H e = none) (hd : (upd H e (exo e C none)) dx = none) (hk : ∀ b o, b ≠ e → b ≠ dx → (upd H e (exo e C none)) b = some o → H1 b = some o) : Same H H1 ∧ H dx = none ∧ dx ≠ e := by
  have ne : dx ≠ e := fun q => by
    rw [q, upd_same] at hd
    cases hd
  have hd0 : H dx = none := by
    rw [upd_ne ne] at hd
    exact hd
  exact ⟨fun b o hb => hk b o (ne_of_none hb he) (ne_of_none hb hd0) (by rw [upd_ne (ne_of_none hb he)]; exact hb), hd0, ne⟩
/-- C(x, ..) or C(f = x, ..), its name, its fields -/
theorem rd_in {k : Kd} {c m : Nat} {fs : List V → List (Str × V)} {gV : List V → List V → List V} {t tk ta : TA} {us zs vs : List V} (ht : ∀ (H2 : Hp) (R : List V → Hp → Prop), R us H2 → t σ H2 R) (htk : ∀ (H2 : Hp) (R : List V → Hp → Prop), R zs H2 → tk σ H2 R)
    (l1 : us.length = c) (l2 : zs.length = m) (hg : ∀ e : Addr, gV (.ref e :: us) zs = .ref e :: vs) (hf : fs vs = k.flds (.ref w) z n)
    (hta : ∀ (H2 : Hp) (R : List V → Hp → Prop), R (k.vals (.ref w) z n) H2 → ta σ H2 R) (hw : H w = some (.tup xs)) (h : ∀ t H2, El a H H2 w xs z n k (.ref t) → Q (.ref t) H2) :
    tTup (tCons (tOex (a.c k) c m (spIn (a.c k) vs.length fs) gV t tk) (tCons (tC (.str k.nm)) (tCons (tLst ta) tNil))) σ H Q := by
  refine ht _ _ (htk _ _ ⟨l1, l2, fun e he => ⟨e, vs, hg e, rfl, upd_same, fun dx H1 hd ne hk h1 h2 => ⟨rfl, ?_⟩⟩⟩)
  obtain ⟨s1, hd0, _⟩ := init_new (H1 := H1) he hd fun b o n1 n2 hb => by rw [hk b n1 n2]; exact hb
  refine tri_fin hta s1 hw he (fun G hG => .inr ⟨dx, hG _ _ he h1, ?_⟩) h
  rw [hG _ _ hd0 h2, hf]
theorem rd_iw {c m : Nat} {gV : List V → List V → List V} {t tk ta : TA} {us zs : List V} (ht : ∀ (H2 : Hp) (R : List V → Hp → Prop), R us H2 → t σ H2 R) (htk : ∀ (H2 : Hp) (R : List V → Hp → Prop), R zs H2 → tk σ H2 R)
    (l1 : us.length = c) (l2 : zs.length = m) (hg : ∀ e : Addr, gV (.ref e :: us) zs = [.ref e, .ref w])
    (hta : ∀ (H2 : Hp) (R : List V → Hp → Prop), R (Kd.vals (.ref w) z n .vl) H2 → ta σ H2 R) (hw : H w = some (.tup xs)) (h : ∀ t H2, El a H H2 w xs z n .vl (.ref t) → Q (.ref t) H2) :
    tTup (tCons (tOex (a.c .vl) c m (spIw (a.c .vl)) gV t tk) (tCons (tC (.str (Kd.nm .vl))) (tCons (tLst ta) tNil))) σ H Q := by
  refine ht _ _ (htk _ _ ⟨l1, l2, fun e he => ⟨e, w, xs, hg e, ?_, upd_same, fun dx H1 hd ne hk h1 h2 => ⟨rfl, ?_⟩⟩⟩)
  · rw [upd_ne (ne_of_none hw he)]
    exact hw
  obtain ⟨s1, hd0, _⟩ := init_new (H1 := H1) he hd hk
  exact tri_fin hta s1 hw he (fun G hG => .inr ⟨dx, hG _ _ he h1, hG _ _ hd0 h2⟩) h
theorem rd_i0 {ta : TA} (hta : ∀ (H2 : Hp) (R : List V → Hp → Prop), R (Kd.vals (.ref w) z n .bk) H2 → ta σ H2 R) (hw : H w = some (.tup xs)) (h : ∀ t H2, El a H H2 w xs z n .bk (.ref t) → Q (.ref t) H2) :
    tTup (tCons (fun _ H Q => ∀ e, H e = none → Q (.ref e) (upd H e (exo e (a.c .bk) none))) (tCons (tC (.str (Kd.nm .bk))) (tCons (tLst ta) tNil))) σ H Q := by
  intro e he
  exact tri_fin hta (same_new (Same.refl H) he) hw he (fun G hG => .inl ⟨hG _ _ he upd_same, rfl⟩) h
/-- the list that is made -/
structure LSt (a : Ad) (H0 H : Hp) (w : Addr) (xs : List V) (z : Str) (n : Int) (p : Addr) (ts : List V) : Prop where
  s0 : Same H0 H
  hw : H w = some (.tup xs)
  new : H0 p = none
  at_ : H p = some (.lst ts)
  all : ∀ x ∈ ts, ∃ k, Tri a (del H p) k xs z n x
theorem same_del {H : Hp} {p : Addr} : Same (del H p) H := fun b o h => by
  by_cases e : b = p
  · rw [e, del_same] at h
    cases h
  · rw [del_ne e] at h
    exact h
theorem del_mono {H H1 : Hp} {p : Addr} (s : Same H H1) : Same (del H p) (del H1 p) := fun b o h => by
  by_cases e : b = p
  · rw [e, del_same] at h
    cases h
  · rw [del_ne e] at h ⊢
    exact s b o h
theorem del_upd {H : Hp} {p : Addr} {o : HO} : Same (del H p) (del (upd H p o) p) := fun b u h => by
  by_cases e : b = p
  · rw [e, del_same] at h
    cases h
  · rw [del_ne e] at h ⊢
    rw [upd_ne e]
    exact h
theorem del_new {H : Hp} {p : Addr} {o : HO} (hp : H p = none) : Same H (del (upd H p o) p) := fun b u h => by
  rw [del_ne (ne_of_none h hp), upd_ne (ne_of_none h hp)]
  exact h
theorem LSt.fwd {H0 H1 : Hp} {p : Addr} {ts : List V} (L : LSt a H0 H w xs z n p ts) (s : Same H H1) : LSt a H0 H1 w xs z n p ts :=
  ⟨fun b o h => s b o (L.s0 b o h), s _ _ L.hw, L.new, s _ _ L.at_, fun x hx => let ⟨k, t⟩ := L.all x hx; ⟨k, t.same (del_mono s)⟩⟩
theorem LSt.tri {H0 : Hp} {p : Addr} {ts : List V} (L : LSt a H0 H w xs z n p ts) : ∀ x ∈ ts, ∃ k, Tri a H k xs z n x := fun x hx => let ⟨k, t⟩ := L.all x hx; ⟨k, t.same same_del⟩
/-- a new list of such rows -/
theorem LSt.mk' {H0 : Hp} {p : Addr} {ts : List V} (s0 : Same H0 H) (hw : H w = some (.tup xs)) (hp : H p = none) (all : ∀ x ∈ ts, ∃ k, Tri a H k xs z n x) : LSt a H0 (upd H p (.lst ts)) w xs z n p ts :=
  ⟨same_new s0 hp, by rw [upd_ne (ne_of_none hw hp)]; exact hw, none_up s0 hp, upd_same, fun x hx => let ⟨k, t⟩ := all x hx; ⟨k, t.same (del_new hp)⟩⟩
theorem El.at_ {H1 : Hp} {k : Kd} {x : V} (E : El a H H1 w xs z n k x) (hw : H w = some (.tup xs)) : Tri a H1 k xs z n x := E.tri H1 (Nw.refl _ _) (E.s _ _ hw)
/-- one more row -/
theorem LSt.app {H0 H1 : Hp} {p : Addr} {ts : List V} {k : Kd} {x : V} (L : LSt a H0 H w xs z n p ts) (E : El a H H1 w xs z n k x) : LSt a H0 (upd H1 p (.lst (ts ++ [x]))) w xs z n p (ts ++ [x]) := by
  have L1 := L.fwd E.s
  have wp : w ≠ p := fun q => by
    have := L.hw
    rw [q, L.at_] at this
    cases this
  refine ⟨fun b o h => ?_, by rw [upd_ne wp]; exact L1.hw, L.new, upd_same, fun y hy => ?_⟩
  · rw [upd_ne (ne_of_none h L.new)]
    exact L1.s0 b o h
  · rcases List.mem_append.mp hy with hy | hy
    · obtain ⟨k, t⟩ := L1.all y hy
      exact ⟨k, t.same del_upd⟩
    · rw [List.mem_singleton.mp hy]
      refine ⟨k, E.tri _ (fun b o hb h1 => ?_) ?_⟩
      · have bp : b ≠ p := fun q => by
          rw [q, L.at_] at hb
          cases hb
        rw [del_ne bp, upd_ne bp]
        exact h1
      · rw [del_ne wp, upd_ne wp]
        exact L1.hw
/-- two lists of such rows, joined anew -/
theorem LSt.cat {H0 : Hp} {p q : Addr} {ts us : List V} (L : LSt a H0 H w xs z n p ts) (hu : ∀ x ∈ us, ∃ k, Tri a H k xs z n x) (hq : H q = none) : LSt a H0 (upd H q (.lst (ts ++ us))) w xs z n q (ts ++ us) :=
  LSt.mk' L.s0 L.hw hq fun x hx => (List.mem_append.mp hx).elim (L.tri x) (hu x)
end
end G58

set_option Elab.async false
set_option linter.all false
set_option pp.maxSteps 3000
set_option maxRecDepth 100000
set_option maxHeartbeats 4000000
/-! k05: the errors made by position and by keyword. -/
namespace G58
open PySem PySem.Spec PyProof.Rows L2
section
variable {σ : L2.St} {H : Hp} {D : Ends} {t u : TS} {te : TE} {g : TG} {ta : TA} {Q : VK} {i : Nat} {v : V} {r : R2} {tb : TE}
theorem pl_seq (h : t { D with nx := u D } σ H) : tSeq t u D σ H := h
theorem pl_asg (h : te σ H fun x H1 => g x σ H1 D.nx) : tAsg te g D σ H := h
theorem pl_gn {k : L2.St → Hp → Prop} (h : k (σ.set i (some v)) H) : gName i v σ H k := h
theorem pl_nx {σ1 : L2.St} (h : u D σ1 H) : ({ D with nx := u D } : Ends).nx σ1 H := h
theorem pl_drop (h : te σ H fun _ H1 => D.nx σ H1) : tDrop te D σ H := h
theorem pl_ret (h : te σ H D.rt) : tRet te D σ H := h
theorem pl_lst (h : ta σ H fun xs H1 => xs.length ≤ sizeLine ∧ ∀ p, H1 p = none → Q (.ref p) (upd H1 p (.lst xs))) : tLst ta σ H Q := h
theorem pl_cons {R : List V → Hp → Prop} (h : te σ H fun x H1 => ta σ H1 fun xs H2 => R (x :: xs) H2) : tCons te ta σ H R := h
theorem pl_var (h : σ[i]? = some (some v)) (q : Q v H) : tVar i σ H Q := ⟨v, h, q⟩
theorem pl_op (h : te σ H fun x H1 => tb σ H1 fun y H2 => r x y H2 Q) : tOp r te tb σ H Q := h
theorem pl_bm {K : PySem.W.Frag} {T : String} {rm : V → List V → Hp → VK → Prop} (h : te σ H fun x H1 => tyV K T x H1 ∧ ta σ H1 fun xs H2 => rm x xs H2 Q) : tBM K T rm te ta σ H Q := h
end
def spPla (a : Ad) : Sp := fun vs H Q _ => ∃ (w : Addr) (xs : List V) (z : Str) (n : Int), vs = [.ref w, .str z, .int n] ∧ H w = some (.tup xs) ∧ ∀ p ts H', LSt a H H' w xs z n p ts → ts.length ≤ 13 → Q (.ref p) H'
section
variable {P : Program} {w : World} {K : PySem.W.Frag} {mg : Str → Option Value} {base : Heap} {a : Ad} {l : Ld}
theorem scPla : FnScope ["_law_way", "_law_some_word", "_law_many", "_law_found"] ["_law_way", "_law_some_word", "_law_many"] (defScope sPla) := ⟨rfl, rfl, rfl, by decide +kernel, rfl, by decide +kernel, by decide +kernel⟩
theorem ok_Pla (T : Txt K mg a) (D : Df K a) (LD : LDf K l) : FnOk P w K mg base CX0 3 l.fPla LD.fdPla ["_law_way", "_law_some_word", "_law_many"] (spPla a) := by
  have Gvl := ok_Ivl (P := P) (w := w) (base := base) T D
  have Glg := ok_Ilg (P := P) (w := w) (base := base) T D
  have Gbt := ok_Ibt (P := P) (w := w) (base := base) T D
  have Gtn := ok_Itn (P := P) (w := w) (base := base) T D
  have Gpt := ok_Ipt (P := P) (w := w) (base := base) T D
  have Gpl := ok_Ipl (P := P) (w := w) (base := base) T D
  have Gob := ok_Iob (P := P) (w := w) (base := base) T D
  have Gft := ok_Ift (P := P) (w := w) (base := base) T D
  have Gct := ok_Ict (P := P) (w := w) (base := base) T D
  have Gnn := ok_Inn (P := P) (w := w) (base := base) T D
  have Gfl := ok_Ifl (P := P) (w := w) (base := base) T D
  have Gtx := ok_Itx (P := P) (w := w) (base := base) T D
  refine LD.FPla.ok scPla (fun vs H Q E h => ?_) (fun cdv A outer s H vs Q E hr h => ?_)
  · obtain ⟨w, xs, z, n, rfl, _⟩ := h
    rfl
  · obtain ⟨w, xs, z, n, rfl, hw, q⟩ := h
    refine ⟨_, (pss_cons (ps_set (i := 3) scPla.nd rfl (.inl rfl) (pe_lst (pa_cons (pe_tup (pa_cons (pe_oex (T.ox .vl) (T.ini .vl (by decide)) (T.ti .vl (by decide)) Gvl hr D.bvl pass0 (by decide) rfl (T.gc .vl) (pa_cons (pv 0) pa_nil)) (pa_cons pe_str (pa_cons (pe_lst (pa_cons (pv 0) pa_nil)) pa_nil)))) (pa_cons (pe_tup (pa_cons (pe_oex (T.ox .lg) (T.ini .lg (by decide)) (T.ti .lg (by decide)) Glg hr D.blg pass0 (by decide) rfl (T.gc .lg) (pa_cons (pv 1) pa_nil)) (pa_cons pe_str (pa_cons (pe_lst (pa_cons (pv 1) pa_nil)) pa_nil)))) pa_nil)))) (pss_cons (ps_set (i := 3) scPla.nd rfl (.inl rfl) (pe_op op_cat (pv 3) (pe_lst (pa_cons (pe_tup (pa_cons (pe_oex (T.ox .bt) (T.ini .bt (by decide)) (T.ti .bt (by decide)) Gbt hr D.bbt pass0 (by decide) rfl (T.gc .bt) (pa_cons (pv 2) pa_nil)) (pa_cons pe_str (pa_cons (pe_lst (pa_cons (pv 2) pa_nil)) pa_nil)))) (pa_cons (pe_tup (pa_cons (pe_oex (T.ox .tn) (T.ini .tn (by decide)) (T.ti .tn (by decide)) Gtn hr D.btn pass0 (by decide) rfl (T.gc .tn) (pa_cons (pv 1) (pa_cons (pv 2) pa_nil))) (pa_cons pe_str (pa_cons (pe_lst (pa_cons (pv 1) (pa_cons (pv 2) pa_nil))) pa_nil)))) pa_nil))))) (pss_cons (ps_expr (pe_bm PySem.F.plainAttrs_list PySem.F.slot_list_append PySem.F.type_list_append mt_append (pv 3) (pa_cons (pe_tup (pa_cons (pe_oex (T.ox .pt) (T.ini .pt (by decide)) (T.ti .pt (by decide)) Gpt hr D.bpt pass0 (by decide) rfl (T.gc .pt) (pa_cons (pv 2) pa_nil)) (pa_cons pe_str (pa_cons (pe_lst (pa_cons (pv 2) pa_nil)) pa_nil)))) pa_nil))) (pss_cons (ps_set (i := 3) scPla.nd rfl (.inl rfl) (pe_op op_cat (pv 3) (pe_lst (pa_cons (pe_tup (pa_cons (pe_oex (T.ox .pl) (T.ini .pl (by decide)) (T.ti .pl (by decide)) Gpl hr D.bpl pass0 (by decide) rfl (T.gc .pl) (pa_cons (pv 2) pa_nil)) (pa_cons pe_str (pa_cons (pe_lst (pa_cons (pv 2) pa_nil)) pa_nil)))) (pa_cons (pe_tup (pa_cons (pe_oex (T.ox .ob) (T.ini .ob (by decide)) (T.ti .ob (by decide)) Gob hr D.bob pass0 (by decide) rfl (T.gc .ob) (pa_cons (pv 2) pa_nil)) (pa_cons pe_str (pa_cons (pe_lst (pa_cons (pv 2) pa_nil)) pa_nil)))) pa_nil))))) (pss_cons (ps_set (i := 3) scPla.nd rfl (.inl rfl) (pe_op op_cat (pv 3) (pe_lst (pa_cons (pe_tup (pa_cons (pe_oex (T.ox .ft) (T.ini .ft (by decide)) (T.ti .ft (by decide)) Gft hr D.bft pass0 (by decide) rfl (T.gc .ft) (pa_cons (pv 2) pa_nil)) (pa_cons pe_str (pa_cons (pe_lst (pa_cons (pv 2) pa_nil)) pa_nil)))) (pa_cons (pe_tup (pa_cons (pe_oex (T.ox .ct) (T.ini .ct (by decide)) (T.ti .ct (by decide)) Gct hr D.bct pass0 (by decide) rfl (T.gc .ct) (pa_cons (pv 1) (pa_cons (pv 2) pa_nil))) (pa_cons pe_str (pa_cons (pe_lst (pa_cons (pv 1) (pa_cons (pv 2) pa_nil))) pa_nil)))) pa_nil))))) (pss_cons (ps_set (i := 3) scPla.nd rfl (.inl rfl) (pe_op op_cat (pv 3) (pe_lst (pa_cons (pe_tup (pa_cons (pe_oex (T.ox .nn) (T.ini .nn (by decide)) (T.ti .nn (by decide)) Gnn hr D.bnn pass0 (by decide) rfl (T.gc .nn) (pa_cons (pv 1) pa_nil)) (pa_cons pe_str (pa_cons (pe_lst (pa_cons (pv 1) pa_nil)) pa_nil)))) (pa_cons (pe_tup (pa_cons (pe_oex (T.ox .fl) (T.ini .fl (by decide)) (T.ti .fl (by decide)) Gfl hr D.bfl pass0 (by decide) rfl (T.gc .fl) (pa_cons (pv 1) pa_nil)) (pa_cons pe_str (pa_cons (pe_lst (pa_cons (pv 1) pa_nil)) pa_nil)))) pa_nil))))) (pss_one (ps_ret (pe_op op_cat (pv 3) (pe_lst (pa_cons (pe_tup (pa_cons (pe_oex0 T.ex0 (T.ox .bk).kC rfl (T.gc .bk)) (pa_cons pe_str (pa_cons (pe_lst pa_nil) pa_nil)))) (pa_cons (pe_tup (pa_cons (pe_oex (T.ox .tx) (T.ini .tx (by decide)) (T.ti .tx (by decide)) Gtx hr D.btx pass0 (by decide) rfl (T.gc .tx) (pa_cons (pv 2) pa_nil)) (pa_cons pe_str (pa_cons (pe_lst (pa_cons (pv 2) pa_nil)) pa_nil)))) pa_nil)))))))))))), ?_⟩
    refine pl_seq (pl_asg (pl_lst (pl_cons ?_)))
    refine rd_iw (n := n) (z := z) (us := [.ref w]) (zs := []) (by exact fun _ _ h => ⟨_, rfl, h⟩) (by exact fun _ _ h => h) (by rfl) (by rfl) (by exact fun _ => rfl) (by exact fun _ _ h => ⟨_, rfl, h⟩) hw fun t1 H1 E1 => ?_
    refine pl_cons ?_
    refine rd_in (k := .lg) (n := n) (z := z) (us := [.str z]) (zs := []) (vs := [.str z]) (by exact fun _ _ h => ⟨_, rfl, h⟩) (by exact fun _ _ h => h) (by rfl) (by rfl) (by exact fun _ => rfl) (by rfl) (by exact fun _ _ h => ⟨_, rfl, h⟩) (E1.s _ _ hw) fun t2 H2 E2 => ?_
    refine ⟨by show 2 ≤ sizeLine; decide, fun p2 hp2 => ?_⟩
    have L2 : LSt a H _ w xs z n p2 [.ref t1, .ref t2] := LSt.mk' (E1.s.trans E2.s) (E2.s _ _ (E1.s _ _ hw)) hp2 fun x hx => by
      rcases List.mem_cons.mp hx with rfl | hx
      · exact ⟨_, (E1.at_ hw).same E2.s⟩
      · rw [List.mem_singleton.mp hx]
        exact ⟨_, E2.at_ (E1.s _ _ hw)⟩
    refine pl_gn (pl_nx ?_)
    refine pl_seq (pl_asg (pl_op (pl_var (by exact rfl) (pl_lst (pl_cons ?_)))))
    refine rd_in (k := .bt) (n := n) (z := z) (us := [.int n]) (zs := []) (vs := [.int n]) (by exact fun _ _ h => ⟨_, rfl, h⟩) (by exact fun _ _ h => h) (by rfl) (by rfl) (by exact fun _ => rfl) (by rfl) (by exact fun _ _ h => ⟨_, rfl, h⟩) L2.hw fun t3 H3 E3 => ?_
    have L3 := L2.fwd E3.s
    refine pl_cons ?_
    refine rd_in (k := .tn) (n := n) (z := z) (us := [.str z, .int n]) (zs := []) (vs := [.str z, .int n]) (by exact fun _ _ h => ⟨_, rfl, ⟨_, rfl, h⟩⟩) (by exact fun _ _ h => h) (by rfl) (by rfl) (by exact fun _ => rfl) (by rfl) (by exact fun _ _ h => ⟨_, rfl, ⟨_, rfl, h⟩⟩) L3.hw fun t4 H4 E4 => ?_
    have L4 := L3.fwd E4.s
    refine ⟨by show 2 ≤ sizeLine; decide, fun b4 hb4 => ?_⟩
    have M4 := L4.fwd (same_new (Same.refl _) hb4 (o := .lst [.ref t3, .ref t4]))
    refine ⟨_, b4, _, _, rfl, rfl, M4.at_, upd_same, (by show (4 : Nat) ≤ sizeLine; decide), fun p4 hp4 => ?_⟩
    have N4 := M4.cat (us := [.ref t3, .ref t4]) (fun x hx => by
      rcases List.mem_cons.mp hx with rfl | hx
      · exact ⟨_, ((E3.at_ L2.hw).same E4.s).same (same_new (Same.refl _) hb4)⟩
      · rw [List.mem_singleton.mp hx]
        exact ⟨_, (E4.at_ L3.hw).same (same_new (Same.refl _) hb4)⟩) hp4
    clear M4 L4
    have L4 := N4
    clear N4
    refine pl_gn (pl_nx ?_)
    refine pl_seq (pl_drop (pl_bm (pl_var (v := .ref p4) (by exact rfl) ⟨Or.inl ⟨rfl, _, Or.inl (Or.inl L4.at_)⟩, pl_cons ?_⟩)))
    refine rd_in (k := .pt) (n := n) (z := z) (us := [.int n]) (zs := []) (vs := [.int n]) (by exact fun _ _ h => ⟨_, rfl, h⟩) (by exact fun _ _ h => h) (by rfl) (by rfl) (by exact fun _ => rfl) (by rfl) (by exact fun _ _ h => ⟨_, rfl, h⟩) L4.hw fun t5 H5 E5 => ?_
    have L5 := L4.app E5
    refine ⟨_, _, _, rfl, rfl, E5.s _ _ L4.at_, (by show (5 - 1 : Nat) < sizeLine; decide), ?_⟩
    refine pl_nx ?_
    refine pl_seq (pl_asg (pl_op (pl_var (by exact rfl) (pl_lst (pl_cons ?_)))))
    refine rd_in (k := .pl) (n := n) (z := z) (us := [.int n]) (zs := []) (vs := [.int n]) (by exact fun _ _ h => ⟨_, rfl, h⟩) (by exact fun _ _ h => h) (by rfl) (by rfl) (by exact fun _ => rfl) (by rfl) (by exact fun _ _ h => ⟨_, rfl, h⟩) L5.hw fun t6 H6 E6 => ?_
    have L6 := L5.fwd E6.s
    refine pl_cons ?_
    refine rd_in (k := .ob) (n := n) (z := z) (us := [.int n]) (zs := []) (vs := [.int n]) (by exact fun _ _ h => ⟨_, rfl, h⟩) (by exact fun _ _ h => h) (by rfl) (by rfl) (by exact fun _ => rfl) (by rfl) (by exact fun _ _ h => ⟨_, rfl, h⟩) L6.hw fun t7 H7 E7 => ?_
    have L7 := L6.fwd E7.s
    refine ⟨by show 2 ≤ sizeLine; decide, fun b7 hb7 => ?_⟩
    have M7 := L7.fwd (same_new (Same.refl _) hb7 (o := .lst [.ref t6, .ref t7]))
    refine ⟨_, b7, _, _, rfl, rfl, M7.at_, upd_same, (by show (7 : Nat) ≤ sizeLine; decide), fun p7 hp7 => ?_⟩
    have N7 := M7.cat (us := [.ref t6, .ref t7]) (fun x hx => by
      rcases List.mem_cons.mp hx with rfl | hx
      · exact ⟨_, ((E6.at_ L5.hw).same E7.s).same (same_new (Same.refl _) hb7)⟩
      · rw [List.mem_singleton.mp hx]
        exact ⟨_, (E7.at_ L6.hw).same (same_new (Same.refl _) hb7)⟩) hp7
    clear M7 L7
    have L7 := N7
    clear N7
    refine pl_gn (pl_nx ?_)
    refine pl_seq (pl_asg (pl_op (pl_var (by exact rfl) (pl_lst (pl_cons ?_)))))
    refine rd_in (k := .ft) (n := n) (z := z) (us := [.int n]) (zs := []) (vs := [.int n]) (by exact fun _ _ h => ⟨_, rfl, h⟩) (by exact fun _ _ h => h) (by rfl) (by rfl) (by exact fun _ => rfl) (by rfl) (by exact fun _ _ h => ⟨_, rfl, h⟩) L7.hw fun t8 H8 E8 => ?_
    have L8 := L7.fwd E8.s
    refine pl_cons ?_
    refine rd_in (k := .ct) (n := n) (z := z) (us := [.str z, .int n]) (zs := []) (vs := [.str z, .int n]) (by exact fun _ _ h => ⟨_, rfl, ⟨_, rfl, h⟩⟩) (by exact fun _ _ h => h) (by rfl) (by rfl) (by exact fun _ => rfl) (by rfl) (by exact fun _ _ h => ⟨_, rfl, ⟨_, rfl, h⟩⟩) L8.hw fun t9 H9 E9 => ?_
    have L9 := L8.fwd E9.s
    refine ⟨by show 2 ≤ sizeLine; decide, fun b9 hb9 => ?_⟩
    have M9 := L9.fwd (same_new (Same.refl _) hb9 (o := .lst [.ref t8, .ref t9]))
    refine ⟨_, b9, _, _, rfl, rfl, M9.at_, upd_same, (by show (9 : Nat) ≤ sizeLine; decide), fun p9 hp9 => ?_⟩
    have N9 := M9.cat (us := [.ref t8, .ref t9]) (fun x hx => by
      rcases List.mem_cons.mp hx with rfl | hx
      · exact ⟨_, ((E8.at_ L7.hw).same E9.s).same (same_new (Same.refl _) hb9)⟩
      · rw [List.mem_singleton.mp hx]
        exact ⟨_, (E9.at_ L8.hw).same (same_new (Same.refl _) hb9)⟩) hp9
    clear M9 L9
    have L9 := N9
    clear N9
    refine pl_gn (pl_nx ?_)
    refine pl_seq (pl_asg (pl_op (pl_var (by exact rfl) (pl_lst (pl_cons ?_)))))
    refine rd_in (k := .nn) (n := n) (z := z) (us := [.str z]) (zs := []) (vs := [.str z]) (by exact fun _ _ h => ⟨_, rfl, h⟩) (by exact fun _ _ h => h) (by rfl) (by rfl) (by exact fun _ => rfl) (by rfl) (by exact fun _ _ h => ⟨_, rfl, h⟩) L9.hw fun t10 H10 E10 => ?_
    have L10 := L9.fwd E10.s
    refine pl_cons ?_
    refine rd_in (k := .fl) (n := n) (z := z) (us := [.str z]) (zs := []) (vs := [.str z]) (by exact fun _ _ h => ⟨_, rfl, h⟩) (by exact fun _ _ h => h) (by rfl) (by rfl) (by exact fun _ => rfl) (by rfl) (by exact fun _ _ h => ⟨_, rfl, h⟩) L10.hw fun t11 H11 E11 => ?_
    have L11 := L10.fwd E11.s
    refine ⟨by show 2 ≤ sizeLine; decide, fun b11 hb11 => ?_⟩
    have M11 := L11.fwd (same_new (Same.refl _) hb11 (o := .lst [.ref t10, .ref t11]))
    refine ⟨_, b11, _, _, rfl, rfl, M11.at_, upd_same, (by show (11 : Nat) ≤ sizeLine; decide), fun p11 hp11 => ?_⟩
    have N11 := M11.cat (us := [.ref t10, .ref t11]) (fun x hx => by
      rcases List.mem_cons.mp hx with rfl | hx
      · exact ⟨_, ((E10.at_ L9.hw).same E11.s).same (same_new (Same.refl _) hb11)⟩
      · rw [List.mem_singleton.mp hx]
        exact ⟨_, (E11.at_ L10.hw).same (same_new (Same.refl _) hb11)⟩) hp11
    clear M11 L11
    have L11 := N11
    clear N11
    refine pl_gn (pl_nx ?_)
    refine pl_ret (pl_op (pl_var (by exact rfl) (pl_lst (pl_cons ?_))))
    refine rd_i0 (n := n) (z := z) (by exact fun _ _ h => h) L11.hw fun t12 H12 E12 => ?_
    have L12 := L11.fwd E12.s
    refine pl_cons ?_
    refine rd_in (k := .tx) (n := n) (z := z) (us := [.int n]) (zs := []) (vs := [.int n]) (by exact fun _ _ h => ⟨_, rfl, h⟩) (by exact fun _ _ h => h) (by rfl) (by rfl) (by exact fun _ => rfl) (by rfl) (by exact fun _ _ h => ⟨_, rfl, h⟩) L12.hw fun t13 H13 E13 => ?_
    have L13 := L12.fwd E13.s
    refine ⟨by show 2 ≤ sizeLine; decide, fun b13 hb13 => ?_⟩
    have M13 := L13.fwd (same_new (Same.refl _) hb13 (o := .lst [.ref t12, .ref t13]))
    refine ⟨_, b13, _, _, rfl, rfl, M13.at_, upd_same, (by show (13 : Nat) ≤ sizeLine; decide), fun p13 hp13 => ?_⟩
    have N13 := M13.cat (us := [.ref t12, .ref t13]) (fun x hx => by
      rcases List.mem_cons.mp hx with rfl | hx
      · exact ⟨_, ((E12.at_ L11.hw).same E13.s).same (same_new (Same.refl _) hb13)⟩
      · rw [List.mem_singleton.mp hx]
        exact ⟨_, (E13.at_ L12.hw).same (same_new (Same.refl _) hb13)⟩) hp13
    clear M13 L13
    have L13 := N13
    clear N13
    exact q _ _ _ L13 (by show (13 : Nat) ≤ 13; decide)
theorem scNam : FnScope ["_law_way", "_law_some_word", "_law_many", "_law_found"] ["_law_way", "_law_some_word", "_law_many"] (defScope sNam) := ⟨rfl, rfl, rfl, by decide +kernel, rfl, by decide +kernel, by decide +kernel⟩
theorem ok_Nam (T : Txt K mg a) (D : Df K a) (LD : LDf K l) : FnOk P w K mg base CX0 3 l.fNam LD.fdNam ["_law_way", "_law_some_word", "_law_many"] (spPla a) := by
  have Gvl := ok_Ivl (P := P) (w := w) (base := base) T D
  have Glg := ok_Ilg (P := P) (w := w) (base := base) T D
  have Gbt := ok_Ibt (P := P) (w := w) (base := base) T D
  have Gtn := ok_Itn (P := P) (w := w) (base := base) T D
  have Gpt := ok_Ipt (P := P) (w := w) (base := base) T D
  have Gpl := ok_Ipl (P := P) (w := w) (base := base) T D
  have Gob := ok_Iob (P := P) (w := w) (base := base) T D
  have Gft := ok_Ift (P := P) (w := w) (base := base) T D
  have Gct := ok_Ict (P := P) (w := w) (base := base) T D
  have Gnn := ok_Inn (P := P) (w := w) (base := base) T D
  have Gfl := ok_Ifl (P := P) (w := w) (base := base) T D
  have Gtx := ok_Itx (P := P) (w := w) (base := base) T D
  refine LD.FNam.ok scNam (fun vs H Q E h => ?_) (fun cdv A outer s H vs Q E hr h => ?_)
  · obtain ⟨w, xs, z, n, rfl, _⟩ := h
    rfl
  · obtain ⟨w, xs, z, n, rfl, hw, q⟩ := h
    refine ⟨_, (pss_cons (ps_set (i := 3) scNam.nd rfl (.inl rfl) (pe_lst (pa_cons (pe_tup (pa_cons (pe_oexK (T.ox .vl) (T.ini .vl (by decide)) (T.ti .vl (by decide)) Gvl hr D.kvl pass0 rfl (T.gc .vl) (pk_cons (pv 0) pk_nil)) (pa_cons pe_str (pa_cons (pe_lst (pa_cons (pv 0) pa_nil)) pa_nil)))) (pa_cons (pe_tup (pa_cons (pe_oexK (T.ox .lg) (T.ini .lg (by decide)) (T.ti .lg (by decide)) Glg hr D.klg pass0 rfl (T.gc .lg) (pk_cons (pv 1) pk_nil)) (pa_cons pe_str (pa_cons (pe_lst (pa_cons (pv 1) pa_nil)) pa_nil)))) pa_nil)))) (pss_cons (ps_expr (pe_bm PySem.F.plainAttrs_list PySem.F.slot_list_append PySem.F.type_list_append mt_append (pv 3) (pa_cons (pe_tup (pa_cons (pe_oexK (T.ox .bt) (T.ini .bt (by decide)) (T.ti .bt (by decide)) Gbt hr D.kbt pass0 rfl (T.gc .bt) (pk_cons (pv 2) pk_nil)) (pa_cons pe_str (pa_cons (pe_lst (pa_cons (pv 2) pa_nil)) pa_nil)))) pa_nil))) (pss_cons (ps_expr (pe_bm PySem.F.plainAttrs_list PySem.F.slot_list_append PySem.F.type_list_append mt_append (pv 3) (pa_cons (pe_tup (pa_cons (pe_oexK (T.ox .tn) (T.ini .tn (by decide)) (T.ti .tn (by decide)) Gtn hr D.ktn pass0 rfl (T.gc .tn) (pk_cons (pv 2) (pk_cons (pv 1) pk_nil))) (pa_cons pe_str (pa_cons (pe_lst (pa_cons (pv 1) (pa_cons (pv 2) pa_nil))) pa_nil)))) pa_nil))) (pss_cons (ps_set (i := 3) scNam.nd rfl (.inl rfl) (pe_op op_cat (pv 3) (pe_lst (pa_cons (pe_tup (pa_cons (pe_oexK (T.ox .pt) (T.ini .pt (by decide)) (T.ti .pt (by decide)) Gpt hr D.kpt pass0 rfl (T.gc .pt) (pk_cons (pv 2) pk_nil)) (pa_cons pe_str (pa_cons (pe_lst (pa_cons (pv 2) pa_nil)) pa_nil)))) (pa_cons (pe_tup (pa_cons (pe_oexK (T.ox .pl) (T.ini .pl (by decide)) (T.ti .pl (by decide)) Gpl hr D.kpl pass0 rfl (T.gc .pl) (pk_cons (pv 2) pk_nil)) (pa_cons pe_str (pa_cons (pe_lst (pa_cons (pv 2) pa_nil)) pa_nil)))) pa_nil))))) (pss_cons (ps_set (i := 3) scNam.nd rfl (.inl rfl) (pe_op op_cat (pv 3) (pe_lst (pa_cons (pe_tup (pa_cons (pe_oexK (T.ox .ob) (T.ini .ob (by decide)) (T.ti .ob (by decide)) Gob hr D.kob pass0 rfl (T.gc .ob) (pk_cons (pv 2) pk_nil)) (pa_cons pe_str (pa_cons (pe_lst (pa_cons (pv 2) pa_nil)) pa_nil)))) (pa_cons (pe_tup (pa_cons (pe_oexK (T.ox .ft) (T.ini .ft (by decide)) (T.ti .ft (by decide)) Gft hr D.kft pass0 rfl (T.gc .ft) (pk_cons (pv 2) pk_nil)) (pa_cons pe_str (pa_cons (pe_lst (pa_cons (pv 2) pa_nil)) pa_nil)))) pa_nil))))) (pss_cons (ps_expr (pe_bm PySem.F.plainAttrs_list PySem.F.slot_list_append PySem.F.type_list_append mt_append (pv 3) (pa_cons (pe_tup (pa_cons (pe_oexK (T.ox .ct) (T.ini .ct (by decide)) (T.ti .ct (by decide)) Gct hr D.kct pass0 rfl (T.gc .ct) (pk_cons (pv 2) (pk_cons (pv 1) pk_nil))) (pa_cons pe_str (pa_cons (pe_lst (pa_cons (pv 1) (pa_cons (pv 2) pa_nil))) pa_nil)))) pa_nil))) (pss_cons (ps_expr (pe_bm PySem.F.plainAttrs_list PySem.F.slot_list_append PySem.F.type_list_append mt_append (pv 3) (pa_cons (pe_tup (pa_cons (pe_oexK (T.ox .nn) (T.ini .nn (by decide)) (T.ti .nn (by decide)) Gnn hr D.knn pass0 rfl (T.gc .nn) (pk_cons (pv 1) pk_nil)) (pa_cons pe_str (pa_cons (pe_lst (pa_cons (pv 1) pa_nil)) pa_nil)))) pa_nil))) (pss_one (ps_ret (pe_op op_cat (pv 3) (pe_lst (pa_cons (pe_tup (pa_cons (pe_oexK (T.ox .fl) (T.ini .fl (by decide)) (T.ti .fl (by decide)) Gfl hr D.kfl pass0 rfl (T.gc .fl) (pk_cons (pv 1) pk_nil)) (pa_cons pe_str (pa_cons (pe_lst (pa_cons (pv 1) pa_nil)) pa_nil)))) (pa_cons (pe_tup (pa_cons (pe_oexK (T.ox .tx) (T.ini .tx (by decide)) (T.ti .tx (by decide)) Gtx hr D.ktx pass0 rfl (T.gc .tx) (pk_cons (pv 2) pk_nil)) (pa_cons pe_str (pa_cons (pe_lst (pa_cons (pv 2) pa_nil)) pa_nil)))) pa_nil))))))))))))), ?_⟩
    refine pl_seq (pl_asg (pl_lst (pl_cons ?_)))
    refine rd_iw (n := n) (z := z) (us := []) (zs := [.ref w]) (by exact fun _ _ h => h) (by exact fun _ _ h => ⟨_, rfl, h⟩) (by rfl) (by rfl) (by exact fun _ => rfl) (by exact fun _ _ h => ⟨_, rfl, h⟩) hw fun t1 H1 E1 => ?_
    refine pl_cons ?_
    refine rd_in (k := .lg) (n := n) (z := z) (us := []) (zs := [.str z]) (vs := [.str z]) (by exact fun _ _ h => h) (by exact fun _ _ h => ⟨_, rfl, h⟩) (by rfl) (by rfl) (by exact fun _ => rfl) (by rfl) (by exact fun _ _ h => ⟨_, rfl, h⟩) (E1.s _ _ hw) fun t2 H2 E2 => ?_
    refine ⟨by show 2 ≤ sizeLine; decide, fun p2 hp2 => ?_⟩
    have L2 : LSt a H _ w xs z n p2 [.ref t1, .ref t2] := LSt.mk' (E1.s.trans E2.s) (E2.s _ _ (E1.s _ _ hw)) hp2 fun x hx => by
      rcases List.mem_cons.mp hx with rfl | hx
      · exact ⟨_, (E1.at_ hw).same E2.s⟩
      · rw [List.mem_singleton.mp hx]
        exact ⟨_, E2.at_ (E1.s _ _ hw)⟩
    refine pl_gn (pl_nx ?_)
    refine pl_seq (pl_drop (pl_bm (pl_var (v := .ref p2) (by exact rfl) ⟨Or.inl ⟨rfl, _, Or.inl (Or.inl L2.at_)⟩, pl_cons ?_⟩)))
    refine rd_in (k := .bt) (n := n) (z := z) (us := []) (zs := [.int n]) (vs := [.int n]) (by exact fun _ _ h => h) (by exact fun _ _ h => ⟨_, rfl, h⟩) (by rfl) (by rfl) (by exact fun _ => rfl) (by rfl) (by exact fun _ _ h => ⟨_, rfl, h⟩) L2.hw fun t3 H3 E3 => ?_
    have L3 := L2.app E3
    refine ⟨_, _, _, rfl, rfl, E3.s _ _ L2.at_, (by show (3 - 1 : Nat) < sizeLine; decide), ?_⟩
    refine pl_nx ?_
    refine pl_seq (pl_drop (pl_bm (pl_var (v := .ref p2) (by exact rfl) ⟨Or.inl ⟨rfl, _, Or.inl (Or.inl L3.at_)⟩, pl_cons ?_⟩)))
    refine rd_in (k := .tn) (n := n) (z := z) (us := []) (zs := [.int n, .str z]) (vs := [.str z, .int n]) (by exact fun _ _ h => h) (by exact fun _ _ h => ⟨_, rfl, ⟨_, rfl, h⟩⟩) (by rfl) (by rfl) (by exact fun _ => rfl) (by rfl) (by exact fun _ _ h => ⟨_, rfl, ⟨_, rfl, h⟩⟩) L3.hw fun t4 H4 E4 => ?_
    have L4 := L3.app E4
    refine ⟨_, _, _, rfl, rfl, E4.s _ _ L3.at_, (by show (4 - 1 : Nat) < sizeLine; decide), ?_⟩
    refine pl_nx ?_
    refine pl_seq (pl_asg (pl_op (pl_var (by exact rfl) (pl_lst (pl_cons ?_)))))
    refine rd_in (k := .pt) (n := n) (z := z) (us := []) (zs := [.int n]) (vs := [.int n]) (by exact fun _ _ h => h) (by exact fun _ _ h => ⟨_, rfl, h⟩) (by rfl) (by rfl) (by exact fun _ => rfl) (by rfl) (by exact fun _ _ h => ⟨_, rfl, h⟩) L4.hw fun t5 H5 E5 => ?_
    have L5 := L4.fwd E5.s
    refine pl_cons ?_
    refine rd_in (k := .pl) (n := n) (z := z) (us := []) (zs := [.int n]) (vs := [.int n]) (by exact fun _ _ h => h) (by exact fun _ _ h => ⟨_, rfl, h⟩) (by rfl) (by rfl) (by exact fun _ => rfl) (by rfl) (by exact fun _ _ h => ⟨_, rfl, h⟩) L5.hw fun t6 H6 E6 => ?_
    have L6 := L5.fwd E6.s
    refine ⟨by show 2 ≤ sizeLine; decide, fun b6 hb6 => ?_⟩
    have M6 := L6.fwd (same_new (Same.refl _) hb6 (o := .lst [.ref t5, .ref t6]))
    refine ⟨_, b6, _, _, rfl, rfl, M6.at_, upd_same, (by show (6 : Nat) ≤ sizeLine; decide), fun p6 hp6 => ?_⟩
    have N6 := M6.cat (us := [.ref t5, .ref t6]) (fun x hx => by
      rcases List.mem_cons.mp hx with rfl | hx
      · exact ⟨_, ((E5.at_ L4.hw).same E6.s).same (same_new (Same.refl _) hb6)⟩
      · rw [List.mem_singleton.mp hx]
        exact ⟨_, (E6.at_ L5.hw).same (same_new (Same.refl _) hb6)⟩) hp6
    clear M6 L6
    have L6 := N6
    clear N6
    refine pl_gn (pl_nx ?_)
    refine pl_seq (pl_asg (pl_op (pl_var (by exact rfl) (pl_lst (pl_cons ?_)))))
    refine rd_in (k := .ob) (n := n) (z := z) (us := []) (zs := [.int n]) (vs := [.int n]) (by exact fun _ _ h => h) (by exact fun _ _ h => ⟨_, rfl, h⟩) (by rfl) (by rfl) (by exact fun _ => rfl) (by rfl) (by exact fun _ _ h => ⟨_, rfl, h⟩) L6.hw fun t7 H7 E7 => ?_
    have L7 := L6.fwd E7.s
    refine pl_cons ?_
    refine rd_in (k := .ft) (n := n) (z := z) (us := []) (zs := [.int n]) (vs := [.int n]) (by exact fun _ _ h => h) (by exact fun _ _ h => ⟨_, rfl, h⟩) (by rfl) (by rfl) (by exact fun _ => rfl) (by rfl) (by exact fun _ _ h => ⟨_, rfl, h⟩) L7.hw fun t8 H8 E8 => ?_
    have L8 := L7.fwd E8.s
    refine ⟨by show 2 ≤ sizeLine; decide, fun b8 hb8 => ?_⟩
    have M8 := L8.fwd (same_new (Same.refl _) hb8 (o := .lst [.ref t7, .ref t8]))
    refine ⟨_, b8, _, _, rfl, rfl, M8.at_, upd_same, (by show (8 : Nat) ≤ sizeLine; decide), fun p8 hp8 => ?_⟩
    have N8 := M8.cat (us := [.ref t7, .ref t8]) (fun x hx => by
      rcases List.mem_cons.mp hx with rfl | hx
      · exact ⟨_, ((E7.at_ L6.hw).same E8.s).same (same_new (Same.refl _) hb8)⟩
      · rw [List.mem_singleton.mp hx]
        exact ⟨_, (E8.at_ L7.hw).same (same_new (Same.refl _) hb8)⟩) hp8
    clear M8 L8
    have L8 := N8
    clear N8
    refine pl_gn (pl_nx ?_)
    refine pl_seq (pl_drop (pl_bm (pl_var (v := .ref p8) (by exact rfl) ⟨Or.inl ⟨rfl, _, Or.inl (Or.inl L8.at_)⟩, pl_cons ?_⟩)))
    refine rd_in (k := .ct) (n := n) (z := z) (us := []) (zs := [.int n, .str z]) (vs := [.str z, .int n]) (by exact fun _ _ h => h) (by exact fun _ _ h => ⟨_, rfl, ⟨_, rfl, h⟩⟩) (by rfl) (by rfl) (by exact fun _ => rfl) (by rfl) (by exact fun _ _ h => ⟨_, rfl, ⟨_, rfl, h⟩⟩) L8.hw fun t9 H9 E9 => ?_
    have L9 := L8.app E9
    refine ⟨_, _, _, rfl, rfl, E9.s _ _ L8.at_, (by show (9 - 1 : Nat) < sizeLine; decide), ?_⟩
    refine pl_nx ?_
    refine pl_seq (pl_drop (pl_bm (pl_var (v := .ref p8) (by exact rfl) ⟨Or.inl ⟨rfl, _, Or.inl (Or.inl L9.at_)⟩, pl_cons ?_⟩)))
    refine rd_in (k := .nn) (n := n) (z := z) (us := []) (zs := [.str z]) (vs := [.str z]) (by exact fun _ _ h => h) (by exact fun _ _ h => ⟨_, rfl, h⟩) (by rfl) (by rfl) (by exact fun _ => rfl) (by rfl) (by exact fun _ _ h => ⟨_, rfl, h⟩) L9.hw fun t10 H10 E10 => ?_
    have L10 := L9.app E10
    refine ⟨_, _, _, rfl, rfl, E10.s _ _ L9.at_, (by show (10 - 1 : Nat) < sizeLine; decide), ?_⟩
    refine pl_nx ?_
    refine pl_ret (pl_op (pl_var (by exact rfl) (pl_lst (pl_cons ?_))))
    refine rd_in (k := .fl) (n := n) (z := z) (us := []) (zs := [.str z]) (vs := [.str z]) (by exact fun _ _ h => h) (by exact fun _ _ h => ⟨_, rfl, h⟩) (by rfl) (by rfl) (by exact fun _ => rfl) (by rfl) (by exact fun _ _ h => ⟨_, rfl, h⟩) L10.hw fun t11 H11 E11 => ?_
    have L11 := L10.fwd E11.s
    refine pl_cons ?_
    refine rd_in (k := .tx) (n := n) (z := z) (us := []) (zs := [.int n]) (vs := [.int n]) (by exact fun _ _ h => h) (by exact fun _ _ h => ⟨_, rfl, h⟩) (by rfl) (by rfl) (by exact fun _ => rfl) (by rfl) (by exact fun _ _ h => ⟨_, rfl, h⟩) L11.hw fun t12 H12 E12 => ?_
    have L12 := L11.fwd E12.s
    refine ⟨by show 2 ≤ sizeLine; decide, fun b12 hb12 => ?_⟩
    have M12 := L12.fwd (same_new (Same.refl _) hb12 (o := .lst [.ref t11, .ref t12]))
    refine ⟨_, b12, _, _, rfl, rfl, M12.at_, upd_same, (by show (12 : Nat) ≤ sizeLine; decide), fun p12 hp12 => ?_⟩
    have N12 := M12.cat (us := [.ref t11, .ref t12]) (fun x hx => by
      rcases List.mem_cons.mp hx with rfl | hx
      · exact ⟨_, ((E11.at_ L10.hw).same E12.s).same (same_new (Same.refl _) hb12)⟩
      · rw [List.mem_singleton.mp hx]
        exact ⟨_, (E12.at_ L11.hw).same (same_new (Same.refl _) hb12)⟩) hp12
    clear M12 L12
    have L12 := N12
    clear N12
    exact q _ _ _ L12 (by show (12 : Nat) ≤ 13; decide)
end
end G58

set_option Elab.async false
set_option linter.all false
set_option maxRecDepth 100000
set_option maxHeartbeats 1000000
/-! k05: what is shown, plain. -/
namespace G58
open PySem PySem.Spec PyProof.Rows L2
structure Good (d : PyData) : Prop where
  sh : d.showable = true
  nd : d.hasDict = false
  dp : d.depth ≤ 1
  sl : d.leavesShort 40 = true
  wt : d.weight ≤ 200
def waysP : List (List V × List PyData) := [([], []), ([.int 0], [.int 0]), ([.str "a", .int 3], [.str "a", .int 3]), ([.str "", .str "", .int (10 ^ 20)], [.str "", .str "", .int (10 ^ 20)]),
  ([.int 2, .str "b", .int 2, .str "b", .int 2, .str "b"], [.int 2, .str "b", .int 2, .str "b", .int 2, .str "b"])]
def wordsP : List Str := ["depth", "parts", "ring", "size", "nests", "a1", ""]
theorem ways_good : ∀ q ∈ waysP, Good (.tuple q.2) := by
  intro q hq
  unfold waysP at hq
  simp only [List.mem_cons, List.not_mem_nil, or_false] at hq
  rcases hq with rfl | rfl | rfl | rfl | rfl <;> exact ⟨by decide +kernel, by decide +kernel, by decide +kernel, by decide +kernel, by decide +kernel⟩
theorem ways_dp {K : PySem.W.Frag} {H : Hp} : ∀ q ∈ waysP, DpAll K H q.1 q.2 := by
  intro q hq
  unfold waysP at hq
  simp only [List.mem_cons, List.not_mem_nil, or_false] at hq
  rcases hq with rfl | rfl | rfl | rfl | rfl
  · exact .nil
  · exact .cons (.int _) .nil
  · exact .cons (.str _) (.cons (.int _) .nil)
  · exact .cons (.str _) (.cons (.str _) (.cons (.int _) .nil))
  · exact .cons (.int _) (.cons (.str _) (.cons (.int _) (.cons (.str _) (.cons (.int _) (.cons (.str _) .nil)))))
theorem words_good : ∀ z ∈ wordsP, Good (.str z) := by
  intro q hq
  unfold wordsP at hq
  simp only [List.mem_cons, List.not_mem_nil, or_false] at hq
  rcases hq with rfl | rfl | rfl | rfl | rfl | rfl | rfl <;> exact ⟨by decide +kernel, by decide +kernel, by decide +kernel, by decide +kernel, by decide +kernel⟩
theorem int_good {n : Int} (h0 : 0 ≤ n) (h1 : n < 10 ^ 9) : Good (.int n) := by
  have h2 : n.natAbs < 2 ^ 30 := by
    have : n.natAbs < 10 ^ 9 := by omega
    omega
  have h3 : n.natAbs.log2 < 30 := by
    by_cases z : n.natAbs = 0
    · rw [z]; decide
    · exact (Nat.log2_lt z).mpr h2
  refine ⟨?_, by simp only [PyData.hasDict], by simp only [PyData.depth]; omega, ?_, ?_⟩
  · simp only [PyData.showable, decide_eq_true_eq]
    omega
  · simp only [PyData.leavesShort, decide_eq_true_eq]
    exact Nat.le_trans (PyData.shown_int_le (by omega)) (by decide)
  · simp only [PyData.weight]
    split
    · omega
    · omega
theorem big_good : Good (.int (10 ^ 30)) := ⟨by decide +kernel, by decide +kernel, by decide +kernel, by decide +kernel, by decide +kernel⟩
theorem dats_good {d : PyData} {z : Str} {n : Int} (gd : Good d) (gz : Good (.str z)) (gn : Good (.int n)) (k : Kd) :
    (PyData.list (k.dats d z n)).showable = true ∧ (PyData.list (k.dats d z n)).hasDict = false ∧ (PyData.list (k.dats d z n)).depth ≤ 60 ∧ (PyData.list (k.dats d z n)).shown.length ≤ sizeLine := by
  have h1 := gd.sh
  have h2 := gz.sh
  have h3 := gn.sh
  have n1 := gd.nd
  have n2 := gz.nd
  have n3 := gn.nd
  have d1 := gd.dp
  have d2 := gz.dp
  have d3 := gn.dp
  have l1 := gd.sl
  have l2 := gz.sl
  have l3 := gn.sl
  have w1 := gd.wt
  have w2 := gz.wt
  have w3 := gn.wt
  have wl : (PyData.list (k.dats d z n)).weight ≤ 402 := by
    cases k <;> simp only [Kd.dats, PyData.weight, PyData.weightAll] at * <;> omega
  have sl : (PyData.list (k.dats d z n)).leavesShort 40 = true := by
    cases k <;> simp only [Kd.dats, PyData.leavesShort, PyData.leavesShortAll, Bool.and_true] at * <;> simp [*]
  refine ⟨?_, ?_, ?_, ?_⟩
  · cases k <;> simp only [Kd.dats, PyData.showable, PyData.showableAll, Bool.and_true] at * <;> simp [*]
  · cases k <;> simp only [Kd.dats, PyData.hasDict, PyData.hasDictAll, Bool.or_false] at * <;> simp [*]
  · cases k <;> simp only [Kd.dats, PyData.depth, PyData.depthAll] at * <;> omega
  · refine Nat.le_trans (PyData.shown_le 40 (by decide) _ sl) ?_
    refine Nat.le_trans (Nat.add_le_add_right (Nat.mul_le_mul_left 42 wl) 40) ?_
    decide
theorem dats_dp {K : PySem.W.Frag} {H : Hp} {w : Addr} {xs : List V} {ds : List PyData} {z : Str} {n : Int} (hw : H w = some (.tup xs)) (hd : DpAll K H xs ds) (k : Kd) : DpAll K H (k.vals (.ref w) z n) (k.dats (.tuple ds) z n) := by
  cases k <;> first | exact .nil | exact .cons (.tup (.inl (.inl hw)) hd) .nil | exact .cons (.int _) .nil | exact .cons (.str _) .nil | exact .cons (.str _) (.cons (.int _) .nil)
theorem eqv_nm (k : Kd) : PyData.eqv (.list [.str k.nm]) (.list [.str k.nm]) = true := by cases k <;> decide +kernel
theorem shaped_nm (k : Kd) : SeqAt.shaped (.list [.str k.nm]) = true := by cases k <;> decide +kernel
theorem told_none (k : Kd) (w : V) (z : Str) (n : Int) : (k.flds w z n).lookup ("told" : Str) = none := by cases k <;> rfl
end G58

set_option Elab.async false
set_option linter.all false
set_option pp.maxSteps 1500
set_option maxRecDepth 100000
set_option maxHeartbeats 1000000
/-! k05: the fields and the classes of an error. -/
namespace G58
open PySem PySem.Spec PyProof.Rows L2
theorem if_t {b : Bool} {A B : Prop} (hb : b = true) (h : A) : if b = true then A else B := by
  rw [if_pos hb]
  exact h
theorem if_f {b : Bool} {A B : Prop} (hb : b = false) (h : B) : if b = true then A else B := by
  rw [if_neg (by rw [hb]; exact Bool.false_ne_true)]
  exact h
def spFld (a : Ad) : Sp := fun vs H Q _ => ∃ (e : Addr) (k : Kd) (w : V) (z : Str) (n : Int), vs = [.ref e, .str k.nm] ∧ ErrO H e (a.c k) (k.flds w z n) ∧ ∀ l H', Same H H' → H' l = some (.lst (k.vals w z n)) → Q (.ref l) H'
section
variable {P : Program} {w : World} {K : PySem.W.Frag} {mg : Str → Option Value} {base : Heap} {a : Ad} {l : Ld}
theorem scFld : FnScope ["_law_e", "_law_called"] ["_law_e", "_law_called"] (defScope sFld) := ⟨rfl, rfl, rfl, by decide +kernel, rfl, by decide +kernel, by decide +kernel⟩
theorem ok_Fld (T : Txt K mg a) (LD : LDf K l) : FnOk P w K mg base CX0 1 l.fFld LD.fdFld ["_law_e", "_law_called"] (spFld a) := by
  refine LD.FFld.ok scFld (fun vs H Q E h => ?_) (fun cdv A outer s H vs Q E hr h => ?_)
  · obtain ⟨e, k, w, z, n, rfl, _⟩ := h
    rfl
  · obtain ⟨e, k, w, z, n, rfl, er, q⟩ := h
    refine ⟨_, (pss_cons (ps_if (pt_cmpR op_eq (pv 1) pe_str (nomark _)) (pss_one (ps_ret (pe_lst (pa_cons (pe_xo (pv 0) rfl) pa_nil)))) pss_nil) (pss_cons (ps_if (pt_cmpR op_eq (pv 1) pe_str (nomark _)) (pss_one (ps_ret (pe_lst (pa_cons (pe_xo (pv 0) rfl) pa_nil)))) pss_nil) (pss_cons (ps_if (pt_cmpR op_in_seq (pv 1) (pe_tup (pa_cons pe_str (pa_cons pe_str (pa_cons pe_str pa_nil)))) rfl) (pss_one (ps_ret (pe_lst (pa_cons (pe_xo (pv 0) rfl) pa_nil)))) pss_nil) (pss_cons (ps_if (pt_cmpR op_eq (pv 1) pe_str (nomark _)) (pss_one (ps_ret (pe_lst (pa_cons (pe_xo (pv 0) rfl) (pa_cons (pe_xo (pv 0) rfl) pa_nil))))) pss_nil) (pss_cons (ps_if (pt_cmpR op_in_seq (pv 1) (pe_tup (pa_cons pe_str (pa_cons pe_str pa_nil))) rfl) (pss_one (ps_ret (pe_lst (pa_cons (pe_xo (pv 0) rfl) pa_nil)))) pss_nil) (pss_cons (ps_if (pt_cmpR op_eq (pv 1) pe_str (nomark _)) (pss_one (ps_ret (pe_lst (pa_cons (pe_xo (pv 0) rfl) pa_nil)))) pss_nil) (pss_cons (ps_if (pt_cmpR op_eq (pv 1) pe_str (nomark _)) (pss_one (ps_ret (pe_lst (pa_cons (pe_xo (pv 0) rfl) (pa_cons (pe_xo (pv 0) rfl) pa_nil))))) pss_nil) (pss_one (ps_ret (pe_ifExp (pt_cmpR op_in_seq (pv 1) (pe_tup (pa_cons pe_str (pa_cons pe_str pa_nil))) rfl) (pe_lst (pa_cons (pe_xo (pv 0) rfl) pa_nil)) (pe_lst pa_nil))))))))))), ?_⟩
    have s0 := Same.refl H
    cases k
    case vl =>
      refine ⟨_, rfl, rfl, _, rfl, ?_⟩
      refine if_t (by decide +kernel) ?_
      exact ⟨_, rfl, e, _, _, _, rfl, T.xf .vl, T.no .vl _ (by decide), er.same s0, rfl, (by show 1 ≤ sizeLine; decide), fun l hl => q l _ (same_new s0 hl) upd_same⟩
    case lg =>
      refine ⟨_, rfl, rfl, _, rfl, ?_⟩
      refine if_f (by decide +kernel) ?_
      refine ⟨_, rfl, rfl, _, rfl, ?_⟩
      refine if_t (by decide +kernel) ?_
      exact ⟨_, rfl, e, _, _, _, rfl, T.xf .lg, T.no .lg _ (by decide), er.same s0, rfl, (by show 1 ≤ sizeLine; decide), fun l hl => q l _ (same_new s0 hl) upd_same⟩
    case bt =>
      refine ⟨_, rfl, rfl, _, rfl, ?_⟩
      refine if_f (by decide +kernel) ?_
      refine ⟨_, rfl, rfl, _, rfl, ?_⟩
      refine if_f (by decide +kernel) ?_
      refine ⟨_, rfl, (by show 3 ≤ sizeLine; decide), fun p3 hp3 => ⟨p3, _, rfl, .inr (.inl (.inl upd_same)), rfl, rfl, _, rfl, ?_⟩⟩
      replace s0 := same_new s0 hp3 (o := .tup [.str (Kd.nm .bt), .str (Kd.nm .pl), .str (Kd.nm .tx)])
      refine if_t (by decide +kernel) ?_
      exact ⟨_, rfl, e, _, _, _, rfl, T.xf .bt, T.no .bt _ (by decide), er.same s0, rfl, (by show 1 ≤ sizeLine; decide), fun l hl => q l _ (same_new s0 hl) upd_same⟩
    case tn =>
      refine ⟨_, rfl, rfl, _, rfl, ?_⟩
      refine if_f (by decide +kernel) ?_
      refine ⟨_, rfl, rfl, _, rfl, ?_⟩
      refine if_f (by decide +kernel) ?_
      refine ⟨_, rfl, (by show 3 ≤ sizeLine; decide), fun p3 hp3 => ⟨p3, _, rfl, .inr (.inl (.inl upd_same)), rfl, rfl, _, rfl, ?_⟩⟩
      replace s0 := same_new s0 hp3 (o := .tup [.str (Kd.nm .bt), .str (Kd.nm .pl), .str (Kd.nm .tx)])
      refine if_f (by decide +kernel) ?_
      refine ⟨_, rfl, rfl, _, rfl, ?_⟩
      refine if_t (by decide +kernel) ?_
      exact ⟨_, rfl, e, _, _, _, rfl, T.xf .tn, T.no .tn _ (by decide), er.same s0, rfl, _, rfl, e, _, _, _, rfl, T.xf .tn, T.no .tn _ (by decide), er.same s0, rfl, (by show 2 ≤ sizeLine; decide), fun l hl => q l _ (same_new s0 hl) upd_same⟩
    case pt =>
      refine ⟨_, rfl, rfl, _, rfl, ?_⟩
      refine if_f (by decide +kernel) ?_
      refine ⟨_, rfl, rfl, _, rfl, ?_⟩
      refine if_f (by decide +kernel) ?_
      refine ⟨_, rfl, (by show 3 ≤ sizeLine; decide), fun p3 hp3 => ⟨p3, _, rfl, .inr (.inl (.inl upd_same)), rfl, rfl, _, rfl, ?_⟩⟩
      replace s0 := same_new s0 hp3 (o := .tup [.str (Kd.nm .bt), .str (Kd.nm .pl), .str (Kd.nm .tx)])
      refine if_f (by decide +kernel) ?_
      refine ⟨_, rfl, rfl, _, rfl, ?_⟩
      refine if_f (by decide +kernel) ?_
      refine ⟨_, rfl, (by show 2 ≤ sizeLine; decide), fun p5 hp5 => ⟨p5, _, rfl, .inr (.inl (.inl upd_same)), rfl, rfl, _, rfl, ?_⟩⟩
      replace s0 := same_new s0 hp5 (o := .tup [.str (Kd.nm .pt), .str (Kd.nm .ft)])
      refine if_t (by decide +kernel) ?_
      exact ⟨_, rfl, e, _, _, _, rfl, T.xf .pt, T.no .pt _ (by decide), er.same s0, rfl, (by show 1 ≤ sizeLine; decide), fun l hl => q l _ (same_new s0 hl) upd_same⟩
    case pl =>
      refine ⟨_, rfl, rfl, _, rfl, ?_⟩
      refine if_f (by decide +kernel) ?_
      refine ⟨_, rfl, rfl, _, rfl, ?_⟩
      refine if_f (by decide +kernel) ?_
      refine ⟨_, rfl, (by show 3 ≤ sizeLine; decide), fun p3 hp3 => ⟨p3, _, rfl, .inr (.inl (.inl upd_same)), rfl, rfl, _, rfl, ?_⟩⟩
      replace s0 := same_new s0 hp3 (o := .tup [.str (Kd.nm .bt), .str (Kd.nm .pl), .str (Kd.nm .tx)])
      refine if_t (by decide +kernel) ?_
      exact ⟨_, rfl, e, _, _, _, rfl, T.xf .pl, T.no .pl _ (by decide), er.same s0, rfl, (by show 1 ≤ sizeLine; decide), fun l hl => q l _ (same_new s0 hl) upd_same⟩
    case ob =>
      refine ⟨_, rfl, rfl, _, rfl, ?_⟩
      refine if_f (by decide +kernel) ?_
      refine ⟨_, rfl, rfl, _, rfl, ?_⟩
      refine if_f (by decide +kernel) ?_
      refine ⟨_, rfl, (by show 3 ≤ sizeLine; decide), fun p3 hp3 => ⟨p3, _, rfl, .inr (.inl (.inl upd_same)), rfl, rfl, _, rfl, ?_⟩⟩
      replace s0 := same_new s0 hp3 (o := .tup [.str (Kd.nm .bt), .str (Kd.nm .pl), .str (Kd.nm .tx)])
      refine if_f (by decide +kernel) ?_
      refine ⟨_, rfl, rfl, _, rfl, ?_⟩
      refine if_f (by decide +kernel) ?_
      refine ⟨_, rfl, (by show 2 ≤ sizeLine; decide), fun p5 hp5 => ⟨p5, _, rfl, .inr (.inl (.inl upd_same)), rfl, rfl, _, rfl, ?_⟩⟩
      replace s0 := same_new s0 hp5 (o := .tup [.str (Kd.nm .pt), .str (Kd.nm .ft)])
      refine if_f (by decide +kernel) ?_
      refine ⟨_, rfl, rfl, _, rfl, ?_⟩
      refine if_t (by decide +kernel) ?_
      exact ⟨_, rfl, e, _, _, _, rfl, T.xf .ob, T.no .ob _ (by decide), er.same s0, rfl, (by show 1 ≤ sizeLine; decide), fun l hl => q l _ (same_new s0 hl) upd_same⟩
    case ft =>
      refine ⟨_, rfl, rfl, _, rfl, ?_⟩
      refine if_f (by decide +kernel) ?_
      refine ⟨_, rfl, rfl, _, rfl, ?_⟩
      refine if_f (by decide +kernel) ?_
      refine ⟨_, rfl, (by show 3 ≤ sizeLine; decide), fun p3 hp3 => ⟨p3, _, rfl, .inr (.inl (.inl upd_same)), rfl, rfl, _, rfl, ?_⟩⟩
      replace s0 := same_new s0 hp3 (o := .tup [.str (Kd.nm .bt), .str (Kd.nm .pl), .str (Kd.nm .tx)])
      refine if_f (by decide +kernel) ?_
      refine ⟨_, rfl, rfl, _, rfl, ?_⟩
      refine if_f (by decide +kernel) ?_
      refine ⟨_, rfl, (by show 2 ≤ sizeLine; decide), fun p5 hp5 => ⟨p5, _, rfl, .inr (.inl (.inl upd_same)), rfl, rfl, _, rfl, ?_⟩⟩
      replace s0 := same_new s0 hp5 (o := .tup [.str (Kd.nm .pt), .str (Kd.nm .ft)])
      refine if_t (by decide +kernel) ?_
      exact ⟨_, rfl, e, _, _, _, rfl, T.xf .ft, T.no .ft _ (by decide), er.same s0, rfl, (by show 1 ≤ sizeLine; decide), fun l hl => q l _ (same_new s0 hl) upd_same⟩
    case ct =>
      refine ⟨_, rfl, rfl, _, rfl, ?_⟩
      refine if_f (by decide +kernel) ?_
      refine ⟨_, rfl, rfl, _, rfl, ?_⟩
      refine if_f (by decide +kernel) ?_
      refine ⟨_, rfl, (by show 3 ≤ sizeLine; decide), fun p3 hp3 => ⟨p3, _, rfl, .inr (.inl (.inl upd_same)), rfl, rfl, _, rfl, ?_⟩⟩
      replace s0 := same_new s0 hp3 (o := .tup [.str (Kd.nm .bt), .str (Kd.nm .pl), .str (Kd.nm .tx)])
      refine if_f (by decide +kernel) ?_
      refine ⟨_, rfl, rfl, _, rfl, ?_⟩
      refine if_f (by decide +kernel) ?_
      refine ⟨_, rfl, (by show 2 ≤ sizeLine; decide), fun p5 hp5 => ⟨p5, _, rfl, .inr (.inl (.inl upd_same)), rfl, rfl, _, rfl, ?_⟩⟩
      replace s0 := same_new s0 hp5 (o := .tup [.str (Kd.nm .pt), .str (Kd.nm .ft)])
      refine if_f (by decide +kernel) ?_
      refine ⟨_, rfl, rfl, _, rfl, ?_⟩
      refine if_f (by decide +kernel) ?_
      refine ⟨_, rfl, rfl, _, rfl, ?_⟩
      refine if_t (by decide +kernel) ?_
      exact ⟨_, rfl, e, _, _, _, rfl, T.xf .ct, T.no .ct _ (by decide), er.same s0, rfl, _, rfl, e, _, _, _, rfl, T.xf .ct, T.no .ct _ (by decide), er.same s0, rfl, (by show 2 ≤ sizeLine; decide), fun l hl => q l _ (same_new s0 hl) upd_same⟩
    case nn =>
      refine ⟨_, rfl, rfl, _, rfl, ?_⟩
      refine if_f (by decide +kernel) ?_
      refine ⟨_, rfl, rfl, _, rfl, ?_⟩
      refine if_f (by decide +kernel) ?_
      refine ⟨_, rfl, (by show 3 ≤ sizeLine; decide), fun p3 hp3 => ⟨p3, _, rfl, .inr (.inl (.inl upd_same)), rfl, rfl, _, rfl, ?_⟩⟩
      replace s0 := same_new s0 hp3 (o := .tup [.str (Kd.nm .bt), .str (Kd.nm .pl), .str (Kd.nm .tx)])
      refine if_f (by decide +kernel) ?_
      refine ⟨_, rfl, rfl, _, rfl, ?_⟩
      refine if_f (by decide +kernel) ?_
      refine ⟨_, rfl, (by show 2 ≤ sizeLine; decide), fun p5 hp5 => ⟨p5, _, rfl, .inr (.inl (.inl upd_same)), rfl, rfl, _, rfl, ?_⟩⟩
      replace s0 := same_new s0 hp5 (o := .tup [.str (Kd.nm .pt), .str (Kd.nm .ft)])
      refine if_f (by decide +kernel) ?_
      refine ⟨_, rfl, rfl, _, rfl, ?_⟩
      refine if_f (by decide +kernel) ?_
      refine ⟨_, rfl, rfl, _, rfl, ?_⟩
      refine if_f (by decide +kernel) ?_
      refine ⟨_, rfl, (by show 2 ≤ sizeLine; decide), fun p8 hp8 => ⟨p8, _, rfl, .inr (.inl (.inl upd_same)), rfl, rfl, _, rfl, ?_⟩⟩
      replace s0 := same_new s0 hp8 (o := .tup [.str (Kd.nm .nn), .str (Kd.nm .fl)])
      refine if_t (by decide +kernel) ?_
      exact ⟨_, rfl, e, _, _, _, rfl, T.xf .nn, T.no .nn _ (by decide), er.same s0, rfl, (by show 1 ≤ sizeLine; decide), fun l hl => q l _ (same_new s0 hl) upd_same⟩
    case fl =>
      refine ⟨_, rfl, rfl, _, rfl, ?_⟩
      refine if_f (by decide +kernel) ?_
      refine ⟨_, rfl, rfl, _, rfl, ?_⟩
      refine if_f (by decide +kernel) ?_
      refine ⟨_, rfl, (by show 3 ≤ sizeLine; decide), fun p3 hp3 => ⟨p3, _, rfl, .inr (.inl (.inl upd_same)), rfl, rfl, _, rfl, ?_⟩⟩
      replace s0 := same_new s0 hp3 (o := .tup [.str (Kd.nm .bt), .str (Kd.nm .pl), .str (Kd.nm .tx)])
      refine if_f (by decide +kernel) ?_
      refine ⟨_, rfl, rfl, _, rfl, ?_⟩
      refine if_f (by decide +kernel) ?_
      refine ⟨_, rfl, (by show 2 ≤ sizeLine; decide), fun p5 hp5 => ⟨p5, _, rfl, .inr (.inl (.inl upd_same)), rfl, rfl, _, rfl, ?_⟩⟩
      replace s0 := same_new s0 hp5 (o := .tup [.str (Kd.nm .pt), .str (Kd.nm .ft)])
      refine if_f (by decide +kernel) ?_
      refine ⟨_, rfl, rfl, _, rfl, ?_⟩
      refine if_f (by decide +kernel) ?_
      refine ⟨_, rfl, rfl, _, rfl, ?_⟩
      refine if_f (by decide +kernel) ?_
      refine ⟨_, rfl, (by show 2 ≤ sizeLine; decide), fun p8 hp8 => ⟨p8, _, rfl, .inr (.inl (.inl upd_same)), rfl, rfl, _, rfl, ?_⟩⟩
      replace s0 := same_new s0 hp8 (o := .tup [.str (Kd.nm .nn), .str (Kd.nm .fl)])
      refine if_t (by decide +kernel) ?_
      exact ⟨_, rfl, e, _, _, _, rfl, T.xf .fl, T.no .fl _ (by decide), er.same s0, rfl, (by show 1 ≤ sizeLine; decide), fun l hl => q l _ (same_new s0 hl) upd_same⟩
    case bk =>
      refine ⟨_, rfl, rfl, _, rfl, ?_⟩
      refine if_f (by decide +kernel) ?_
      refine ⟨_, rfl, rfl, _, rfl, ?_⟩
      refine if_f (by decide +kernel) ?_
      refine ⟨_, rfl, (by show 3 ≤ sizeLine; decide), fun p3 hp3 => ⟨p3, _, rfl, .inr (.inl (.inl upd_same)), rfl, rfl, _, rfl, ?_⟩⟩
      replace s0 := same_new s0 hp3 (o := .tup [.str (Kd.nm .bt), .str (Kd.nm .pl), .str (Kd.nm .tx)])
      refine if_f (by decide +kernel) ?_
      refine ⟨_, rfl, rfl, _, rfl, ?_⟩
      refine if_f (by decide +kernel) ?_
      refine ⟨_, rfl, (by show 2 ≤ sizeLine; decide), fun p5 hp5 => ⟨p5, _, rfl, .inr (.inl (.inl upd_same)), rfl, rfl, _, rfl, ?_⟩⟩
      replace s0 := same_new s0 hp5 (o := .tup [.str (Kd.nm .pt), .str (Kd.nm .ft)])
      refine if_f (by decide +kernel) ?_
      refine ⟨_, rfl, rfl, _, rfl, ?_⟩
      refine if_f (by decide +kernel) ?_
      refine ⟨_, rfl, rfl, _, rfl, ?_⟩
      refine if_f (by decide +kernel) ?_
      refine ⟨_, rfl, (by show 2 ≤ sizeLine; decide), fun p8 hp8 => ⟨p8, _, rfl, .inr (.inl (.inl upd_same)), rfl, rfl, _, rfl, ?_⟩⟩
      replace s0 := same_new s0 hp8 (o := .tup [.str (Kd.nm .nn), .str (Kd.nm .fl)])
      refine if_f (by decide +kernel) ?_
      exact ⟨(by show 0 ≤ sizeLine; decide), fun l hl => q l _ (same_new s0 hl) upd_same⟩
    case tx =>
      refine ⟨_, rfl, rfl, _, rfl, ?_⟩
      refine if_f (by decide +kernel) ?_
      refine ⟨_, rfl, rfl, _, rfl, ?_⟩
      refine if_f (by decide +kernel) ?_
      refine ⟨_, rfl, (by show 3 ≤ sizeLine; decide), fun p3 hp3 => ⟨p3, _, rfl, .inr (.inl (.inl upd_same)), rfl, rfl, _, rfl, ?_⟩⟩
      replace s0 := same_new s0 hp3 (o := .tup [.str (Kd.nm .bt), .str (Kd.nm .pl), .str (Kd.nm .tx)])
      refine if_t (by decide +kernel) ?_
      exact ⟨_, rfl, e, _, _, _, rfl, T.xf .tx, T.no .tx _ (by decide), er.same s0, rfl, (by show 1 ≤ sizeLine; decide), fun l hl => q l _ (same_new s0 hl) upd_same⟩
def Kd.all : List Kd := [.vl, .lg, .bt, .tn, .pt, .pl, .ob, .ft, .ct, .nn, .fl, .bk, .tx]
def spCls (a : Ad) : Sp := fun vs H Q _ => ∃ (e : Addr) (k : Kd) (fs : List (Str × V)), vs = [.ref e] ∧ ErrO H e (a.c k) fs ∧ ∀ l H', Same H H' → H' l = some (.lst [.str k.nm]) → Q (.ref l) H'
def nmsL : List V := Kd.all.map fun j => .str j.nm
def mksL (k : Kd) : List V := Kd.all.map fun j => .bl (decide (k = j))
def outL (k : Kd) (i : Nat) : List V := ((Kd.all.take i).filter fun j => decide (k = j)).map fun j => .str j.nm
theorem outL_succ (k : Kd) {i : Nat} {j : Kd} (h : Kd.all[i]? = some j) : outL k (i + 1) = if decide (k = j) = true then outL k i ++ [.str j.nm] else outL k i := by
  unfold outL
  rw [List.take_add_one, h, List.filter_append, List.map_append]
  by_cases c : k = j
  · subst c
    simp
  · simp [c]
theorem outL_len (k : Kd) (i : Nat) : (outL k i).length ≤ 13 := by
  unfold outL
  rw [List.length_map]
  refine Nat.le_trans (List.length_filter_le _ _) ?_
  rw [List.length_take]
  exact Nat.min_le_right _ _
theorem outL_all (k : Kd) : outL k 13 = [.str k.nm] := by cases k <;> rfl
theorem lc_cls {HZ : Hp} {k : Kd} {p q : Addr} {σ : L2.St} {R : VK} (hp : HZ p = some (.lst nmsL)) (hq : HZ q = some (.lst (mksL k))) (hσ : σ.length = 5) (h : ∀ D H', Same HZ H' → H' D = some (.lst [.str k.nm]) → R (.ref D) H') :
    tLc (fun _ H Rz => Rz (Itz K p q) H) (gTup K 2 (gCons (gName 3) (gCons (gName 4) gNil))) (tB (tVar 4)) (tVar 3) [3, 4] σ HZ R := by
  intro D hD
  refine lc_it (walk_zip (K := K) (a := p) (b := q) (xs := nmsL) (ys := mksL k) rfl) (fun i H1 => H1 D = some (.lst (outL k i)) ∧ Same HZ H1) ⟨upd_same, same_new (Same.refl _) hD⟩ (fun i H1 _ z => ⟨.inl (.inl (z.2 _ _ hp)), .inl (.inl (z.2 _ _ hq))⟩) ?_ ?_
  · rintro i x H1 H2 hi ⟨h1, s1⟩ ⟨Tq, u, v, rfl, hT, rfl, hu, hv⟩
    obtain ⟨j, hj, rfl⟩ : ∃ j, Kd.all[i]? = some j ∧ u = .str j.nm := by
      have hu2 : nmsL[i]? = some u := hu
      unfold nmsL at hu2
      rw [List.getElem?_map] at hu2
      obtain ⟨j, hj, e⟩ := Option.map_eq_some_iff.mp hu2
      exact ⟨j, hj, e.symm⟩
    obtain rfl : v = .bl (decide (k = j)) := by
      have hv2 : (mksL k)[i]? = some v := hv
      unfold mksL at hv2
      rw [List.getElem?_map, hj] at hv2
      exact (Option.some.inj hv2).symm
    have w4 : ∀ (y z : V), ((wipe σ [3, 4]).set 3 (some y)).set 4 (some z) = ((wipe σ [3, 4]).set 3 (some y)).set 4 (some z) := fun _ _ => rfl
    match σ, hσ with
    | [s0, s1', s2, s3, s4], _ =>
      refine ⟨Tq, _, rfl, .inl (.inl upd_same), rfl, _, _, rfl, _, _, rfl, rfl, rfl, _, rfl, _, rfl, ?_⟩
      have e := outL_succ k hj
      by_cases c : decide (k = j) = true
      · rw [if_pos c] at e
        refine if_t c ?_
        refine ⟨_, rfl, outL k i, (by rw [upd_ne (ne_of_none h1 hT)]; exact h1), Nat.lt_of_le_of_lt (outL_len k i) (by decide), ?_, fun b o hb => ?_⟩
        · rw [e]
          exact upd_same
        · rw [upd_ne (ne_of_none hb hD), upd_ne (ne_of_none (s1 _ _ hb) hT)]
          exact s1 _ _ hb
      · rw [if_neg c] at e
        refine if_f (by simpa using c) ?_
        refine ⟨?_, fun b o hb => ?_⟩
        · rw [e, upd_ne (ne_of_none h1 hT)]
          exact h1
        · rw [upd_ne (ne_of_none (s1 _ _ hb) hT)]
          exact s1 _ _ hb
  · rintro H1 ⟨h1, s1⟩
    exact h D H1 s1 (h1.trans (congrArg (fun l => some (HO.lst l)) (outL_all k)))

theorem scCls : FnScope ["_law_e", "_law_marks", "_law_all_called", "_law_called", "_law_mark"] ["_law_e"] (defScope sCls) := ⟨rfl, rfl, rfl, by decide +kernel, rfl, by decide +kernel, by decide +kernel⟩
theorem ok_Cls (T : Txt K mg a) (LD : LDf K l) : FnOk P w K mg base CX0 1 l.fCls LD.fdCls ["_law_e"] (spCls a) := by
  refine LD.FCls.ok scCls (fun vs H Q E h => ?_) (fun cdv A outer s H vs Q E hr h => ?_)
  · obtain ⟨e, k, fs, rfl, _⟩ := h
    rfl
  · obtain ⟨e, k, fs, rfl, er, q⟩ := h
    refine ⟨_, (pss_cons (ps_set (i := 1) scCls.nd rfl (.inl rfl) (pe_lst (pa_cons (pe_callB call_isO (by rfl) T.bIsinstance (by decide +kernel) (pa_cons (pv 0) (pa_cons (pe_glob (v := .ref (a.c .vl)) rfl (T.gc .vl) rfl) pa_nil))) (pa_cons (pe_callB call_isO (by rfl) T.bIsinstance (by decide +kernel) (pa_cons (pv 0) (pa_cons (pe_glob (v := .ref (a.c .lg)) rfl (T.gc .lg) rfl) pa_nil))) (pa_cons (pe_callB call_isO (by rfl) T.bIsinstance (by decide +kernel) (pa_cons (pv 0) (pa_cons (pe_glob (v := .ref (a.c .bt)) rfl (T.gc .bt) rfl) pa_nil))) (pa_cons (pe_callB call_isO (by rfl) T.bIsinstance (by decide +kernel) (pa_cons (pv 0) (pa_cons (pe_glob (v := .ref (a.c .tn)) rfl (T.gc .tn) rfl) pa_nil))) pa_nil)))))) (pss_cons (ps_set (i := 1) scCls.nd rfl (.inl rfl) (pe_op op_cat (pv 1) (pe_lst (pa_cons (pe_callB call_isO (by rfl) T.bIsinstance (by decide +kernel) (pa_cons (pv 0) (pa_cons (pe_glob (v := .ref (a.c .pt)) rfl (T.gc .pt) rfl) pa_nil))) (pa_cons (pe_callB call_isO (by rfl) T.bIsinstance (by decide +kernel) (pa_cons (pv 0) (pa_cons (pe_glob (v := .ref (a.c .pl)) rfl (T.gc .pl) rfl) pa_nil))) (pa_cons (pe_callB call_isO (by rfl) T.bIsinstance (by decide +kernel) (pa_cons (pv 0) (pa_cons (pe_glob (v := .ref (a.c .ob)) rfl (T.gc .ob) rfl) pa_nil))) (pa_cons (pe_callB call_isO (by rfl) T.bIsinstance (by decide +kernel) (pa_cons (pv 0) (pa_cons (pe_glob (v := .ref (a.c .ft)) rfl (T.gc .ft) rfl) pa_nil))) pa_nil))))))) (pss_cons (ps_set (i := 1) scCls.nd rfl (.inl rfl) (pe_op op_cat (pv 1) (pe_lst (pa_cons (pe_callB call_isO (by rfl) T.bIsinstance (by decide +kernel) (pa_cons (pv 0) (pa_cons (pe_glob (v := .ref (a.c .ct)) rfl (T.gc .ct) rfl) pa_nil))) (pa_cons (pe_callB call_isO (by rfl) T.bIsinstance (by decide +kernel) (pa_cons (pv 0) (pa_cons (pe_glob (v := .ref (a.c .nn)) rfl (T.gc .nn) rfl) pa_nil))) (pa_cons (pe_callB call_isO (by rfl) T.bIsinstance (by decide +kernel) (pa_cons (pv 0) (pa_cons (pe_glob (v := .ref (a.c .fl)) rfl (T.gc .fl) rfl) pa_nil))) (pa_cons (pe_callB call_isO (by rfl) T.bIsinstance (by decide +kernel) (pa_cons (pv 0) (pa_cons (pe_glob (v := .ref (a.c .bk)) rfl (T.gc .bk) rfl) pa_nil))) pa_nil))))))) (pss_cons (ps_set (i := 2) scCls.nd rfl (.inl rfl) (pe_lst (pa_cons pe_str (pa_cons pe_str (pa_cons pe_str (pa_cons pe_str (pa_cons pe_str (pa_cons pe_str (pa_cons pe_str (pa_cons pe_str (pa_cons pe_str (pa_cons pe_str pa_nil)))))))))))) (pss_cons (ps_set (i := 2) scCls.nd rfl (.inl rfl) (pe_op op_cat (pv 2) (pe_lst (pa_cons pe_str (pa_cons pe_str (pa_cons pe_str pa_nil)))))) (pss_one (ps_ret (pe_lc (own := [("_law_called", 3), ("_law_mark", 4)]) (g := (gTup K 2 (gCons (gName 3) (gCons (gName 4) gNil)))) rfl scCls.nd (pi_zip (by rfl) T.bZip (pa_cons (pv 2) (pa_cons (pe_op op_cat (pv 1) (pe_lst (pa_cons (pe_callB call_isO (by rfl) T.bIsinstance (by decide +kernel) (pa_cons (pv 0) (pa_cons (pe_glob (v := .ref (a.c .tx)) rfl (T.gc .tx) rfl) pa_nil))) pa_nil))) pa_nil))) (blkOk_by (N := ["_law_e", "_law_marks", "_law_all_called", "_law_called", "_law_mark"]) (sc := defScope sCls) (by decide +kernel)) (fun _ _ _ _ _ => (pg_tup rfl (pgs_cons (pg_name (i := 3) scCls.nd rfl (.inl rfl)) (pgs_cons (pg_name (i := 4) scCls.nd rfl (.inl rfl)) pgs_nil)))) (fun _ _ _ _ _ => pts_one (pt_val (pv 4))) (fun _ _ _ _ _ => (pv 3)))))))))), ?_⟩
    refine ⟨_, rfl, e, _, fs, _, _, _, rfl, .own _, T.xc k, er, T.kit k .vl, _, rfl, e, _, fs, _, _, _, rfl, .own _, T.xc k, er, T.kit k .lg, _, rfl, e, _, fs, _, _, _, rfl, .own _, T.xc k, er, T.kit k .bt, _, rfl, e, _, fs, _, _, _, rfl, .own _, T.xc k, er, T.kit k .tn, (by show 4 ≤ sizeLine; decide), fun p1 hp1 => ?_⟩
    have s1 := same_new (Same.refl H) hp1 (o := .lst [.bl (decide (k = .vl)), .bl (decide (k = .lg)), .bl (decide (k = .bt)), .bl (decide (k = .tn))])
    have er1 := er.same s1
    refine ⟨_, rfl, _, rfl, e, _, fs, _, _, _, rfl, .own _, T.xc k, er1, T.kit k .pt, _, rfl, e, _, fs, _, _, _, rfl, .own _, T.xc k, er1, T.kit k .pl, _, rfl, e, _, fs, _, _, _, rfl, .own _, T.xc k, er1, T.kit k .ob, _, rfl, e, _, fs, _, _, _, rfl, .own _, T.xc k, er1, T.kit k .ft, (by show 4 ≤ sizeLine; decide), fun p2 hp2 => ?_⟩
    have s2 := same_new s1 hp2 (o := .lst [.bl (decide (k = .pt)), .bl (decide (k = .pl)), .bl (decide (k = .ob)), .bl (decide (k = .ft))])
    refine ⟨p1, p2, _, _, rfl, rfl, (by rw [upd_ne (ne_of_none upd_same hp2)]; exact upd_same), upd_same, (by show (8 : Nat) ≤ sizeLine; decide), fun p3 hp3 => ?_⟩
    have s3 := same_new s2 hp3 (o := .lst [.bl (decide (k = .vl)), .bl (decide (k = .lg)), .bl (decide (k = .bt)), .bl (decide (k = .tn)), .bl (decide (k = .pt)), .bl (decide (k = .pl)), .bl (decide (k = .ob)), .bl (decide (k = .ft))])
    have er3 := er.same s3
    refine ⟨_, rfl, _, rfl, e, _, fs, _, _, _, rfl, .own _, T.xc k, er3, T.kit k .ct, _, rfl, e, _, fs, _, _, _, rfl, .own _, T.xc k, er3, T.kit k .nn, _, rfl, e, _, fs, _, _, _, rfl, .own _, T.xc k, er3, T.kit k .fl, _, rfl, e, _, fs, _, _, _, rfl, .own _, T.xc k, er3, T.kit k .bk, (by show 4 ≤ sizeLine; decide), fun p4 hp4 => ?_⟩
    have s4 := same_new s3 hp4 (o := .lst [.bl (decide (k = .ct)), .bl (decide (k = .nn)), .bl (decide (k = .fl)), .bl (decide (k = .bk))])
    refine ⟨p3, p4, _, _, rfl, rfl, (by rw [upd_ne (ne_of_none upd_same hp4)]; exact upd_same), upd_same, (by show (12 : Nat) ≤ sizeLine; decide), fun p5 hp5 => ?_⟩
    have s5 := same_new s4 hp5 (o := .lst [.bl (decide (k = .vl)), .bl (decide (k = .lg)), .bl (decide (k = .bt)), .bl (decide (k = .tn)), .bl (decide (k = .pt)), .bl (decide (k = .pl)), .bl (decide (k = .ob)), .bl (decide (k = .ft)), .bl (decide (k = .ct)), .bl (decide (k = .nn)), .bl (decide (k = .fl)), .bl (decide (k = .bk))])
    refine ⟨(by show 10 ≤ sizeLine; decide), fun p6 hp6 => ?_⟩
    have s6 := same_new s5 hp6 (o := .lst [.str (Kd.nm .vl), .str (Kd.nm .lg), .str (Kd.nm .bt), .str (Kd.nm .tn), .str (Kd.nm .pt), .str (Kd.nm .pl), .str (Kd.nm .ob), .str (Kd.nm .ft), .str (Kd.nm .ct), .str (Kd.nm .nn)])
    refine ⟨_, rfl, (by show 3 ≤ sizeLine; decide), fun p7 hp7 => ?_⟩
    have s7 := same_new s6 hp7 (o := .lst [.str (Kd.nm .fl), .str (Kd.nm .bk), .str (Kd.nm .tx)])
    refine ⟨p6, p7, _, _, rfl, rfl, (by rw [upd_ne (ne_of_none upd_same hp7)]; exact upd_same), upd_same, (by show (13 : Nat) ≤ sizeLine; decide), fun p8 hp8 => ?_⟩
    have s8 := same_new s7 hp8 (o := .lst nmsL)
    have er8 := er.same s8
    have t6 := same_new (Same.refl _) hp6 (o := .lst [.str (Kd.nm .vl), .str (Kd.nm .lg), .str (Kd.nm .bt), .str (Kd.nm .tn), .str (Kd.nm .pt), .str (Kd.nm .pl), .str (Kd.nm .ob), .str (Kd.nm .ft), .str (Kd.nm .ct), .str (Kd.nm .nn)])
    have t7 := same_new (Same.refl _) hp7 (o := .lst [.str (Kd.nm .fl), .str (Kd.nm .bk), .str (Kd.nm .tx)])
    have t8 := same_new (Same.refl _) hp8 (o := .lst nmsL)
    have h5 := t8 _ _ (t7 _ _ (t6 p5 _ upd_same))
    refine ⟨_, rfl, _, rfl, _, rfl, e, _, fs, _, _, _, rfl, .own _, T.xc k, er8, T.kit k .tx, (by show 1 ≤ sizeLine; decide), fun p9 hp9 => ?_⟩
    have t9 := same_new (Same.refl _) hp9 (o := .lst [.bl (decide (k = .tx))])
    have s9 := same_new s8 hp9 (o := .lst [.bl (decide (k = .tx))])
    refine ⟨p5, p9, _, _, rfl, rfl, t9 _ _ h5, upd_same, (by show (13 : Nat) ≤ sizeLine; decide), fun p10 hp10 => ?_⟩
    have t10 := same_new (Same.refl _) hp10 (o := .lst (mksL k))
    have s10 := same_new s9 hp10 (o := .lst (mksL k))
    have h8 := t10 _ _ (t9 p8 _ upd_same)
    refine ⟨p8, p10, nmsL, mksL k, rfl, .inl (.inl h8), .inl (.inl upd_same), ?_⟩
    exact lc_cls (R := Q) h8 upd_same rfl fun D H' s' h' => q D H' (s10.trans s') h'
end
end G58

set_option Elab.async false
set_option linter.all false
set_option pp.maxSteps 2500
set_option maxRecDepth 100000
set_option maxHeartbeats 1000000
/-! k05: all errors checked. -/
namespace G58
open PySem PySem.Spec PyProof.Rows L2
def spRgt : Sp := fun vs H Q _ => ∃ S : Addr, vs = [.ref S] ∧ SrcAt H S ∧ ∀ H', But S H H' → Q (.bl true) H'
section
variable {P : Program} {w : World} {K : PySem.W.Frag} {mg : Str → Option Value} {base : Heap} {a : Ad} {l : Ld}
theorem kpT (D : Df K a) : ∀ k : Kd, PySem.W.keepIn K (.ref (a.ft k)) = true
  | .vl => D.Tvl.kp
  | .lg => D.Tlg.kp
  | .bt => D.Tbt.kp
  | .tn => D.Ttn.kp
  | .pt => D.Tpt.kp
  | .pl => D.Tpl.kp
  | .ob => D.Tob.kp
  | .ft => D.Tft.kp
  | .ct => D.Tct.kp
  | .nn => D.Tnn.kp
  | .fl => D.Tfl.kp
  | .bk => D.Tbk.kp
  | .tx => D.Ttx.kp
theorem sn {H : Hp} {d : Addr} {o : HO} (hd : H d = none) : Same H (upd H d o) := same_new (Same.refl H) hd
theorem srcS {H H' : Hp} {S : Addr} (h : SrcAt H S) (s : Same H H') : SrcAt H' S := by
  obtain ⟨x, y, z, q⟩ := h
  exact ⟨x, y, z, s _ _ q⟩
theorem src_ne {H : Hp} {S p : Addr} (h : SrcAt H S) (hp : H p = none) : p ≠ S := fun e => by
  obtain ⟨x, y, z, q⟩ := h
  rw [e, q] at hp
  cases hp
theorem tup_ne {H : Hp} {S p : Addr} {xs : List V} (h : SrcAt H S) (hp : H p = some (.tup xs)) : p ≠ S := fun e => by
  obtain ⟨x, y, z, q⟩ := h
  rw [e, q] at hp
  cases hp
theorem scRgt : FnScope ["_law_source_here", "_law_way", "_law_some", "_law_many", "_law_e", "_law_called", "_law_due"] ["_law_source_here"] (defScope sRgt) := ⟨rfl, rfl, rfl, by decide +kernel, rfl, by decide +kernel, by decide +kernel⟩
theorem ok_Rgt (T : Txt K mg a) (D : Df K a) (L : LTx mg l) (LD : LDf K l) : FnG P w K mg base CX0 4 l.fRgt LD.fdRgt ["_law_source_here"] spRgt := by
  have GDrw : FnOk P w K mg base CX0 1 l.fDrw LD.fdDrw ["_law_source_here", "_law_many"] spDrw := ok_drw T LD
  have GPik : FnOk P w K mg base CX0 2 l.fPik LD.fdPik ["_law_source_here", "_law_items"] spPik := ok_pik T LD L
  have GPla : FnOk P w K mg base CX0 3 l.fPla LD.fdPla ["_law_way", "_law_some_word", "_law_many"] (spPla a) := ok_Pla T D LD
  have GNam : FnOk P w K mg base CX0 3 l.fNam LD.fdNam ["_law_way", "_law_some_word", "_law_many"] (spPla a) := ok_Nam T D LD
  have GFld : FnOk P w K mg base CX0 1 l.fFld LD.fdFld ["_law_e", "_law_called"] (spFld a) := ok_Fld T LD
  have GCls : FnOk P w K mg base CX0 1 l.fCls LD.fdCls ["_law_e"] (spCls a) := ok_Cls T LD
  have GT : ∀ k : Kd, FnOk P w K mg base CX0 1 (a.ft k) (D.fdT k) ["self"] (spTo k) := fun k => ok_T T D k
  refine okG LD.FRgt scRgt (fun vs H Q E h => ?_) (fun cdv A outer s H vs Q E hgu hr h => ?_)
  · obtain ⟨S, rfl, _⟩ := h
    rfl
  · obtain ⟨S, rfl, hS, q⟩ := h
    have hr1 := hr.mono (show 1 ≤ 3 by decide)
    have hr2 := hr.mono (show 2 ≤ 3 by decide)
    refine ⟨_, (pss_cons (ps_set (i := 1) scRgt.nd rfl (.inl rfl) (pe_call GPik hr2 rfl L.gPik LD.FPik.kp LD.bPik .nil pass0 (pa_cons (pv 0) (pa_cons (pe_lst (pa_cons (pe_tup pa_nil) (pa_cons (pe_tup (pa_cons pe_int pa_nil)) (pa_cons (pe_tup (pa_cons pe_str (pa_cons pe_int pa_nil))) (pa_cons (pe_tup (pa_cons pe_str (pa_cons pe_str (pa_cons (pe_op op_pow pe_int pe_int) pa_nil)))) (pa_cons (pe_op op_repT (pe_tup (pa_cons pe_int (pa_cons pe_str pa_nil))) pe_int) pa_nil)))))) pa_nil)))) (pss_cons (ps_set (i := 2) scRgt.nd rfl (.inl rfl) (pe_call GPik hr2 rfl L.gPik LD.FPik.kp LD.bPik .nil pass0 (pa_cons (pv 0) (pa_cons (pe_lst (pa_cons pe_str (pa_cons pe_str (pa_cons pe_str (pa_cons pe_str (pa_cons pe_str (pa_cons pe_str (pa_cons pe_str pa_nil)))))))) pa_nil)))) (pss_cons (ps_set (i := 3) scRgt.nd rfl (.inl rfl) (pe_call GPik hr2 rfl L.gPik LD.FPik.kp LD.bPik .nil pass0 (pa_cons (pv 0) (pa_cons (pe_lst (pa_cons pe_int (pa_cons pe_int (pa_cons pe_int (pa_cons (pe_op op_pow pe_int pe_int) (pa_cons (pe_call GDrw hr1 rfl L.gDrw LD.FDrw.kp LD.bDrw .nil pass0 (pa_cons (pv 0) (pa_cons (pe_op op_pow pe_int pe_int) pa_nil))) pa_nil)))))) pa_nil)))) (pss_cons (ps_for PassesOwn.never rfl (pi_list (pe_op op_cat (pe_call GPla hr rfl L.gPla LD.FPla.kp LD.bPla .nil pass0 (pa_cons (pv 1) (pa_cons (pv 2) (pa_cons (pv 3) pa_nil)))) (pe_call GNam hr rfl L.gNam LD.FNam.kp LD.bNam .nil pass0 (pa_cons (pv 1) (pa_cons (pv 2) (pa_cons (pv 3) pa_nil)))))) (pg_tup rfl (pgs_cons (pg_name (i := 4) scRgt.nd rfl (.inl rfl)) (pgs_cons (pg_name (i := 5) scRgt.nd rfl (.inl rfl)) (pgs_cons (pg_name (i := 6) scRgt.nd rfl (.inl rfl)) pgs_nil)))) (pss_cons (ps_if (PW.pt (pw_or (pt_cmpR (op_neD hr.units) (pe_call GCls hr1 rfl L.gCls LD.FCls.kp LD.bCls .nil pass0 (pa_cons (pv 4) pa_nil)) (pe_lst (pa_cons (pv 5) pa_nil)) (nomark _)) (pw_or (pt_not (pt_val (pe_callB call_isO (by rfl) T.bIsinstance (by decide +kernel) (pa_cons (pv 4) (pa_cons (pe_glob (v := .ref a.cN) rfl T.gN rfl) pa_nil))))) (pw_or1 (pt_not (pt_val (pe_callB call_isO (by rfl) T.bIsinstance (by decide +kernel) (pa_cons (pv 4) (pa_cons (pe_bltn (v := .ty "ValueError") rfl T.bVe (by decide +kernel) rfl) pa_nil))))))))) (pss_one (ps_ret pe_bl)) pss_nil) (pss_one (ps_if (PW.pt (pw_or (pt_cmpR op_ne (pe_callB (call_reprD hgu hr.units) (by rfl) T.bRepr (by decide +kernel) (pa_cons (pe_call GFld hr1 rfl L.gFld LD.FFld.kp LD.bFld .nil pass0 (pa_cons (pv 4) (pa_cons (pv 5) pa_nil))) pa_nil)) (pe_callB (call_reprD hgu hr.units) (by rfl) T.bRepr (by decide +kernel) (pa_cons (pv 6) pa_nil)) (nomark _)) (pw_or1 (pt_cmpR op_ne (pe_xm (pv 4) GT hr1 (fun k => D.bT k) (fun k => kpT D k) (fun k => T.tf k) pass0) (pe_op op_add_str pe_str (pv 5)) (nomark _))))) (pss_one (ps_ret pe_bl)) pss_nil)))) (pss_one (ps_ret (pe_not (pe_callB call_isV (by rfl) T.bIsinstance (by decide +kernel) (pa_cons (pe_exv rfl T.bVe (pa_cons pe_str pa_nil)) (pa_cons (pe_glob (v := .ref a.cN) rfl T.gN rfl) pa_nil)))))))))), ?_⟩
    refine ⟨_, rfl, (by show 0 ≤ sizeLine; decide), fun t1 ht1 => ?_⟩
    refine ⟨(by show 1 ≤ sizeLine; decide), fun t2 ht2 => ?_⟩
    refine ⟨(by show 2 ≤ sizeLine; decide), fun t3 ht3 => ?_⟩
    refine ⟨_, _, rfl, rfl, ⟨by decide, by decide, by decide⟩, (by show 3 ≤ sizeLine; decide), fun t4 ht4 => ?_⟩
    refine ⟨(by show 2 ≤ sizeLine; decide), fun t0 ht0 => ?_⟩
    refine ⟨t0, _, _, rfl, rfl, .inl (.inl upd_same), (by decide), (by decide), (by decide), (by decide), fun t5 ht5 => ?_⟩
    refine ⟨(by show 5 ≤ sizeLine; decide), fun L1 hL1 => ?_⟩
    have sH := (((((sn ht1).trans (sn ht2)).trans (sn ht3)).trans (sn ht4)).trans (sn ht0)).trans (sn (o := .tup (List.replicate (Int.toNat 3) [V.int 2, V.str "b"]).flatten) ht5)
    have nL1 := src_ne (srcS hS sH) hL1
    have hSL := srcS (srcS hS sH) (sn (o := .lst [.ref t1, .ref t2, .ref t3, .ref t4, .ref t5]) hL1)
    refine ⟨S, L1, _, rfl, hSL, upd_same, nL1, (by show 0 < 5; decide), (by show 5 < 1000; decide), fun i x H1 hx hS1 b1 f1 => ?_⟩
    have hB1 := (Same.but (S := S) (sH.trans (sn (o := .lst [.ref t1, .ref t2, .ref t3, .ref t4, .ref t5]) hL1))).trans b1
    obtain ⟨qw, hqw, w, rfl, hw1⟩ : ∃ qw ∈ waysP, ∃ w : Addr, x = .ref w ∧ H1 w = some (.tup qw.1) := by
      have go : ∀ {t : Addr} {xs : List V}, (upd _ L1 (.lst [.ref t1, .ref t2, .ref t3, .ref t4, .ref t5]) : Hp) t = some (.tup xs) → H1 t = some (.tup xs) := fun h => b1 _ _ h (tup_ne hSL h)
      have m := List.mem_of_getElem? hx
      simp only [List.mem_cons, List.not_mem_nil, or_false] at m
      rcases m with rfl | rfl | rfl | rfl | rfl
      · exact ⟨_, List.mem_cons_self .., t1, rfl, go ((((((sn ht2).trans (sn ht3)).trans (sn ht4)).trans (sn ht0)).trans (sn ht5)).trans (sn hL1) t1 _ upd_same)⟩
      · exact ⟨_, List.mem_cons_of_mem _ (List.mem_cons_self ..), t2, rfl, go (((((sn ht3).trans (sn ht4)).trans (sn ht0)).trans (sn ht5)).trans (sn hL1) t2 _ upd_same)⟩
      · exact ⟨_, List.mem_cons_of_mem _ (List.mem_cons_of_mem _ (List.mem_cons_self ..)), t3, rfl, go ((((sn ht4).trans (sn ht0)).trans (sn ht5)).trans (sn hL1) t3 _ upd_same)⟩
      · exact ⟨_, List.mem_cons_of_mem _ (List.mem_cons_of_mem _ (List.mem_cons_of_mem _ (List.mem_cons_self ..))), t4, rfl, go (((sn ht0).trans (sn ht5)).trans (sn hL1) t4 _ upd_same)⟩
      · exact ⟨_, List.mem_cons_of_mem _ (List.mem_cons_of_mem _ (List.mem_cons_of_mem _ (List.mem_cons_of_mem _ (List.mem_cons_self ..)))), t5, rfl, go ((sn hL1) t5 _ upd_same)⟩
    clear b1 f1 hSL nL1 sH hx
    have gw := ways_good _ hqw
    have dw := fun (H : Hp) => ways_dp (K := K) (H := H) _ hqw
    obtain ⟨xs, ds⟩ := qw
    dsimp only at hw1 gw dw
    clear hqw
    refine ⟨_, rfl, (by show 7 ≤ sizeLine; decide), fun L2 hL2 => ?_⟩
    have hSL := srcS hS1 (sn (o := .lst [.str "depth", .str "parts", .str "ring", .str "size", .str "nests", .str "a1", .str ""]) hL2)
    refine ⟨S, L2, _, rfl, hSL, upd_same, src_ne hS1 hL2, (by show 0 < 7; decide), (by show 7 < 1000; decide), fun i2 x2 H2 hx2 hS2 b2 f2 => ?_⟩
    have hw2 : H2 w = some (.tup xs) := b2 _ _ (sn hL2 _ _ hw1) (tup_ne hS1 hw1)
    have hB2 := (hB1.same (sn (o := .lst [.str "depth", .str "parts", .str "ring", .str "size", .str "nests", .str "a1", .str ""]) hL2)).trans b2
    obtain ⟨z, rfl, gz⟩ : ∃ z : Str, x2 = .str z ∧ Good (.str z) := by
      have m := List.mem_of_getElem? hx2
      simp only [List.mem_cons, List.not_mem_nil, or_false] at m
      rcases m with rfl | rfl | rfl | rfl | rfl | rfl | rfl <;> exact ⟨_, rfl, words_good _ (by decide +kernel)⟩
    clear b2 f2 hSL hx2 hB1 hw1
    refine ⟨_, rfl, _, _, rfl, rfl, ⟨by decide, by decide, by decide⟩, _, rfl, _, _, rfl, rfl, ⟨by decide, by decide, by decide⟩, S, _, rfl, hS2, (by decide), (by decide), fun r H3 r0 r1 hS3 b3 f3 => ?_⟩
    have hw3 : H3 w = some (.tup xs) := b3 _ _ hw2 (tup_ne hS2 hw2)
    have hB3 := hB2.trans b3
    refine ⟨(by show 5 ≤ sizeLine; decide), fun L3 hL3 => ?_⟩
    have hSL := srcS hS3 (sn (o := .lst [.int 0, .int 1, .int 41, .int (10 ^ 30), .int r]) hL3)
    refine ⟨S, L3, _, rfl, hSL, upd_same, src_ne hS3 hL3, (by show 0 < 5; decide), (by show 5 < 1000; decide), fun i4 x4 H4 hx4 hS4 b4 f4 => ?_⟩
    have hw4 : H4 w = some (.tup xs) := b4 _ _ (sn hL3 _ _ hw3) (tup_ne hS3 hw3)
    have hB4 := (hB3.same (sn (o := .lst [.int 0, .int 1, .int 41, .int (10 ^ 30), .int r]) hL3)).trans b4
    obtain ⟨n, rfl, gn⟩ : ∃ n : Int, x4 = .int n ∧ Good (.int n) := by
      have m := List.mem_of_getElem? hx4
      simp only [List.mem_cons, List.not_mem_nil, or_false] at m
      rcases m with rfl | rfl | rfl | rfl | rfl
      · exact ⟨_, rfl, int_good (by decide) (by decide)⟩
      · exact ⟨_, rfl, int_good (by decide) (by decide)⟩
      · exact ⟨_, rfl, int_good (by decide) (by decide)⟩
      · exact ⟨_, rfl, big_good⟩
      · exact ⟨_, rfl, int_good r0 (by exact r1)⟩
    clear b3 f3 b4 f4 hSL hx4 hB2 hB3 hw2 hw3
    have gg := fun k : Kd => dats_good gw gz gn k
    refine ⟨_, rfl, _, rfl, _, rfl, w, xs, z, n, rfl, hw4, fun p ts H5 L5 l5 => ?_⟩
    refine ⟨_, rfl, _, rfl, _, rfl, w, xs, z, n, rfl, L5.hw, fun p2 us H6 L6 l6 => ?_⟩
    refine ⟨p, p2, ts, us, rfl, rfl, L6.s0 _ _ L5.at_, L6.at_, Nat.le_trans (Nat.add_le_add l5 l6) (by decide), fun q0 hq0 => ?_⟩
    have hrow : ∀ x ∈ ts ++ us, ∃ k, Tri a (upd H6 q0 (.lst (ts ++ us))) k xs z n x := fun x hx => by
      rcases List.mem_append.mp hx with hx | hx
      · obtain ⟨k, t⟩ := L5.tri x hx
        exact ⟨k, (t.same L6.s0).same (sn hq0)⟩
      · obtain ⟨k, t⟩ := L6.tri x hx
        exact ⟨k, t.same (sn hq0)⟩
    have hBQ := ((hB4.same L5.s0).same L6.s0).same (sn (o := .lst (ts ++ us)) hq0)
    have hq1 : (upd H6 q0 (.lst (ts ++ us)) : Hp) q0 = some (.lst (ts ++ us)) := upd_same
    generalize upd H6 q0 (.lst (ts ++ us)) = HQ at hrow hBQ hq1 ⊢
    refine ⟨q0, rfl, ⟨_, .inl (.inl hq1)⟩, for_it (walk_list (K := K) (a := q0) (xs := ts ++ us)) (fun i st H7 => ∃ u4 u5 u6, st = [some (.ref S), some (.ref w), some (.str z), some (.int n), u4, u5, u6] ∧ Same HQ H7)
      ⟨_, _, _, rfl, Same.refl _⟩ (fun i st H7 _ ⟨_, _, _, _, s⟩ => .inl (.inl (s _ _ hq1))) ?_ ?_⟩
    · rintro i x st H7 _ hi ⟨u4, u5, u6, rfl, s7⟩ ⟨rfl, hx⟩
      obtain ⟨k, t, e, l0, w', rfl, ht, er, hl, hw'⟩ := hrow x (List.mem_of_getElem? hx)
      refine ⟨t, _, rfl, .inl (.inl (s7 _ _ ht)), rfl, _, _, rfl, _, _, rfl, _, _, rfl, rfl, ?_⟩
      have er7 := er.same s7
      refine ⟨_, rfl, e, k, _, rfl, er7, fun l1 H8 s8 h8 => ?_⟩
      refine ⟨_, rfl, (by show 1 ≤ sizeLine; decide), fun l2 hl2 => ⟨.list [.str k.nm], .list [.str k.nm], .lst (.inl (.inl (sn hl2 _ _ h8))) (.cons (.str _) .nil), .lst (.inl (.inl upd_same)) (.cons (.str _) .nil), shaped_nm k, shaped_nm k, _, rfl, ?_⟩⟩
      refine if_f (by rw [eqv_nm]; rfl) ?_
      have s9 := (s7.trans s8).trans (sn (o := .lst [.str k.nm]) hl2)
      have er9 := er.same s9
      refine ⟨_, rfl, e, a.c k, _, .ref a.cN, .ref a.cN, true, rfl, .own _, T.xc k, er9, T.kitN k, true, rfl, ?_⟩
      refine if_f rfl ?_
      refine ⟨_, rfl, e, a.c k, _, .ty "ValueError", .type "ValueError", true, rfl, .ty _, T.xc k, er9, T.kitV k, true, rfl, ?_⟩
      refine if_f rfl ?_
      refine ⟨_, rfl, _, rfl, e, k, .ref w', z, n, rfl, er9, fun l3 H10 s10 h10 => ?_⟩
      have sA := s9.trans s10
      have hwA : H10 w' = some (.tup xs) := sA _ _ hw'
      have hlA := sA _ _ hl
      have erA := er.same sA
      refine ⟨l3, .list (k.dats (.tuple ds) z n), rfl, .lst (.inl (.inl h10)) (dats_dp hwA (dw _) k), (gg k).1, (gg k).2.1, (gg k).2.2.1, (gg k).2.2.2, ?_⟩
      refine ⟨_, rfl, l0, .list (k.dats (.tuple ds) z n), rfl, .lst (.inl (.inl hlA)) (dats_dp hwA (dw _) k), (gg k).1, (gg k).2.1, (gg k).2.2.1, (gg k).2.2.2, ?_⟩
      refine ⟨rfl, _, rfl, ?_⟩
      refine if_f (by rw [decide_eq_true rfl]; rfl) ?_
      refine ⟨_, rfl, k, e, a.c k, _, rfl, T.xf k, T.mt k, erA, told_none k _ z n, e, rfl, ?_⟩
      refine ⟨_, rfl, _, _, rfl, rfl, (by cases k <;> decide +kernel), rfl, _, rfl, ?_⟩
      refine if_f (by rw [decide_eq_true (show V.str ((Str.ofString "refused ").append k.nm) = V.str (Str.ofString "refused " ++ k.nm) from rfl)]; rfl) ?_
      exact ⟨_, _, _, rfl, sA⟩
    · rintro st H7 ⟨u4, u5, u6, rfl, s7⟩
      refine ⟨(by show 1 ≤ sizeLine; decide), fun v hv => ⟨v, .ref a.cN, .ref a.cN, false, rfl, .own _, upd_same, T.kitE, false, rfl, q _ ?_⟩⟩
      exact (hBQ.same s7).same (sn hv)
end
end G58

set_option Elab.async false
set_option linter.all false
set_option pp.maxSteps 2500
set_option maxRecDepth 100000
set_option maxHeartbeats 1000000
/-! k05: the law. -/
namespace G58
open PySem PySem.Spec PyProof.Rows L2
/-- xs + ys, each a list that is to be read -/
def rCatS (K : PySem.W.Frag) : R2 := fun x y H Q => ∃ l b xs zs, x = .ref l ∧ y = .ref b ∧ SqL K H l xs ∧ SqL K H b zs ∧ xs.length + zs.length ≤ sizeLine ∧ ∀ p, H p = none → Q (.ref p) (upd H p (.lst (xs ++ zs)))
theorem op_catS {X : Cx} : OpR X (binaryOp .Add) (rCatS X.K) := by
  intro pins s st H x y v u Q Iv rx ry h
  obtain ⟨l, b, xs, zs, rfl, rfl, hl, hb, hz, q⟩ := h
  cases rx
  cases ry
  obtain ⟨its, r, pl, _⟩ := Iv.list hl
  obtain ⟨its2, r2, pl2, _⟩ := Iv.list hb
  have e1 := r.length
  have e2 := r2.length
  obtain ⟨⟨cls, dd, data, sl⟩, ho, hc, n, hd⟩ := id pl.isList
  obtain ⟨⟨cls2, dd2, data2, sl2⟩, ho2, hc2, n2, hd2⟩ := id pl2.isList
  simp only at hc hd hc2 hd2
  subst hc hd hc2 hd2
  refine concat_meets ⟨_, ho, rfl⟩ ⟨_, ho2, rfl⟩ noFill_list_add seq_list_add PySem.F.slot_list_add PySem.F.entry_list_add (PySem.F.args_list_add_2 _ _)
    (list_addW l b its.toArray its2.toArray n n2 dd dd2 sl sl2 (by rw [List.size_toArray, List.size_toArray]; omega)) ⟨ho, ho2, ?_⟩
  rw [show its.toArray ++ its2.toArray = (its ++ its2).toArray from by simp]
  exact ⟨.ref _, _, Iv.lnew (t' := s.toks) (r.append r2) (by rw [List.length_append]; omega), rfl, q _ Iv.fresh⟩
theorem mem_cutV {xs : List V} {lo hi : Option Int} {x : V} (h : x ∈ cutV xs lo hi) : x ∈ xs := by
  unfold cutV at h
  exact List.mem_of_mem_drop (List.mem_of_mem_take h)
def spLaw (K : PySem.W.Frag) : Sp := fun vs H Q _ => ∃ (p : Addr) (ns : List Int), vs = [.ref p] ∧ SqL K H p (ns.map V.int) ∧ ns.length ≤ 63 ∧ ∀ H', Q (.bl true) H'
section
variable {P : Program} {w : World} {K : PySem.W.Frag} {mg : Str → Option Value} {base : Heap} {a : Ad} {l : Ld}
theorem scLaw : FnScope ["_law_script", "_law_cell", "_law_source_here"] ["_law_script"] (defScope sLaw) := ⟨rfl, rfl, rfl, by decide +kernel, rfl, by decide +kernel, by decide +kernel⟩
theorem ok_Law {f : Addr} {fd : FuncData} (F : Fun K "law" "law" sLaw f fd) (T : Txt K mg a) (D : Df K a) (L : LTx mg l) (LD : LDf K l) : FnG P w K mg base CX0 5 f fd ["_law_script"] (spLaw K) := by
  have GSrc : FnOk P w K mg base CX0 1 l.fSrc LD.fdSrc ["_law_cell"] spSrc := ok_src T LD
  have GRgt : FnG P w K mg base CX0 4 l.fRgt LD.fdRgt ["_law_source_here"] spRgt := ok_Rgt T D L LD
  refine okG F scLaw (fun vs H Q E h => ?_) (fun cdv A outer s H vs Q E hgu hr h => ?_)
  · obtain ⟨p, ns, rfl, _⟩ := h
    rfl
  · obtain ⟨p, ns, rfl, hp, hl, k⟩ := h
    have hr1 := hr.mono (show 1 ≤ 4 by decide)
    refine ⟨_, (pss_cons (ps_for PassesOwn.never rfl (pi_list (pe_slice sl_list (pe_op op_catS (pv 0) (pe_lst (pa_cons pe_int pa_nil))) po_none (po_some pe_int))) (pg_name (i := 1) scLaw.nd rfl (.inl rfl)) (pss_cons (ps_set (i := 2) scLaw.nd rfl (.inl rfl) (pe_call GSrc hr1 rfl L.gSrc LD.FSrc.kp LD.bSrc .nil pass0 (pa_cons (pv 1) pa_nil))) (pss_one (ps_if (pt_not (pt_val (pe_callG hgu GRgt hr rfl L.gRgt LD.FRgt.kp LD.bRgt .nil pass0 (pa_cons (pv 2) pa_nil)))) (pss_one (ps_ret pe_bl)) pss_nil)))) (pss_one (ps_ret pe_bl))), ?_⟩
    refine ⟨_, rfl, by show 1 ≤ sizeLine; decide, fun l0 hl0 => ?_⟩
    have s0 : Same H (upd H l0 (.lst [.int 0])) := same_new (Same.refl H) hl0
    refine ⟨p, l0, _, _, rfl, rfl, s0.seq hp, .inl (.inl upd_same), ?_, fun c1 hc1 => ⟨4, rfl, c1, _, rfl, .inl (.inl upd_same), fun s1 hs1 => ⟨s1, rfl, ⟨_, .inl (.inl upd_same)⟩, for_it (walk_list (K := K) (a := s1) (xs := cutV (ns.map V.int ++ [.int 0]) none (some 4)))
      (fun i st H1 => ∃ u1 u2, st = [some (.ref p), u1, u2] ∧ H1 s1 = some (.lst (cutV (ns.map V.int ++ [.int 0]) none (some 4)))) ⟨_, _, rfl, upd_same⟩ (fun i st H1 _ ⟨_, _, _, q⟩ => .inl (.inl q)) ?_ ?_⟩⟩⟩
    · rw [List.length_map]
      show _ + 1 ≤ sizeLine
      exact Nat.le_trans (by omega : _ ≤ 100) (by decide)
    · rintro i x st H1 _ hi ⟨u1, u2, rfl, h1⟩ ⟨rfl, hx⟩
      obtain ⟨z, rfl⟩ : ∃ z, x = .int z := by
        rcases List.mem_append.mp (mem_cutV (List.mem_of_getElem? hx)) with m | m
        · obtain ⟨z, _, e⟩ := List.mem_map.mp m
          exact ⟨z, e.symm⟩
        · exact ⟨0, List.mem_singleton.mp m⟩
      refine ⟨_, rfl, z, rfl, fun S H2 hS0 s2 hS2 => ?_⟩
      refine ⟨_, rfl, S, rfl, hS2, fun H3 bt3 => ⟨true, rfl, iteF ⟨_, _, rfl, bt3 _ _ (s2 _ _ h1) (ne_of_none h1 hS0)⟩⟩⟩
    · rintro st H1 ⟨u1, u2, rfl, h1⟩
      exact k H1
end
end G58

set_option Elab.async false
set_option linter.all false
set_option maxRecDepth 100000
set_option maxHeartbeats 8000000
/-! k05: what the top has written. -/
namespace G58
open PySem PySem.Spec PyProof.Rows L2 LamX
theorem len1 {C : List Value → Prop} (h : ∀ a, C [a]) : ∀ us : List Value, us.length = 1 → C us
  | [a], _ => h a
theorem len2 {C : List Value → Prop} (h : ∀ a b, C [a, b]) : ∀ us : List Value, us.length = 2 → C us
  | [a, b], _ => h a b
theorem len3 {C : List Value → Prop} (h : ∀ a b c, C [a, b, c]) : ∀ us : List Value, us.length = 3 → C us
  | [a, b, c], _ => h a b c
theorem vals_rev2 : ∀ {zs : List V} {ws : List Value}, Vals zs ws → Vals zs.reverse ws.reverse
  | _, _, .nil => .nil
  | _, _, .cons r t => by
    rw [List.reverse_cons, List.reverse_cons]
    exact (vals_rev2 t).append (.cons r .nil)
theorem kit_refl {K : PySem.W.Frag} {C : Addr} : PySem.W.kitOne K (.ref C) (.ref C) = some true := by
  unfold PySem.W.kitOne
  rw [if_pos (by simp)]
def Kd.pick {α : Type} (xvl xlg xbt xtn xpt xpl xob xft xct xnn xfl xbk xtx : α) : Kd → α
  | .vl => xvl
  | .lg => xlg
  | .bt => xbt
  | .tn => xtn
  | .pt => xpt
  | .pl => xpl
  | .ob => xob
  | .ft => xft
  | .ct => xct
  | .nn => xnn
  | .fl => xfl
  | .bk => xbk
  | .tx => xtx
theorem Kd.all' {P : Kd → Prop} (hvl : P .vl) (hlg : P .lg) (hbt : P .bt) (htn : P .tn) (hpt : P .pt) (hpl : P .pl) (hob : P .ob) (hft : P .ft) (hct : P .ct) (hnn : P .nn) (hfl : P .fl) (hbk : P .bk) (htx : P .tx) : ∀ k, P k
  | .vl => hvl
  | .lg => hlg
  | .bt => hbt
  | .tn => htn
  | .pt => hpt
  | .pl => hpl
  | .ob => hob
  | .ft => hft
  | .ct => hct
  | .nn => hnn
  | .fl => hfl
  | .bk => hbk
  | .tx => htx
theorem all_mk {l : PySem.W.OpenLaw} {w : World} {K : PySem.W.Frag} {h : Heap} {mg : Str → Option Value} {fa cN cvl clg cbt ctn cpt cpl cob cft cct cnn cfl cbk ctx : Addr} (X : K.In h) (G : h.Ns mainGlobals mg) (hfa : mg "law" = some (.ref fa))
    {nm_vl qn_vl : Str} {N_vl : Addr} {bs_vl : List Value} {sn_vl : List Str} {sub_vl : List Value} {ab_vl : Bool} {col_vl : Option Bool} {dd_vl : Option Addr} {m0_vl m1_vl m2_vl m3_vl m5_vl : Option Value} {bm_vl : List Value}
    {f_Ivl : Addr} {od_Ivl an_Ivl : Option Addr} {sl_Ivl : Array (Option Value)} {oc_Ivl kV_Ivl dc_Ivl pm_Ivl ct_Ivl cd_Ivl : Value}
    {f_Tvl : Addr} {od_Tvl an_Tvl : Option Addr} {sl_Tvl : Array (Option Value)} {oc_Tvl kV_Tvl dc_Tvl pm_Tvl ct_Tvl cd_Tvl : Value}
    {nm_lg qn_lg : Str} {N_lg : Addr} {bs_lg : List Value} {sn_lg : List Str} {sub_lg : List Value} {ab_lg : Bool} {col_lg : Option Bool} {dd_lg : Option Addr} {m0_lg m1_lg m2_lg m3_lg m5_lg : Option Value} {bm_lg : List Value}
    {f_Ilg : Addr} {od_Ilg an_Ilg : Option Addr} {sl_Ilg : Array (Option Value)} {oc_Ilg kV_Ilg dc_Ilg pm_Ilg ct_Ilg cd_Ilg : Value}
    {f_Tlg : Addr} {od_Tlg an_Tlg : Option Addr} {sl_Tlg : Array (Option Value)} {oc_Tlg kV_Tlg dc_Tlg pm_Tlg ct_Tlg cd_Tlg : Value}
    {nm_bt qn_bt : Str} {N_bt : Addr} {bs_bt : List Value} {sn_bt : List Str} {sub_bt : List Value} {ab_bt : Bool} {col_bt : Option Bool} {dd_bt : Option Addr} {m0_bt m1_bt m2_bt m3_bt m5_bt : Option Value} {bm_bt : List Value}
    {f_Ibt : Addr} {od_Ibt an_Ibt : Option Addr} {sl_Ibt : Array (Option Value)} {oc_Ibt kV_Ibt dc_Ibt pm_Ibt ct_Ibt cd_Ibt : Value}
    {f_Tbt : Addr} {od_Tbt an_Tbt : Option Addr} {sl_Tbt : Array (Option Value)} {oc_Tbt kV_Tbt dc_Tbt pm_Tbt ct_Tbt cd_Tbt : Value}
    {nm_tn qn_tn : Str} {N_tn : Addr} {bs_tn : List Value} {sn_tn : List Str} {sub_tn : List Value} {ab_tn : Bool} {col_tn : Option Bool} {dd_tn : Option Addr} {m0_tn m1_tn m2_tn m3_tn m5_tn : Option Value} {bm_tn : List Value}
    {f_Itn : Addr} {od_Itn an_Itn : Option Addr} {sl_Itn : Array (Option Value)} {oc_Itn kV_Itn dc_Itn pm_Itn ct_Itn cd_Itn : Value}
    {f_Ttn : Addr} {od_Ttn an_Ttn : Option Addr} {sl_Ttn : Array (Option Value)} {oc_Ttn kV_Ttn dc_Ttn pm_Ttn ct_Ttn cd_Ttn : Value}
    {nm_pt qn_pt : Str} {N_pt : Addr} {bs_pt : List Value} {sn_pt : List Str} {sub_pt : List Value} {ab_pt : Bool} {col_pt : Option Bool} {dd_pt : Option Addr} {m0_pt m1_pt m2_pt m3_pt m5_pt : Option Value} {bm_pt : List Value}
    {f_Ipt : Addr} {od_Ipt an_Ipt : Option Addr} {sl_Ipt : Array (Option Value)} {oc_Ipt kV_Ipt dc_Ipt pm_Ipt ct_Ipt cd_Ipt : Value}
    {f_Tpt : Addr} {od_Tpt an_Tpt : Option Addr} {sl_Tpt : Array (Option Value)} {oc_Tpt kV_Tpt dc_Tpt pm_Tpt ct_Tpt cd_Tpt : Value}
    {nm_pl qn_pl : Str} {N_pl : Addr} {bs_pl : List Value} {sn_pl : List Str} {sub_pl : List Value} {ab_pl : Bool} {col_pl : Option Bool} {dd_pl : Option Addr} {m0_pl m1_pl m2_pl m3_pl m5_pl : Option Value} {bm_pl : List Value}
    {f_Ipl : Addr} {od_Ipl an_Ipl : Option Addr} {sl_Ipl : Array (Option Value)} {oc_Ipl kV_Ipl dc_Ipl pm_Ipl ct_Ipl cd_Ipl : Value}
    {f_Tpl : Addr} {od_Tpl an_Tpl : Option Addr} {sl_Tpl : Array (Option Value)} {oc_Tpl kV_Tpl dc_Tpl pm_Tpl ct_Tpl cd_Tpl : Value}
    {nm_ob qn_ob : Str} {N_ob : Addr} {bs_ob : List Value} {sn_ob : List Str} {sub_ob : List Value} {ab_ob : Bool} {col_ob : Option Bool} {dd_ob : Option Addr} {m0_ob m1_ob m2_ob m3_ob m5_ob : Option Value} {bm_ob : List Value}
    {f_Iob : Addr} {od_Iob an_Iob : Option Addr} {sl_Iob : Array (Option Value)} {oc_Iob kV_Iob dc_Iob pm_Iob ct_Iob cd_Iob : Value}
    {f_Tob : Addr} {od_Tob an_Tob : Option Addr} {sl_Tob : Array (Option Value)} {oc_Tob kV_Tob dc_Tob pm_Tob ct_Tob cd_Tob : Value}
    {nm_ft qn_ft : Str} {N_ft : Addr} {bs_ft : List Value} {sn_ft : List Str} {sub_ft : List Value} {ab_ft : Bool} {col_ft : Option Bool} {dd_ft : Option Addr} {m0_ft m1_ft m2_ft m3_ft m5_ft : Option Value} {bm_ft : List Value}
    {f_Ift : Addr} {od_Ift an_Ift : Option Addr} {sl_Ift : Array (Option Value)} {oc_Ift kV_Ift dc_Ift pm_Ift ct_Ift cd_Ift : Value}
    {f_Tft : Addr} {od_Tft an_Tft : Option Addr} {sl_Tft : Array (Option Value)} {oc_Tft kV_Tft dc_Tft pm_Tft ct_Tft cd_Tft : Value}
    {nm_ct qn_ct : Str} {N_ct : Addr} {bs_ct : List Value} {sn_ct : List Str} {sub_ct : List Value} {ab_ct : Bool} {col_ct : Option Bool} {dd_ct : Option Addr} {m0_ct m1_ct m2_ct m3_ct m5_ct : Option Value} {bm_ct : List Value}
    {f_Ict : Addr} {od_Ict an_Ict : Option Addr} {sl_Ict : Array (Option Value)} {oc_Ict kV_Ict dc_Ict pm_Ict ct_Ict cd_Ict : Value}
    {f_Tct : Addr} {od_Tct an_Tct : Option Addr} {sl_Tct : Array (Option Value)} {oc_Tct kV_Tct dc_Tct pm_Tct ct_Tct cd_Tct : Value}
    {nm_nn qn_nn : Str} {N_nn : Addr} {bs_nn : List Value} {sn_nn : List Str} {sub_nn : List Value} {ab_nn : Bool} {col_nn : Option Bool} {dd_nn : Option Addr} {m0_nn m1_nn m2_nn m3_nn m5_nn : Option Value} {bm_nn : List Value}
    {f_Inn : Addr} {od_Inn an_Inn : Option Addr} {sl_Inn : Array (Option Value)} {oc_Inn kV_Inn dc_Inn pm_Inn ct_Inn cd_Inn : Value}
    {f_Tnn : Addr} {od_Tnn an_Tnn : Option Addr} {sl_Tnn : Array (Option Value)} {oc_Tnn kV_Tnn dc_Tnn pm_Tnn ct_Tnn cd_Tnn : Value}
    {nm_fl qn_fl : Str} {N_fl : Addr} {bs_fl : List Value} {sn_fl : List Str} {sub_fl : List Value} {ab_fl : Bool} {col_fl : Option Bool} {dd_fl : Option Addr} {m0_fl m1_fl m2_fl m3_fl m5_fl : Option Value} {bm_fl : List Value}
    {f_Ifl : Addr} {od_Ifl an_Ifl : Option Addr} {sl_Ifl : Array (Option Value)} {oc_Ifl kV_Ifl dc_Ifl pm_Ifl ct_Ifl cd_Ifl : Value}
    {f_Tfl : Addr} {od_Tfl an_Tfl : Option Addr} {sl_Tfl : Array (Option Value)} {oc_Tfl kV_Tfl dc_Tfl pm_Tfl ct_Tfl cd_Tfl : Value}
    {nm_bk qn_bk : Str} {N_bk : Addr} {bs_bk : List Value} {sn_bk : List Str} {sub_bk : List Value} {ab_bk : Bool} {col_bk : Option Bool} {dd_bk : Option Addr} {m0_bk m1_bk m2_bk m3_bk m5_bk : Option Value} {bm_bk : List Value}
    {f_Tbk : Addr} {od_Tbk an_Tbk : Option Addr} {sl_Tbk : Array (Option Value)} {oc_Tbk kV_Tbk dc_Tbk pm_Tbk ct_Tbk cd_Tbk : Value}
    {nm_tx qn_tx : Str} {N_tx : Addr} {bs_tx : List Value} {sn_tx : List Str} {sub_tx : List Value} {ab_tx : Bool} {col_tx : Option Bool} {dd_tx : Option Addr} {m0_tx m1_tx m2_tx m3_tx m5_tx : Option Value} {bm_tx : List Value}
    {f_Itx : Addr} {od_Itx an_Itx : Option Addr} {sl_Itx : Array (Option Value)} {oc_Itx kV_Itx dc_Itx pm_Itx ct_Itx cd_Itx : Value}
    {f_Ttx : Addr} {od_Ttx an_Ttx : Option Addr} {sl_Ttx : Array (Option Value)} {oc_Ttx kV_Ttx dc_Ttx pm_Ttx ct_Ttx cd_Ttx : Value}
    {f_Src : Addr} {od_Src an_Src : Option Addr} {sl_Src : Array (Option Value)} {oc_Src kV_Src dc_Src pm_Src ct_Src cd_Src : Value}
    {f_Drw : Addr} {od_Drw an_Drw : Option Addr} {sl_Drw : Array (Option Value)} {oc_Drw kV_Drw dc_Drw pm_Drw ct_Drw cd_Drw : Value}
    {f_Pik : Addr} {od_Pik an_Pik : Option Addr} {sl_Pik : Array (Option Value)} {oc_Pik kV_Pik dc_Pik pm_Pik ct_Pik cd_Pik : Value}
    {f_Pla : Addr} {od_Pla an_Pla : Option Addr} {sl_Pla : Array (Option Value)} {oc_Pla kV_Pla dc_Pla pm_Pla ct_Pla cd_Pla : Value}
    {f_Nam : Addr} {od_Nam an_Nam : Option Addr} {sl_Nam : Array (Option Value)} {oc_Nam kV_Nam dc_Nam pm_Nam ct_Nam cd_Nam : Value}
    {f_Fld : Addr} {od_Fld an_Fld : Option Addr} {sl_Fld : Array (Option Value)} {oc_Fld kV_Fld dc_Fld pm_Fld ct_Fld cd_Fld : Value}
    {f_Cls : Addr} {od_Cls an_Cls : Option Addr} {sl_Cls : Array (Option Value)} {oc_Cls kV_Cls dc_Cls pm_Cls ct_Cls cd_Cls : Value}
    {f_Rgt : Addr} {od_Rgt an_Rgt : Option Addr} {sl_Rgt : Array (Option Value)} {oc_Rgt kV_Rgt dc_Rgt pm_Rgt ct_Rgt cd_Rgt : Value}
    {f_Law : Addr} {od_Law an_Law : Option Addr} {sl_Law : Array (Option Value)} {oc_Law kV_Law dc_Law pm_Law ct_Law cd_Law : Value}
    (aN : PySem.W.nsIn K mainGlobals "NestError" = some (some (.ref cN)))
    (aC_vl : PySem.W.nsIn K mainGlobals "NoValue" = some (some (.ref cvl)))
    (xL_vl : K.lookup cvl = some (excClassObj nm_vl qn_vl cvl N_vl bs_vl bm_vl true sn_vl sub_vl ab_vl col_vl dd_vl m0_vl m1_vl m2_vl m3_vl m5_vl "ValueError.__new__"))
    (xv_vl : PySem.HandSPX.refsVE bm_vl = true)
    (sa_vl : PySem.W.findIn K (.ref cvl) "__setattr__" = some (some (.builtin "object.__setattr__")))
    (ga_vl : PySem.W.findIn K (.ref cvl) "__getattribute__" = some (some (.builtin "BaseException.__getattribute__")))
    (gg_vl : PySem.W.findIn K (.ref cvl) "__getattr__" = some none)
    (cl_vl : PySem.W.findIn K (.ref cvl) "__class__" = some (some (.builtin "object.__class__")))
    (no_vl_path : PySem.W.findIn K (.ref cvl) "path" = some none)
    (hd_vl : PySem.W.hasDictIn K cvl = true)
    (kC_vl : PySem.W.keepIn K (.ref cvl) = true)
    (eC_vl : PySem.W.subIn K (.ref cvl) (.type "BaseException") = some true)
    (tC_vl : PySem.W.typeIn K (.ref cvl) = some (.type "type"))
    (ob_vl : PySem.W.mroIn K cvl (.type "object") = some true)
    (a_Ivl : PySem.W.findIn K (.ref cvl) "__init__" = some (some (.ref f_Ivl)))
    (t_Ivl : PySem.W.typeIn K (.ref f_Ivl) = some (.type "function"))
    (l_Ivl : K.lookup f_Ivl = some ⟨oc_Ivl, od_Ivl, .func (PySem.W.fnOf "__init__" "NoValue.__init__" (defArgs sIvl) (defBody sIvl) (defScope sIvl) .none kV_Ivl dc_Ivl pm_Ivl an_Ivl cd_Ivl ct_Ivl), sl_Ivl⟩)
    (c_Ivl : PySem.W.codeIn K cd_Ivl "NoValue.__init__" = true)
    (k_Ivl : PySem.W.keepIn K (.ref f_Ivl) = true)
    (a_Tvl : PySem.W.findIn K (.ref cvl) "told" = some (some (.ref f_Tvl)))
    (i_Tvl : PySem.W.isFn K (.ref f_Tvl) = true)
    (l_Tvl : K.lookup f_Tvl = some ⟨oc_Tvl, od_Tvl, .func (PySem.W.fnOf "told" "NoValue.told" (defArgs sTvl) (defBody sTvl) (defScope sTvl) .none kV_Tvl dc_Tvl pm_Tvl an_Tvl cd_Tvl ct_Tvl), sl_Tvl⟩)
    (c_Tvl : PySem.W.codeIn K cd_Tvl "NoValue.told" = true)
    (k_Tvl : PySem.W.keepIn K (.ref f_Tvl) = true)
    (aC_lg : PySem.W.nsIn K mainGlobals "Large" = some (some (.ref clg)))
    (xL_lg : K.lookup clg = some (excClassObj nm_lg qn_lg clg N_lg bs_lg bm_lg true sn_lg sub_lg ab_lg col_lg dd_lg m0_lg m1_lg m2_lg m3_lg m5_lg "ValueError.__new__"))
    (xv_lg : PySem.HandSPX.refsVE bm_lg = true)
    (sa_lg : PySem.W.findIn K (.ref clg) "__setattr__" = some (some (.builtin "object.__setattr__")))
    (ga_lg : PySem.W.findIn K (.ref clg) "__getattribute__" = some (some (.builtin "BaseException.__getattribute__")))
    (gg_lg : PySem.W.findIn K (.ref clg) "__getattr__" = some none)
    (cl_lg : PySem.W.findIn K (.ref clg) "__class__" = some (some (.builtin "object.__class__")))
    (no_lg_what : PySem.W.findIn K (.ref clg) "what" = some none)
    (hd_lg : PySem.W.hasDictIn K clg = true)
    (kC_lg : PySem.W.keepIn K (.ref clg) = true)
    (eC_lg : PySem.W.subIn K (.ref clg) (.type "BaseException") = some true)
    (tC_lg : PySem.W.typeIn K (.ref clg) = some (.type "type"))
    (ob_lg : PySem.W.mroIn K clg (.type "object") = some true)
    (a_Ilg : PySem.W.findIn K (.ref clg) "__init__" = some (some (.ref f_Ilg)))
    (t_Ilg : PySem.W.typeIn K (.ref f_Ilg) = some (.type "function"))
    (l_Ilg : K.lookup f_Ilg = some ⟨oc_Ilg, od_Ilg, .func (PySem.W.fnOf "__init__" "Large.__init__" (defArgs sIlg) (defBody sIlg) (defScope sIlg) .none kV_Ilg dc_Ilg pm_Ilg an_Ilg cd_Ilg ct_Ilg), sl_Ilg⟩)
    (c_Ilg : PySem.W.codeIn K cd_Ilg "Large.__init__" = true)
    (k_Ilg : PySem.W.keepIn K (.ref f_Ilg) = true)
    (a_Tlg : PySem.W.findIn K (.ref clg) "told" = some (some (.ref f_Tlg)))
    (i_Tlg : PySem.W.isFn K (.ref f_Tlg) = true)
    (l_Tlg : K.lookup f_Tlg = some ⟨oc_Tlg, od_Tlg, .func (PySem.W.fnOf "told" "Large.told" (defArgs sTlg) (defBody sTlg) (defScope sTlg) .none kV_Tlg dc_Tlg pm_Tlg an_Tlg cd_Tlg ct_Tlg), sl_Tlg⟩)
    (c_Tlg : PySem.W.codeIn K cd_Tlg "Large.told" = true)
    (k_Tlg : PySem.W.keepIn K (.ref f_Tlg) = true)
    (aC_bt : PySem.W.nsIn K mainGlobals "NoBytes" = some (some (.ref cbt)))
    (xL_bt : K.lookup cbt = some (excClassObj nm_bt qn_bt cbt N_bt bs_bt bm_bt true sn_bt sub_bt ab_bt col_bt dd_bt m0_bt m1_bt m2_bt m3_bt m5_bt "ValueError.__new__"))
    (xv_bt : PySem.HandSPX.refsVE bm_bt = true)
    (sa_bt : PySem.W.findIn K (.ref cbt) "__setattr__" = some (some (.builtin "object.__setattr__")))
    (ga_bt : PySem.W.findIn K (.ref cbt) "__getattribute__" = some (some (.builtin "BaseException.__getattribute__")))
    (gg_bt : PySem.W.findIn K (.ref cbt) "__getattr__" = some none)
    (cl_bt : PySem.W.findIn K (.ref cbt) "__class__" = some (some (.builtin "object.__class__")))
    (no_bt_place : PySem.W.findIn K (.ref cbt) "place" = some none)
    (hd_bt : PySem.W.hasDictIn K cbt = true)
    (kC_bt : PySem.W.keepIn K (.ref cbt) = true)
    (eC_bt : PySem.W.subIn K (.ref cbt) (.type "BaseException") = some true)
    (tC_bt : PySem.W.typeIn K (.ref cbt) = some (.type "type"))
    (ob_bt : PySem.W.mroIn K cbt (.type "object") = some true)
    (a_Ibt : PySem.W.findIn K (.ref cbt) "__init__" = some (some (.ref f_Ibt)))
    (t_Ibt : PySem.W.typeIn K (.ref f_Ibt) = some (.type "function"))
    (l_Ibt : K.lookup f_Ibt = some ⟨oc_Ibt, od_Ibt, .func (PySem.W.fnOf "__init__" "NoBytes.__init__" (defArgs sIbt) (defBody sIbt) (defScope sIbt) .none kV_Ibt dc_Ibt pm_Ibt an_Ibt cd_Ibt ct_Ibt), sl_Ibt⟩)
    (c_Ibt : PySem.W.codeIn K cd_Ibt "NoBytes.__init__" = true)
    (k_Ibt : PySem.W.keepIn K (.ref f_Ibt) = true)
    (a_Tbt : PySem.W.findIn K (.ref cbt) "told" = some (some (.ref f_Tbt)))
    (i_Tbt : PySem.W.isFn K (.ref f_Tbt) = true)
    (l_Tbt : K.lookup f_Tbt = some ⟨oc_Tbt, od_Tbt, .func (PySem.W.fnOf "told" "NoBytes.told" (defArgs sTbt) (defBody sTbt) (defScope sTbt) .none kV_Tbt dc_Tbt pm_Tbt an_Tbt cd_Tbt ct_Tbt), sl_Tbt⟩)
    (c_Tbt : PySem.W.codeIn K cd_Tbt "NoBytes.told" = true)
    (k_Tbt : PySem.W.keepIn K (.ref f_Tbt) = true)
    (aC_tn : PySem.W.nsIn K mainGlobals "Torn" = some (some (.ref ctn)))
    (xL_tn : K.lookup ctn = some (excClassObj nm_tn qn_tn ctn N_tn bs_tn bm_tn true sn_tn sub_tn ab_tn col_tn dd_tn m0_tn m1_tn m2_tn m3_tn m5_tn "ValueError.__new__"))
    (xv_tn : PySem.HandSPX.refsVE bm_tn = true)
    (sa_tn : PySem.W.findIn K (.ref ctn) "__setattr__" = some (some (.builtin "object.__setattr__")))
    (ga_tn : PySem.W.findIn K (.ref ctn) "__getattribute__" = some (some (.builtin "BaseException.__getattribute__")))
    (gg_tn : PySem.W.findIn K (.ref ctn) "__getattr__" = some none)
    (cl_tn : PySem.W.findIn K (.ref ctn) "__class__" = some (some (.builtin "object.__class__")))
    (no_tn_word : PySem.W.findIn K (.ref ctn) "word" = some none)
    (no_tn_place : PySem.W.findIn K (.ref ctn) "place" = some none)
    (hd_tn : PySem.W.hasDictIn K ctn = true)
    (kC_tn : PySem.W.keepIn K (.ref ctn) = true)
    (eC_tn : PySem.W.subIn K (.ref ctn) (.type "BaseException") = some true)
    (tC_tn : PySem.W.typeIn K (.ref ctn) = some (.type "type"))
    (ob_tn : PySem.W.mroIn K ctn (.type "object") = some true)
    (a_Itn : PySem.W.findIn K (.ref ctn) "__init__" = some (some (.ref f_Itn)))
    (t_Itn : PySem.W.typeIn K (.ref f_Itn) = some (.type "function"))
    (l_Itn : K.lookup f_Itn = some ⟨oc_Itn, od_Itn, .func (PySem.W.fnOf "__init__" "Torn.__init__" (defArgs sItn) (defBody sItn) (defScope sItn) .none kV_Itn dc_Itn pm_Itn an_Itn cd_Itn ct_Itn), sl_Itn⟩)
    (c_Itn : PySem.W.codeIn K cd_Itn "Torn.__init__" = true)
    (k_Itn : PySem.W.keepIn K (.ref f_Itn) = true)
    (a_Ttn : PySem.W.findIn K (.ref ctn) "told" = some (some (.ref f_Ttn)))
    (i_Ttn : PySem.W.isFn K (.ref f_Ttn) = true)
    (l_Ttn : K.lookup f_Ttn = some ⟨oc_Ttn, od_Ttn, .func (PySem.W.fnOf "told" "Torn.told" (defArgs sTtn) (defBody sTtn) (defScope sTtn) .none kV_Ttn dc_Ttn pm_Ttn an_Ttn cd_Ttn ct_Ttn), sl_Ttn⟩)
    (c_Ttn : PySem.W.codeIn K cd_Ttn "Torn.told" = true)
    (k_Ttn : PySem.W.keepIn K (.ref f_Ttn) = true)
    (aC_pt : PySem.W.nsIn K mainGlobals "NoPart" = some (some (.ref cpt)))
    (xL_pt : K.lookup cpt = some (excClassObj nm_pt qn_pt cpt N_pt bs_pt bm_pt true sn_pt sub_pt ab_pt col_pt dd_pt m0_pt m1_pt m2_pt m3_pt m5_pt "ValueError.__new__"))
    (xv_pt : PySem.HandSPX.refsVE bm_pt = true)
    (sa_pt : PySem.W.findIn K (.ref cpt) "__setattr__" = some (some (.builtin "object.__setattr__")))
    (ga_pt : PySem.W.findIn K (.ref cpt) "__getattribute__" = some (some (.builtin "BaseException.__getattribute__")))
    (gg_pt : PySem.W.findIn K (.ref cpt) "__getattr__" = some none)
    (cl_pt : PySem.W.findIn K (.ref cpt) "__class__" = some (some (.builtin "object.__class__")))
    (no_pt_length : PySem.W.findIn K (.ref cpt) "length" = some none)
    (hd_pt : PySem.W.hasDictIn K cpt = true)
    (kC_pt : PySem.W.keepIn K (.ref cpt) = true)
    (eC_pt : PySem.W.subIn K (.ref cpt) (.type "BaseException") = some true)
    (tC_pt : PySem.W.typeIn K (.ref cpt) = some (.type "type"))
    (ob_pt : PySem.W.mroIn K cpt (.type "object") = some true)
    (a_Ipt : PySem.W.findIn K (.ref cpt) "__init__" = some (some (.ref f_Ipt)))
    (t_Ipt : PySem.W.typeIn K (.ref f_Ipt) = some (.type "function"))
    (l_Ipt : K.lookup f_Ipt = some ⟨oc_Ipt, od_Ipt, .func (PySem.W.fnOf "__init__" "NoPart.__init__" (defArgs sIpt) (defBody sIpt) (defScope sIpt) .none kV_Ipt dc_Ipt pm_Ipt an_Ipt cd_Ipt ct_Ipt), sl_Ipt⟩)
    (c_Ipt : PySem.W.codeIn K cd_Ipt "NoPart.__init__" = true)
    (k_Ipt : PySem.W.keepIn K (.ref f_Ipt) = true)
    (a_Tpt : PySem.W.findIn K (.ref cpt) "told" = some (some (.ref f_Tpt)))
    (i_Tpt : PySem.W.isFn K (.ref f_Tpt) = true)
    (l_Tpt : K.lookup f_Tpt = some ⟨oc_Tpt, od_Tpt, .func (PySem.W.fnOf "told" "NoPart.told" (defArgs sTpt) (defBody sTpt) (defScope sTpt) .none kV_Tpt dc_Tpt pm_Tpt an_Tpt cd_Tpt ct_Tpt), sl_Tpt⟩)
    (c_Tpt : PySem.W.codeIn K cd_Tpt "NoPart.told" = true)
    (k_Tpt : PySem.W.keepIn K (.ref f_Tpt) = true)
    (aC_pl : PySem.W.nsIn K mainGlobals "NoPlace" = some (some (.ref cpl)))
    (xL_pl : K.lookup cpl = some (excClassObj nm_pl qn_pl cpl N_pl bs_pl bm_pl true sn_pl sub_pl ab_pl col_pl dd_pl m0_pl m1_pl m2_pl m3_pl m5_pl "ValueError.__new__"))
    (xv_pl : PySem.HandSPX.refsVE bm_pl = true)
    (sa_pl : PySem.W.findIn K (.ref cpl) "__setattr__" = some (some (.builtin "object.__setattr__")))
    (ga_pl : PySem.W.findIn K (.ref cpl) "__getattribute__" = some (some (.builtin "BaseException.__getattribute__")))
    (gg_pl : PySem.W.findIn K (.ref cpl) "__getattr__" = some none)
    (cl_pl : PySem.W.findIn K (.ref cpl) "__class__" = some (some (.builtin "object.__class__")))
    (no_pl_place : PySem.W.findIn K (.ref cpl) "place" = some none)
    (hd_pl : PySem.W.hasDictIn K cpl = true)
    (kC_pl : PySem.W.keepIn K (.ref cpl) = true)
    (eC_pl : PySem.W.subIn K (.ref cpl) (.type "BaseException") = some true)
    (tC_pl : PySem.W.typeIn K (.ref cpl) = some (.type "type"))
    (ob_pl : PySem.W.mroIn K cpl (.type "object") = some true)
    (a_Ipl : PySem.W.findIn K (.ref cpl) "__init__" = some (some (.ref f_Ipl)))
    (t_Ipl : PySem.W.typeIn K (.ref f_Ipl) = some (.type "function"))
    (l_Ipl : K.lookup f_Ipl = some ⟨oc_Ipl, od_Ipl, .func (PySem.W.fnOf "__init__" "NoPlace.__init__" (defArgs sIpl) (defBody sIpl) (defScope sIpl) .none kV_Ipl dc_Ipl pm_Ipl an_Ipl cd_Ipl ct_Ipl), sl_Ipl⟩)
    (c_Ipl : PySem.W.codeIn K cd_Ipl "NoPlace.__init__" = true)
    (k_Ipl : PySem.W.keepIn K (.ref f_Ipl) = true)
    (a_Tpl : PySem.W.findIn K (.ref cpl) "told" = some (some (.ref f_Tpl)))
    (i_Tpl : PySem.W.isFn K (.ref f_Tpl) = true)
    (l_Tpl : K.lookup f_Tpl = some ⟨oc_Tpl, od_Tpl, .func (PySem.W.fnOf "told" "NoPlace.told" (defArgs sTpl) (defBody sTpl) (defScope sTpl) .none kV_Tpl dc_Tpl pm_Tpl an_Tpl cd_Tpl ct_Tpl), sl_Tpl⟩)
    (c_Tpl : PySem.W.codeIn K cd_Tpl "NoPlace.told" = true)
    (k_Tpl : PySem.W.keepIn K (.ref f_Tpl) = true)
    (aC_ob : PySem.W.nsIn K mainGlobals "NoObject" = some (some (.ref cob)))
    (xL_ob : K.lookup cob = some (excClassObj nm_ob qn_ob cob N_ob bs_ob bm_ob true sn_ob sub_ob ab_ob col_ob dd_ob m0_ob m1_ob m2_ob m3_ob m5_ob "ValueError.__new__"))
    (xv_ob : PySem.HandSPX.refsVE bm_ob = true)
    (sa_ob : PySem.W.findIn K (.ref cob) "__setattr__" = some (some (.builtin "object.__setattr__")))
    (ga_ob : PySem.W.findIn K (.ref cob) "__getattribute__" = some (some (.builtin "BaseException.__getattribute__")))
    (gg_ob : PySem.W.findIn K (.ref cob) "__getattr__" = some none)
    (cl_ob : PySem.W.findIn K (.ref cob) "__class__" = some (some (.builtin "object.__class__")))
    (no_ob_number : PySem.W.findIn K (.ref cob) "number" = some none)
    (hd_ob : PySem.W.hasDictIn K cob = true)
    (kC_ob : PySem.W.keepIn K (.ref cob) = true)
    (eC_ob : PySem.W.subIn K (.ref cob) (.type "BaseException") = some true)
    (tC_ob : PySem.W.typeIn K (.ref cob) = some (.type "type"))
    (ob_ob : PySem.W.mroIn K cob (.type "object") = some true)
    (a_Iob : PySem.W.findIn K (.ref cob) "__init__" = some (some (.ref f_Iob)))
    (t_Iob : PySem.W.typeIn K (.ref f_Iob) = some (.type "function"))
    (l_Iob : K.lookup f_Iob = some ⟨oc_Iob, od_Iob, .func (PySem.W.fnOf "__init__" "NoObject.__init__" (defArgs sIob) (defBody sIob) (defScope sIob) .none kV_Iob dc_Iob pm_Iob an_Iob cd_Iob ct_Iob), sl_Iob⟩)
    (c_Iob : PySem.W.codeIn K cd_Iob "NoObject.__init__" = true)
    (k_Iob : PySem.W.keepIn K (.ref f_Iob) = true)
    (a_Tob : PySem.W.findIn K (.ref cob) "told" = some (some (.ref f_Tob)))
    (i_Tob : PySem.W.isFn K (.ref f_Tob) = true)
    (l_Tob : K.lookup f_Tob = some ⟨oc_Tob, od_Tob, .func (PySem.W.fnOf "told" "NoObject.told" (defArgs sTob) (defBody sTob) (defScope sTob) .none kV_Tob dc_Tob pm_Tob an_Tob cd_Tob ct_Tob), sl_Tob⟩)
    (c_Tob : PySem.W.codeIn K cd_Tob "NoObject.told" = true)
    (k_Tob : PySem.W.keepIn K (.ref f_Tob) = true)
    (aC_ft : PySem.W.nsIn K mainGlobals "NoFit" = some (some (.ref cft)))
    (xL_ft : K.lookup cft = some (excClassObj nm_ft qn_ft cft N_ft bs_ft bm_ft true sn_ft sub_ft ab_ft col_ft dd_ft m0_ft m1_ft m2_ft m3_ft m5_ft "ValueError.__new__"))
    (xv_ft : PySem.HandSPX.refsVE bm_ft = true)
    (sa_ft : PySem.W.findIn K (.ref cft) "__setattr__" = some (some (.builtin "object.__setattr__")))
    (ga_ft : PySem.W.findIn K (.ref cft) "__getattribute__" = some (some (.builtin "BaseException.__getattribute__")))
    (gg_ft : PySem.W.findIn K (.ref cft) "__getattr__" = some none)
    (cl_ft : PySem.W.findIn K (.ref cft) "__class__" = some (some (.builtin "object.__class__")))
    (no_ft_length : PySem.W.findIn K (.ref cft) "length" = some none)
    (hd_ft : PySem.W.hasDictIn K cft = true)
    (kC_ft : PySem.W.keepIn K (.ref cft) = true)
    (eC_ft : PySem.W.subIn K (.ref cft) (.type "BaseException") = some true)
    (tC_ft : PySem.W.typeIn K (.ref cft) = some (.type "type"))
    (ob_ft : PySem.W.mroIn K cft (.type "object") = some true)
    (a_Ift : PySem.W.findIn K (.ref cft) "__init__" = some (some (.ref f_Ift)))
    (t_Ift : PySem.W.typeIn K (.ref f_Ift) = some (.type "function"))
    (l_Ift : K.lookup f_Ift = some ⟨oc_Ift, od_Ift, .func (PySem.W.fnOf "__init__" "NoFit.__init__" (defArgs sIft) (defBody sIft) (defScope sIft) .none kV_Ift dc_Ift pm_Ift an_Ift cd_Ift ct_Ift), sl_Ift⟩)
    (c_Ift : PySem.W.codeIn K cd_Ift "NoFit.__init__" = true)
    (k_Ift : PySem.W.keepIn K (.ref f_Ift) = true)
    (a_Tft : PySem.W.findIn K (.ref cft) "told" = some (some (.ref f_Tft)))
    (i_Tft : PySem.W.isFn K (.ref f_Tft) = true)
    (l_Tft : K.lookup f_Tft = some ⟨oc_Tft, od_Tft, .func (PySem.W.fnOf "told" "NoFit.told" (defArgs sTft) (defBody sTft) (defScope sTft) .none kV_Tft dc_Tft pm_Tft an_Tft cd_Tft ct_Tft), sl_Tft⟩)
    (c_Tft : PySem.W.codeIn K cd_Tft "NoFit.told" = true)
    (k_Tft : PySem.W.keepIn K (.ref f_Tft) = true)
    (aC_ct : PySem.W.nsIn K mainGlobals "BadCount" = some (some (.ref cct)))
    (xL_ct : K.lookup cct = some (excClassObj nm_ct qn_ct cct N_ct bs_ct bm_ct true sn_ct sub_ct ab_ct col_ct dd_ct m0_ct m1_ct m2_ct m3_ct m5_ct "ValueError.__new__"))
    (xv_ct : PySem.HandSPX.refsVE bm_ct = true)
    (sa_ct : PySem.W.findIn K (.ref cct) "__setattr__" = some (some (.builtin "object.__setattr__")))
    (ga_ct : PySem.W.findIn K (.ref cct) "__getattribute__" = some (some (.builtin "BaseException.__getattribute__")))
    (gg_ct : PySem.W.findIn K (.ref cct) "__getattr__" = some none)
    (cl_ct : PySem.W.findIn K (.ref cct) "__class__" = some (some (.builtin "object.__class__")))
    (no_ct_what : PySem.W.findIn K (.ref cct) "what" = some none)
    (no_ct_count : PySem.W.findIn K (.ref cct) "count" = some none)
    (hd_ct : PySem.W.hasDictIn K cct = true)
    (kC_ct : PySem.W.keepIn K (.ref cct) = true)
    (eC_ct : PySem.W.subIn K (.ref cct) (.type "BaseException") = some true)
    (tC_ct : PySem.W.typeIn K (.ref cct) = some (.type "type"))
    (ob_ct : PySem.W.mroIn K cct (.type "object") = some true)
    (a_Ict : PySem.W.findIn K (.ref cct) "__init__" = some (some (.ref f_Ict)))
    (t_Ict : PySem.W.typeIn K (.ref f_Ict) = some (.type "function"))
    (l_Ict : K.lookup f_Ict = some ⟨oc_Ict, od_Ict, .func (PySem.W.fnOf "__init__" "BadCount.__init__" (defArgs sIct) (defBody sIct) (defScope sIct) .none kV_Ict dc_Ict pm_Ict an_Ict cd_Ict ct_Ict), sl_Ict⟩)
    (c_Ict : PySem.W.codeIn K cd_Ict "BadCount.__init__" = true)
    (k_Ict : PySem.W.keepIn K (.ref f_Ict) = true)
    (a_Tct : PySem.W.findIn K (.ref cct) "told" = some (some (.ref f_Tct)))
    (i_Tct : PySem.W.isFn K (.ref f_Tct) = true)
    (l_Tct : K.lookup f_Tct = some ⟨oc_Tct, od_Tct, .func (PySem.W.fnOf "told" "BadCount.told" (defArgs sTct) (defBody sTct) (defScope sTct) .none kV_Tct dc_Tct pm_Tct an_Tct cd_Tct ct_Tct), sl_Tct⟩)
    (c_Tct : PySem.W.codeIn K cd_Tct "BadCount.told" = true)
    (k_Tct : PySem.W.keepIn K (.ref f_Tct) = true)
    (aC_nn : PySem.W.nsIn K mainGlobals "NoName" = some (some (.ref cnn)))
    (xL_nn : K.lookup cnn = some (excClassObj nm_nn qn_nn cnn N_nn bs_nn bm_nn true sn_nn sub_nn ab_nn col_nn dd_nn m0_nn m1_nn m2_nn m3_nn m5_nn "ValueError.__new__"))
    (xv_nn : PySem.HandSPX.refsVE bm_nn = true)
    (sa_nn : PySem.W.findIn K (.ref cnn) "__setattr__" = some (some (.builtin "object.__setattr__")))
    (ga_nn : PySem.W.findIn K (.ref cnn) "__getattribute__" = some (some (.builtin "BaseException.__getattribute__")))
    (gg_nn : PySem.W.findIn K (.ref cnn) "__getattr__" = some none)
    (cl_nn : PySem.W.findIn K (.ref cnn) "__class__" = some (some (.builtin "object.__class__")))
    (no_nn_name : PySem.W.findIn K (.ref cnn) "name" = some none)
    (hd_nn : PySem.W.hasDictIn K cnn = true)
    (kC_nn : PySem.W.keepIn K (.ref cnn) = true)
    (eC_nn : PySem.W.subIn K (.ref cnn) (.type "BaseException") = some true)
    (tC_nn : PySem.W.typeIn K (.ref cnn) = some (.type "type"))
    (ob_nn : PySem.W.mroIn K cnn (.type "object") = some true)
    (a_Inn : PySem.W.findIn K (.ref cnn) "__init__" = some (some (.ref f_Inn)))
    (t_Inn : PySem.W.typeIn K (.ref f_Inn) = some (.type "function"))
    (l_Inn : K.lookup f_Inn = some ⟨oc_Inn, od_Inn, .func (PySem.W.fnOf "__init__" "NoName.__init__" (defArgs sInn) (defBody sInn) (defScope sInn) .none kV_Inn dc_Inn pm_Inn an_Inn cd_Inn ct_Inn), sl_Inn⟩)
    (c_Inn : PySem.W.codeIn K cd_Inn "NoName.__init__" = true)
    (k_Inn : PySem.W.keepIn K (.ref f_Inn) = true)
    (a_Tnn : PySem.W.findIn K (.ref cnn) "told" = some (some (.ref f_Tnn)))
    (i_Tnn : PySem.W.isFn K (.ref f_Tnn) = true)
    (l_Tnn : K.lookup f_Tnn = some ⟨oc_Tnn, od_Tnn, .func (PySem.W.fnOf "told" "NoName.told" (defArgs sTnn) (defBody sTnn) (defScope sTnn) .none kV_Tnn dc_Tnn pm_Tnn an_Tnn cd_Tnn ct_Tnn), sl_Tnn⟩)
    (c_Tnn : PySem.W.codeIn K cd_Tnn "NoName.told" = true)
    (k_Tnn : PySem.W.keepIn K (.ref f_Tnn) = true)
    (aC_fl : PySem.W.nsIn K mainGlobals "NoFile" = some (some (.ref cfl)))
    (xL_fl : K.lookup cfl = some (excClassObj nm_fl qn_fl cfl N_fl bs_fl bm_fl true sn_fl sub_fl ab_fl col_fl dd_fl m0_fl m1_fl m2_fl m3_fl m5_fl "ValueError.__new__"))
    (xv_fl : PySem.HandSPX.refsVE bm_fl = true)
    (sa_fl : PySem.W.findIn K (.ref cfl) "__setattr__" = some (some (.builtin "object.__setattr__")))
    (ga_fl : PySem.W.findIn K (.ref cfl) "__getattribute__" = some (some (.builtin "BaseException.__getattribute__")))
    (gg_fl : PySem.W.findIn K (.ref cfl) "__getattr__" = some none)
    (cl_fl : PySem.W.findIn K (.ref cfl) "__class__" = some (some (.builtin "object.__class__")))
    (no_fl_name : PySem.W.findIn K (.ref cfl) "name" = some none)
    (hd_fl : PySem.W.hasDictIn K cfl = true)
    (kC_fl : PySem.W.keepIn K (.ref cfl) = true)
    (eC_fl : PySem.W.subIn K (.ref cfl) (.type "BaseException") = some true)
    (tC_fl : PySem.W.typeIn K (.ref cfl) = some (.type "type"))
    (ob_fl : PySem.W.mroIn K cfl (.type "object") = some true)
    (a_Ifl : PySem.W.findIn K (.ref cfl) "__init__" = some (some (.ref f_Ifl)))
    (t_Ifl : PySem.W.typeIn K (.ref f_Ifl) = some (.type "function"))
    (l_Ifl : K.lookup f_Ifl = some ⟨oc_Ifl, od_Ifl, .func (PySem.W.fnOf "__init__" "NoFile.__init__" (defArgs sIfl) (defBody sIfl) (defScope sIfl) .none kV_Ifl dc_Ifl pm_Ifl an_Ifl cd_Ifl ct_Ifl), sl_Ifl⟩)
    (c_Ifl : PySem.W.codeIn K cd_Ifl "NoFile.__init__" = true)
    (k_Ifl : PySem.W.keepIn K (.ref f_Ifl) = true)
    (a_Tfl : PySem.W.findIn K (.ref cfl) "told" = some (some (.ref f_Tfl)))
    (i_Tfl : PySem.W.isFn K (.ref f_Tfl) = true)
    (l_Tfl : K.lookup f_Tfl = some ⟨oc_Tfl, od_Tfl, .func (PySem.W.fnOf "told" "NoFile.told" (defArgs sTfl) (defBody sTfl) (defScope sTfl) .none kV_Tfl dc_Tfl pm_Tfl an_Tfl cd_Tfl ct_Tfl), sl_Tfl⟩)
    (c_Tfl : PySem.W.codeIn K cd_Tfl "NoFile.told" = true)
    (k_Tfl : PySem.W.keepIn K (.ref f_Tfl) = true)
    (aC_bk : PySem.W.nsIn K mainGlobals "NoBack" = some (some (.ref cbk)))
    (xL_bk : K.lookup cbk = some (excClassObj nm_bk qn_bk cbk N_bk bs_bk bm_bk true sn_bk sub_bk ab_bk col_bk dd_bk m0_bk m1_bk m2_bk m3_bk m5_bk "ValueError.__new__"))
    (xv_bk : PySem.HandSPX.refsVE bm_bk = true)
    (sa_bk : PySem.W.findIn K (.ref cbk) "__setattr__" = some (some (.builtin "object.__setattr__")))
    (ga_bk : PySem.W.findIn K (.ref cbk) "__getattribute__" = some (some (.builtin "BaseException.__getattribute__")))
    (gg_bk : PySem.W.findIn K (.ref cbk) "__getattr__" = some none)
    (cl_bk : PySem.W.findIn K (.ref cbk) "__class__" = some (some (.builtin "object.__class__")))
    (hd_bk : PySem.W.hasDictIn K cbk = true)
    (kC_bk : PySem.W.keepIn K (.ref cbk) = true)
    (eC_bk : PySem.W.subIn K (.ref cbk) (.type "BaseException") = some true)
    (tC_bk : PySem.W.typeIn K (.ref cbk) = some (.type "type"))
    (ob_bk : PySem.W.mroIn K cbk (.type "object") = some true)
    (a_Tbk : PySem.W.findIn K (.ref cbk) "told" = some (some (.ref f_Tbk)))
    (i_Tbk : PySem.W.isFn K (.ref f_Tbk) = true)
    (l_Tbk : K.lookup f_Tbk = some ⟨oc_Tbk, od_Tbk, .func (PySem.W.fnOf "told" "NoBack.told" (defArgs sTbk) (defBody sTbk) (defScope sTbk) .none kV_Tbk dc_Tbk pm_Tbk an_Tbk cd_Tbk ct_Tbk), sl_Tbk⟩)
    (c_Tbk : PySem.W.codeIn K cd_Tbk "NoBack.told" = true)
    (k_Tbk : PySem.W.keepIn K (.ref f_Tbk) = true)
    (aC_tx : PySem.W.nsIn K mainGlobals "BadText" = some (some (.ref ctx)))
    (xL_tx : K.lookup ctx = some (excClassObj nm_tx qn_tx ctx N_tx bs_tx bm_tx true sn_tx sub_tx ab_tx col_tx dd_tx m0_tx m1_tx m2_tx m3_tx m5_tx "ValueError.__new__"))
    (xv_tx : PySem.HandSPX.refsVE bm_tx = true)
    (sa_tx : PySem.W.findIn K (.ref ctx) "__setattr__" = some (some (.builtin "object.__setattr__")))
    (ga_tx : PySem.W.findIn K (.ref ctx) "__getattribute__" = some (some (.builtin "BaseException.__getattribute__")))
    (gg_tx : PySem.W.findIn K (.ref ctx) "__getattr__" = some none)
    (cl_tx : PySem.W.findIn K (.ref ctx) "__class__" = some (some (.builtin "object.__class__")))
    (no_tx_place : PySem.W.findIn K (.ref ctx) "place" = some none)
    (hd_tx : PySem.W.hasDictIn K ctx = true)
    (kC_tx : PySem.W.keepIn K (.ref ctx) = true)
    (eC_tx : PySem.W.subIn K (.ref ctx) (.type "BaseException") = some true)
    (tC_tx : PySem.W.typeIn K (.ref ctx) = some (.type "type"))
    (ob_tx : PySem.W.mroIn K ctx (.type "object") = some true)
    (a_Itx : PySem.W.findIn K (.ref ctx) "__init__" = some (some (.ref f_Itx)))
    (t_Itx : PySem.W.typeIn K (.ref f_Itx) = some (.type "function"))
    (l_Itx : K.lookup f_Itx = some ⟨oc_Itx, od_Itx, .func (PySem.W.fnOf "__init__" "BadText.__init__" (defArgs sItx) (defBody sItx) (defScope sItx) .none kV_Itx dc_Itx pm_Itx an_Itx cd_Itx ct_Itx), sl_Itx⟩)
    (c_Itx : PySem.W.codeIn K cd_Itx "BadText.__init__" = true)
    (k_Itx : PySem.W.keepIn K (.ref f_Itx) = true)
    (a_Ttx : PySem.W.findIn K (.ref ctx) "told" = some (some (.ref f_Ttx)))
    (i_Ttx : PySem.W.isFn K (.ref f_Ttx) = true)
    (l_Ttx : K.lookup f_Ttx = some ⟨oc_Ttx, od_Ttx, .func (PySem.W.fnOf "told" "BadText.told" (defArgs sTtx) (defBody sTtx) (defScope sTtx) .none kV_Ttx dc_Ttx pm_Ttx an_Ttx cd_Ttx ct_Ttx), sl_Ttx⟩)
    (c_Ttx : PySem.W.codeIn K cd_Ttx "BadText.told" = true)
    (k_Ttx : PySem.W.keepIn K (.ref f_Ttx) = true)
    (sp1 : PySem.W.specialIn K (.builtin "object.__class__") "__get__" = some (some (.builtin "getset_descriptor.__get__")))
    (tk1 : PySem.W.takesIn K (.builtin "object.__class__") = some true)
    (q_vl_lg : PySem.W.kitOne K (.ref cvl) (.ref clg) = some false)
    (q_vl_bt : PySem.W.kitOne K (.ref cvl) (.ref cbt) = some false)
    (q_vl_tn : PySem.W.kitOne K (.ref cvl) (.ref ctn) = some false)
    (q_vl_pt : PySem.W.kitOne K (.ref cvl) (.ref cpt) = some false)
    (q_vl_pl : PySem.W.kitOne K (.ref cvl) (.ref cpl) = some false)
    (q_vl_ob : PySem.W.kitOne K (.ref cvl) (.ref cob) = some false)
    (q_vl_ft : PySem.W.kitOne K (.ref cvl) (.ref cft) = some false)
    (q_vl_ct : PySem.W.kitOne K (.ref cvl) (.ref cct) = some false)
    (q_vl_nn : PySem.W.kitOne K (.ref cvl) (.ref cnn) = some false)
    (q_vl_fl : PySem.W.kitOne K (.ref cvl) (.ref cfl) = some false)
    (q_vl_bk : PySem.W.kitOne K (.ref cvl) (.ref cbk) = some false)
    (q_vl_tx : PySem.W.kitOne K (.ref cvl) (.ref ctx) = some false)
    (qN_vl : PySem.W.kitOne K (.ref cvl) (.ref cN) = some true)
    (qV_vl : PySem.W.kitOne K (.ref cvl) (.type "ValueError") = some true)
    (q_lg_vl : PySem.W.kitOne K (.ref clg) (.ref cvl) = some false)
    (q_lg_bt : PySem.W.kitOne K (.ref clg) (.ref cbt) = some false)
    (q_lg_tn : PySem.W.kitOne K (.ref clg) (.ref ctn) = some false)
    (q_lg_pt : PySem.W.kitOne K (.ref clg) (.ref cpt) = some false)
    (q_lg_pl : PySem.W.kitOne K (.ref clg) (.ref cpl) = some false)
    (q_lg_ob : PySem.W.kitOne K (.ref clg) (.ref cob) = some false)
    (q_lg_ft : PySem.W.kitOne K (.ref clg) (.ref cft) = some false)
    (q_lg_ct : PySem.W.kitOne K (.ref clg) (.ref cct) = some false)
    (q_lg_nn : PySem.W.kitOne K (.ref clg) (.ref cnn) = some false)
    (q_lg_fl : PySem.W.kitOne K (.ref clg) (.ref cfl) = some false)
    (q_lg_bk : PySem.W.kitOne K (.ref clg) (.ref cbk) = some false)
    (q_lg_tx : PySem.W.kitOne K (.ref clg) (.ref ctx) = some false)
    (qN_lg : PySem.W.kitOne K (.ref clg) (.ref cN) = some true)
    (qV_lg : PySem.W.kitOne K (.ref clg) (.type "ValueError") = some true)
    (q_bt_vl : PySem.W.kitOne K (.ref cbt) (.ref cvl) = some false)
    (q_bt_lg : PySem.W.kitOne K (.ref cbt) (.ref clg) = some false)
    (q_bt_tn : PySem.W.kitOne K (.ref cbt) (.ref ctn) = some false)
    (q_bt_pt : PySem.W.kitOne K (.ref cbt) (.ref cpt) = some false)
    (q_bt_pl : PySem.W.kitOne K (.ref cbt) (.ref cpl) = some false)
    (q_bt_ob : PySem.W.kitOne K (.ref cbt) (.ref cob) = some false)
    (q_bt_ft : PySem.W.kitOne K (.ref cbt) (.ref cft) = some false)
    (q_bt_ct : PySem.W.kitOne K (.ref cbt) (.ref cct) = some false)
    (q_bt_nn : PySem.W.kitOne K (.ref cbt) (.ref cnn) = some false)
    (q_bt_fl : PySem.W.kitOne K (.ref cbt) (.ref cfl) = some false)
    (q_bt_bk : PySem.W.kitOne K (.ref cbt) (.ref cbk) = some false)
    (q_bt_tx : PySem.W.kitOne K (.ref cbt) (.ref ctx) = some false)
    (qN_bt : PySem.W.kitOne K (.ref cbt) (.ref cN) = some true)
    (qV_bt : PySem.W.kitOne K (.ref cbt) (.type "ValueError") = some true)
    (q_tn_vl : PySem.W.kitOne K (.ref ctn) (.ref cvl) = some false)
    (q_tn_lg : PySem.W.kitOne K (.ref ctn) (.ref clg) = some false)
    (q_tn_bt : PySem.W.kitOne K (.ref ctn) (.ref cbt) = some false)
    (q_tn_pt : PySem.W.kitOne K (.ref ctn) (.ref cpt) = some false)
    (q_tn_pl : PySem.W.kitOne K (.ref ctn) (.ref cpl) = some false)
    (q_tn_ob : PySem.W.kitOne K (.ref ctn) (.ref cob) = some false)
    (q_tn_ft : PySem.W.kitOne K (.ref ctn) (.ref cft) = some false)
    (q_tn_ct : PySem.W.kitOne K (.ref ctn) (.ref cct) = some false)
    (q_tn_nn : PySem.W.kitOne K (.ref ctn) (.ref cnn) = some false)
    (q_tn_fl : PySem.W.kitOne K (.ref ctn) (.ref cfl) = some false)
    (q_tn_bk : PySem.W.kitOne K (.ref ctn) (.ref cbk) = some false)
    (q_tn_tx : PySem.W.kitOne K (.ref ctn) (.ref ctx) = some false)
    (qN_tn : PySem.W.kitOne K (.ref ctn) (.ref cN) = some true)
    (qV_tn : PySem.W.kitOne K (.ref ctn) (.type "ValueError") = some true)
    (q_pt_vl : PySem.W.kitOne K (.ref cpt) (.ref cvl) = some false)
    (q_pt_lg : PySem.W.kitOne K (.ref cpt) (.ref clg) = some false)
    (q_pt_bt : PySem.W.kitOne K (.ref cpt) (.ref cbt) = some false)
    (q_pt_tn : PySem.W.kitOne K (.ref cpt) (.ref ctn) = some false)
    (q_pt_pl : PySem.W.kitOne K (.ref cpt) (.ref cpl) = some false)
    (q_pt_ob : PySem.W.kitOne K (.ref cpt) (.ref cob) = some false)
    (q_pt_ft : PySem.W.kitOne K (.ref cpt) (.ref cft) = some false)
    (q_pt_ct : PySem.W.kitOne K (.ref cpt) (.ref cct) = some false)
    (q_pt_nn : PySem.W.kitOne K (.ref cpt) (.ref cnn) = some false)
    (q_pt_fl : PySem.W.kitOne K (.ref cpt) (.ref cfl) = some false)
    (q_pt_bk : PySem.W.kitOne K (.ref cpt) (.ref cbk) = some false)
    (q_pt_tx : PySem.W.kitOne K (.ref cpt) (.ref ctx) = some false)
    (qN_pt : PySem.W.kitOne K (.ref cpt) (.ref cN) = some true)
    (qV_pt : PySem.W.kitOne K (.ref cpt) (.type "ValueError") = some true)
    (q_pl_vl : PySem.W.kitOne K (.ref cpl) (.ref cvl) = some false)
    (q_pl_lg : PySem.W.kitOne K (.ref cpl) (.ref clg) = some false)
    (q_pl_bt : PySem.W.kitOne K (.ref cpl) (.ref cbt) = some false)
    (q_pl_tn : PySem.W.kitOne K (.ref cpl) (.ref ctn) = some false)
    (q_pl_pt : PySem.W.kitOne K (.ref cpl) (.ref cpt) = some false)
    (q_pl_ob : PySem.W.kitOne K (.ref cpl) (.ref cob) = some false)
    (q_pl_ft : PySem.W.kitOne K (.ref cpl) (.ref cft) = some false)
    (q_pl_ct : PySem.W.kitOne K (.ref cpl) (.ref cct) = some false)
    (q_pl_nn : PySem.W.kitOne K (.ref cpl) (.ref cnn) = some false)
    (q_pl_fl : PySem.W.kitOne K (.ref cpl) (.ref cfl) = some false)
    (q_pl_bk : PySem.W.kitOne K (.ref cpl) (.ref cbk) = some false)
    (q_pl_tx : PySem.W.kitOne K (.ref cpl) (.ref ctx) = some false)
    (qN_pl : PySem.W.kitOne K (.ref cpl) (.ref cN) = some true)
    (qV_pl : PySem.W.kitOne K (.ref cpl) (.type "ValueError") = some true)
    (q_ob_vl : PySem.W.kitOne K (.ref cob) (.ref cvl) = some false)
    (q_ob_lg : PySem.W.kitOne K (.ref cob) (.ref clg) = some false)
    (q_ob_bt : PySem.W.kitOne K (.ref cob) (.ref cbt) = some false)
    (q_ob_tn : PySem.W.kitOne K (.ref cob) (.ref ctn) = some false)
    (q_ob_pt : PySem.W.kitOne K (.ref cob) (.ref cpt) = some false)
    (q_ob_pl : PySem.W.kitOne K (.ref cob) (.ref cpl) = some false)
    (q_ob_ft : PySem.W.kitOne K (.ref cob) (.ref cft) = some false)
    (q_ob_ct : PySem.W.kitOne K (.ref cob) (.ref cct) = some false)
    (q_ob_nn : PySem.W.kitOne K (.ref cob) (.ref cnn) = some false)
    (q_ob_fl : PySem.W.kitOne K (.ref cob) (.ref cfl) = some false)
    (q_ob_bk : PySem.W.kitOne K (.ref cob) (.ref cbk) = some false)
    (q_ob_tx : PySem.W.kitOne K (.ref cob) (.ref ctx) = some false)
    (qN_ob : PySem.W.kitOne K (.ref cob) (.ref cN) = some true)
    (qV_ob : PySem.W.kitOne K (.ref cob) (.type "ValueError") = some true)
    (q_ft_vl : PySem.W.kitOne K (.ref cft) (.ref cvl) = some false)
    (q_ft_lg : PySem.W.kitOne K (.ref cft) (.ref clg) = some false)
    (q_ft_bt : PySem.W.kitOne K (.ref cft) (.ref cbt) = some false)
    (q_ft_tn : PySem.W.kitOne K (.ref cft) (.ref ctn) = some false)
    (q_ft_pt : PySem.W.kitOne K (.ref cft) (.ref cpt) = some false)
    (q_ft_pl : PySem.W.kitOne K (.ref cft) (.ref cpl) = some false)
    (q_ft_ob : PySem.W.kitOne K (.ref cft) (.ref cob) = some false)
    (q_ft_ct : PySem.W.kitOne K (.ref cft) (.ref cct) = some false)
    (q_ft_nn : PySem.W.kitOne K (.ref cft) (.ref cnn) = some false)
    (q_ft_fl : PySem.W.kitOne K (.ref cft) (.ref cfl) = some false)
    (q_ft_bk : PySem.W.kitOne K (.ref cft) (.ref cbk) = some false)
    (q_ft_tx : PySem.W.kitOne K (.ref cft) (.ref ctx) = some false)
    (qN_ft : PySem.W.kitOne K (.ref cft) (.ref cN) = some true)
    (qV_ft : PySem.W.kitOne K (.ref cft) (.type "ValueError") = some true)
    (q_ct_vl : PySem.W.kitOne K (.ref cct) (.ref cvl) = some false)
    (q_ct_lg : PySem.W.kitOne K (.ref cct) (.ref clg) = some false)
    (q_ct_bt : PySem.W.kitOne K (.ref cct) (.ref cbt) = some false)
    (q_ct_tn : PySem.W.kitOne K (.ref cct) (.ref ctn) = some false)
    (q_ct_pt : PySem.W.kitOne K (.ref cct) (.ref cpt) = some false)
    (q_ct_pl : PySem.W.kitOne K (.ref cct) (.ref cpl) = some false)
    (q_ct_ob : PySem.W.kitOne K (.ref cct) (.ref cob) = some false)
    (q_ct_ft : PySem.W.kitOne K (.ref cct) (.ref cft) = some false)
    (q_ct_nn : PySem.W.kitOne K (.ref cct) (.ref cnn) = some false)
    (q_ct_fl : PySem.W.kitOne K (.ref cct) (.ref cfl) = some false)
    (q_ct_bk : PySem.W.kitOne K (.ref cct) (.ref cbk) = some false)
    (q_ct_tx : PySem.W.kitOne K (.ref cct) (.ref ctx) = some false)
    (qN_ct : PySem.W.kitOne K (.ref cct) (.ref cN) = some true)
    (qV_ct : PySem.W.kitOne K (.ref cct) (.type "ValueError") = some true)
    (q_nn_vl : PySem.W.kitOne K (.ref cnn) (.ref cvl) = some false)
    (q_nn_lg : PySem.W.kitOne K (.ref cnn) (.ref clg) = some false)
    (q_nn_bt : PySem.W.kitOne K (.ref cnn) (.ref cbt) = some false)
    (q_nn_tn : PySem.W.kitOne K (.ref cnn) (.ref ctn) = some false)
    (q_nn_pt : PySem.W.kitOne K (.ref cnn) (.ref cpt) = some false)
    (q_nn_pl : PySem.W.kitOne K (.ref cnn) (.ref cpl) = some false)
    (q_nn_ob : PySem.W.kitOne K (.ref cnn) (.ref cob) = some false)
    (q_nn_ft : PySem.W.kitOne K (.ref cnn) (.ref cft) = some false)
    (q_nn_ct : PySem.W.kitOne K (.ref cnn) (.ref cct) = some false)
    (q_nn_fl : PySem.W.kitOne K (.ref cnn) (.ref cfl) = some false)
    (q_nn_bk : PySem.W.kitOne K (.ref cnn) (.ref cbk) = some false)
    (q_nn_tx : PySem.W.kitOne K (.ref cnn) (.ref ctx) = some false)
    (qN_nn : PySem.W.kitOne K (.ref cnn) (.ref cN) = some true)
    (qV_nn : PySem.W.kitOne K (.ref cnn) (.type "ValueError") = some true)
    (q_fl_vl : PySem.W.kitOne K (.ref cfl) (.ref cvl) = some false)
    (q_fl_lg : PySem.W.kitOne K (.ref cfl) (.ref clg) = some false)
    (q_fl_bt : PySem.W.kitOne K (.ref cfl) (.ref cbt) = some false)
    (q_fl_tn : PySem.W.kitOne K (.ref cfl) (.ref ctn) = some false)
    (q_fl_pt : PySem.W.kitOne K (.ref cfl) (.ref cpt) = some false)
    (q_fl_pl : PySem.W.kitOne K (.ref cfl) (.ref cpl) = some false)
    (q_fl_ob : PySem.W.kitOne K (.ref cfl) (.ref cob) = some false)
    (q_fl_ft : PySem.W.kitOne K (.ref cfl) (.ref cft) = some false)
    (q_fl_ct : PySem.W.kitOne K (.ref cfl) (.ref cct) = some false)
    (q_fl_nn : PySem.W.kitOne K (.ref cfl) (.ref cnn) = some false)
    (q_fl_bk : PySem.W.kitOne K (.ref cfl) (.ref cbk) = some false)
    (q_fl_tx : PySem.W.kitOne K (.ref cfl) (.ref ctx) = some false)
    (qN_fl : PySem.W.kitOne K (.ref cfl) (.ref cN) = some true)
    (qV_fl : PySem.W.kitOne K (.ref cfl) (.type "ValueError") = some true)
    (q_bk_vl : PySem.W.kitOne K (.ref cbk) (.ref cvl) = some false)
    (q_bk_lg : PySem.W.kitOne K (.ref cbk) (.ref clg) = some false)
    (q_bk_bt : PySem.W.kitOne K (.ref cbk) (.ref cbt) = some false)
    (q_bk_tn : PySem.W.kitOne K (.ref cbk) (.ref ctn) = some false)
    (q_bk_pt : PySem.W.kitOne K (.ref cbk) (.ref cpt) = some false)
    (q_bk_pl : PySem.W.kitOne K (.ref cbk) (.ref cpl) = some false)
    (q_bk_ob : PySem.W.kitOne K (.ref cbk) (.ref cob) = some false)
    (q_bk_ft : PySem.W.kitOne K (.ref cbk) (.ref cft) = some false)
    (q_bk_ct : PySem.W.kitOne K (.ref cbk) (.ref cct) = some false)
    (q_bk_nn : PySem.W.kitOne K (.ref cbk) (.ref cnn) = some false)
    (q_bk_fl : PySem.W.kitOne K (.ref cbk) (.ref cfl) = some false)
    (q_bk_tx : PySem.W.kitOne K (.ref cbk) (.ref ctx) = some false)
    (qN_bk : PySem.W.kitOne K (.ref cbk) (.ref cN) = some true)
    (qV_bk : PySem.W.kitOne K (.ref cbk) (.type "ValueError") = some true)
    (q_tx_vl : PySem.W.kitOne K (.ref ctx) (.ref cvl) = some false)
    (q_tx_lg : PySem.W.kitOne K (.ref ctx) (.ref clg) = some false)
    (q_tx_bt : PySem.W.kitOne K (.ref ctx) (.ref cbt) = some false)
    (q_tx_tn : PySem.W.kitOne K (.ref ctx) (.ref ctn) = some false)
    (q_tx_pt : PySem.W.kitOne K (.ref ctx) (.ref cpt) = some false)
    (q_tx_pl : PySem.W.kitOne K (.ref ctx) (.ref cpl) = some false)
    (q_tx_ob : PySem.W.kitOne K (.ref ctx) (.ref cob) = some false)
    (q_tx_ft : PySem.W.kitOne K (.ref ctx) (.ref cft) = some false)
    (q_tx_ct : PySem.W.kitOne K (.ref ctx) (.ref cct) = some false)
    (q_tx_nn : PySem.W.kitOne K (.ref ctx) (.ref cnn) = some false)
    (q_tx_fl : PySem.W.kitOne K (.ref ctx) (.ref cfl) = some false)
    (q_tx_bk : PySem.W.kitOne K (.ref ctx) (.ref cbk) = some false)
    (qN_tx : PySem.W.kitOne K (.ref ctx) (.ref cN) = some true)
    (qV_tx : PySem.W.kitOne K (.ref ctx) (.type "ValueError") = some true)
    (qE : PySem.W.kitOne K (.type "ValueError") (.ref cN) = some false)
    (ex0 : PySem.W.excIn K cbk [.type "ValueError", .type "Exception", .type "BaseException", .type "object"] "ValueError.__new__" = true)
    (a_Src : PySem.W.nsIn K mainGlobals "_law_source" = some (some (.ref f_Src)))
    (l_Src : K.lookup f_Src = some ⟨oc_Src, od_Src, .func (PySem.W.fnOf "_law_source" "_law_source" (defArgs sSrc) (defBody sSrc) (defScope sSrc) .none kV_Src dc_Src pm_Src an_Src cd_Src ct_Src), sl_Src⟩)
    (c_Src : PySem.W.codeIn K cd_Src "_law_source" = true)
    (k_Src : PySem.W.keepIn K (.ref f_Src) = true)
    (a_Drw : PySem.W.nsIn K mainGlobals "_law_draw" = some (some (.ref f_Drw)))
    (l_Drw : K.lookup f_Drw = some ⟨oc_Drw, od_Drw, .func (PySem.W.fnOf "_law_draw" "_law_draw" (defArgs sDrw) (defBody sDrw) (defScope sDrw) .none kV_Drw dc_Drw pm_Drw an_Drw cd_Drw ct_Drw), sl_Drw⟩)
    (c_Drw : PySem.W.codeIn K cd_Drw "_law_draw" = true)
    (k_Drw : PySem.W.keepIn K (.ref f_Drw) = true)
    (a_Pik : PySem.W.nsIn K mainGlobals "_law_pick" = some (some (.ref f_Pik)))
    (l_Pik : K.lookup f_Pik = some ⟨oc_Pik, od_Pik, .func (PySem.W.fnOf "_law_pick" "_law_pick" (defArgs sPik) (defBody sPik) (defScope sPik) .none kV_Pik dc_Pik pm_Pik an_Pik cd_Pik ct_Pik), sl_Pik⟩)
    (c_Pik : PySem.W.codeIn K cd_Pik "_law_pick" = true)
    (k_Pik : PySem.W.keepIn K (.ref f_Pik) = true)
    (a_Pla : PySem.W.nsIn K mainGlobals "_law_by_place" = some (some (.ref f_Pla)))
    (l_Pla : K.lookup f_Pla = some ⟨oc_Pla, od_Pla, .func (PySem.W.fnOf "_law_by_place" "_law_by_place" (defArgs sPla) (defBody sPla) (defScope sPla) .none kV_Pla dc_Pla pm_Pla an_Pla cd_Pla ct_Pla), sl_Pla⟩)
    (c_Pla : PySem.W.codeIn K cd_Pla "_law_by_place" = true)
    (k_Pla : PySem.W.keepIn K (.ref f_Pla) = true)
    (a_Nam : PySem.W.nsIn K mainGlobals "_law_by_name" = some (some (.ref f_Nam)))
    (l_Nam : K.lookup f_Nam = some ⟨oc_Nam, od_Nam, .func (PySem.W.fnOf "_law_by_name" "_law_by_name" (defArgs sNam) (defBody sNam) (defScope sNam) .none kV_Nam dc_Nam pm_Nam an_Nam cd_Nam ct_Nam), sl_Nam⟩)
    (c_Nam : PySem.W.codeIn K cd_Nam "_law_by_name" = true)
    (k_Nam : PySem.W.keepIn K (.ref f_Nam) = true)
    (a_Fld : PySem.W.nsIn K mainGlobals "_law_fields" = some (some (.ref f_Fld)))
    (l_Fld : K.lookup f_Fld = some ⟨oc_Fld, od_Fld, .func (PySem.W.fnOf "_law_fields" "_law_fields" (defArgs sFld) (defBody sFld) (defScope sFld) .none kV_Fld dc_Fld pm_Fld an_Fld cd_Fld ct_Fld), sl_Fld⟩)
    (c_Fld : PySem.W.codeIn K cd_Fld "_law_fields" = true)
    (k_Fld : PySem.W.keepIn K (.ref f_Fld) = true)
    (a_Cls : PySem.W.nsIn K mainGlobals "_law_classes" = some (some (.ref f_Cls)))
    (l_Cls : K.lookup f_Cls = some ⟨oc_Cls, od_Cls, .func (PySem.W.fnOf "_law_classes" "_law_classes" (defArgs sCls) (defBody sCls) (defScope sCls) .none kV_Cls dc_Cls pm_Cls an_Cls cd_Cls ct_Cls), sl_Cls⟩)
    (c_Cls : PySem.W.codeIn K cd_Cls "_law_classes" = true)
    (k_Cls : PySem.W.keepIn K (.ref f_Cls) = true)
    (a_Rgt : PySem.W.nsIn K mainGlobals "_law_right" = some (some (.ref f_Rgt)))
    (l_Rgt : K.lookup f_Rgt = some ⟨oc_Rgt, od_Rgt, .func (PySem.W.fnOf "_law_right" "_law_right" (defArgs sRgt) (defBody sRgt) (defScope sRgt) .none kV_Rgt dc_Rgt pm_Rgt an_Rgt cd_Rgt ct_Rgt), sl_Rgt⟩)
    (c_Rgt : PySem.W.codeIn K cd_Rgt "_law_right" = true)
    (k_Rgt : PySem.W.keepIn K (.ref f_Rgt) = true)
    (a_Law : PySem.W.nsIn K mainGlobals "law" = some (some (.ref f_Law)))
    (l_Law : K.lookup f_Law = some ⟨oc_Law, od_Law, .func (PySem.W.fnOf "law" "law" (defArgs sLaw) (defBody sLaw) (defScope sLaw) .none kV_Law dc_Law pm_Law an_Law cd_Law ct_Law), sl_Law⟩)
    (c_Law : PySem.W.codeIn K cd_Law "law" = true)
    (k_Law : PySem.W.keepIn K (.ref f_Law) = true)
    (z_isinstance : PySem.W.nsIn K mainGlobals "isinstance" = some none)
    (z_tuple : PySem.W.nsIn K mainGlobals "tuple" = some none)
    (z_list : PySem.W.nsIn K mainGlobals "list" = some none)
    (z_len : PySem.W.nsIn K mainGlobals "len" = some none)
    (z_abs : PySem.W.nsIn K mainGlobals "abs" = some none)
    (z_int : PySem.W.nsIn K mainGlobals "int" = some none)
    (z_repr : PySem.W.nsIn K mainGlobals "repr" = some none)
    (z_zip : PySem.W.nsIn K mainGlobals "zip" = some none)
    (z_ValueError : PySem.W.nsIn K mainGlobals "ValueError" = some none) :
    LawG l w K 5 63 "_law_script" mg fa := by
  have e := hfa.symm.trans (PySem.W.mg_of X G a_Law)
  cases e
  have F_Ivl := fun_mk (st := sIvl) l_Ivl c_Ivl k_Ivl
  have F_Tvl := fun_mk (st := sTvl) l_Tvl c_Tvl k_Tvl
  have b_Tvl := F_Tvl.binds (ps := ["self"]) fun _ _ _ _ _ _ us hl => len1 (C := fun us => bindArgs _ ⟨us, []⟩ = pure (List.zip [("self" : Str)] us)) (fun _ => rfl) us hl
  have F_Ilg := fun_mk (st := sIlg) l_Ilg c_Ilg k_Ilg
  have F_Tlg := fun_mk (st := sTlg) l_Tlg c_Tlg k_Tlg
  have b_Tlg := F_Tlg.binds (ps := ["self"]) fun _ _ _ _ _ _ us hl => len1 (C := fun us => bindArgs _ ⟨us, []⟩ = pure (List.zip [("self" : Str)] us)) (fun _ => rfl) us hl
  have F_Ibt := fun_mk (st := sIbt) l_Ibt c_Ibt k_Ibt
  have F_Tbt := fun_mk (st := sTbt) l_Tbt c_Tbt k_Tbt
  have b_Tbt := F_Tbt.binds (ps := ["self"]) fun _ _ _ _ _ _ us hl => len1 (C := fun us => bindArgs _ ⟨us, []⟩ = pure (List.zip [("self" : Str)] us)) (fun _ => rfl) us hl
  have F_Itn := fun_mk (st := sItn) l_Itn c_Itn k_Itn
  have F_Ttn := fun_mk (st := sTtn) l_Ttn c_Ttn k_Ttn
  have b_Ttn := F_Ttn.binds (ps := ["self"]) fun _ _ _ _ _ _ us hl => len1 (C := fun us => bindArgs _ ⟨us, []⟩ = pure (List.zip [("self" : Str)] us)) (fun _ => rfl) us hl
  have F_Ipt := fun_mk (st := sIpt) l_Ipt c_Ipt k_Ipt
  have F_Tpt := fun_mk (st := sTpt) l_Tpt c_Tpt k_Tpt
  have b_Tpt := F_Tpt.binds (ps := ["self"]) fun _ _ _ _ _ _ us hl => len1 (C := fun us => bindArgs _ ⟨us, []⟩ = pure (List.zip [("self" : Str)] us)) (fun _ => rfl) us hl
  have F_Ipl := fun_mk (st := sIpl) l_Ipl c_Ipl k_Ipl
  have F_Tpl := fun_mk (st := sTpl) l_Tpl c_Tpl k_Tpl
  have b_Tpl := F_Tpl.binds (ps := ["self"]) fun _ _ _ _ _ _ us hl => len1 (C := fun us => bindArgs _ ⟨us, []⟩ = pure (List.zip [("self" : Str)] us)) (fun _ => rfl) us hl
  have F_Iob := fun_mk (st := sIob) l_Iob c_Iob k_Iob
  have F_Tob := fun_mk (st := sTob) l_Tob c_Tob k_Tob
  have b_Tob := F_Tob.binds (ps := ["self"]) fun _ _ _ _ _ _ us hl => len1 (C := fun us => bindArgs _ ⟨us, []⟩ = pure (List.zip [("self" : Str)] us)) (fun _ => rfl) us hl
  have F_Ift := fun_mk (st := sIft) l_Ift c_Ift k_Ift
  have F_Tft := fun_mk (st := sTft) l_Tft c_Tft k_Tft
  have b_Tft := F_Tft.binds (ps := ["self"]) fun _ _ _ _ _ _ us hl => len1 (C := fun us => bindArgs _ ⟨us, []⟩ = pure (List.zip [("self" : Str)] us)) (fun _ => rfl) us hl
  have F_Ict := fun_mk (st := sIct) l_Ict c_Ict k_Ict
  have F_Tct := fun_mk (st := sTct) l_Tct c_Tct k_Tct
  have b_Tct := F_Tct.binds (ps := ["self"]) fun _ _ _ _ _ _ us hl => len1 (C := fun us => bindArgs _ ⟨us, []⟩ = pure (List.zip [("self" : Str)] us)) (fun _ => rfl) us hl
  have F_Inn := fun_mk (st := sInn) l_Inn c_Inn k_Inn
  have F_Tnn := fun_mk (st := sTnn) l_Tnn c_Tnn k_Tnn
  have b_Tnn := F_Tnn.binds (ps := ["self"]) fun _ _ _ _ _ _ us hl => len1 (C := fun us => bindArgs _ ⟨us, []⟩ = pure (List.zip [("self" : Str)] us)) (fun _ => rfl) us hl
  have F_Ifl := fun_mk (st := sIfl) l_Ifl c_Ifl k_Ifl
  have F_Tfl := fun_mk (st := sTfl) l_Tfl c_Tfl k_Tfl
  have b_Tfl := F_Tfl.binds (ps := ["self"]) fun _ _ _ _ _ _ us hl => len1 (C := fun us => bindArgs _ ⟨us, []⟩ = pure (List.zip [("self" : Str)] us)) (fun _ => rfl) us hl
  have F_Tbk := fun_mk (st := sTbk) l_Tbk c_Tbk k_Tbk
  have b_Tbk := F_Tbk.binds (ps := ["self"]) fun _ _ _ _ _ _ us hl => len1 (C := fun us => bindArgs _ ⟨us, []⟩ = pure (List.zip [("self" : Str)] us)) (fun _ => rfl) us hl
  have F_Itx := fun_mk (st := sItx) l_Itx c_Itx k_Itx
  have F_Ttx := fun_mk (st := sTtx) l_Ttx c_Ttx k_Ttx
  have b_Ttx := F_Ttx.binds (ps := ["self"]) fun _ _ _ _ _ _ us hl => len1 (C := fun us => bindArgs _ ⟨us, []⟩ = pure (List.zip [("self" : Str)] us)) (fun _ => rfl) us hl
  have F_Src := fun_mk (st := sSrc) l_Src c_Src k_Src
  have b_Src := F_Src.binds (ps := ["_law_cell"]) fun _ _ _ _ _ _ us hl => len1 (C := fun us => bindArgs _ ⟨us, []⟩ = pure (List.zip [("_law_cell" : Str)] us)) (fun _ => rfl) us hl
  have F_Drw := fun_mk (st := sDrw) l_Drw c_Drw k_Drw
  have b_Drw := F_Drw.binds (ps := ["_law_source_here", "_law_many"]) fun _ _ _ _ _ _ us hl => len2 (C := fun us => bindArgs _ ⟨us, []⟩ = pure (List.zip [("_law_source_here" : Str), ("_law_many" : Str)] us)) (fun _ _ => rfl) us hl
  have F_Pik := fun_mk (st := sPik) l_Pik c_Pik k_Pik
  have b_Pik := F_Pik.binds (ps := ["_law_source_here", "_law_items"]) fun _ _ _ _ _ _ us hl => len2 (C := fun us => bindArgs _ ⟨us, []⟩ = pure (List.zip [("_law_source_here" : Str), ("_law_items" : Str)] us)) (fun _ _ => rfl) us hl
  have F_Pla := fun_mk (st := sPla) l_Pla c_Pla k_Pla
  have b_Pla := F_Pla.binds (ps := ["_law_way", "_law_some_word", "_law_many"]) fun _ _ _ _ _ _ us hl => len3 (C := fun us => bindArgs _ ⟨us, []⟩ = pure (List.zip [("_law_way" : Str), ("_law_some_word" : Str), ("_law_many" : Str)] us)) (fun _ _ _ => rfl) us hl
  have F_Nam := fun_mk (st := sNam) l_Nam c_Nam k_Nam
  have b_Nam := F_Nam.binds (ps := ["_law_way", "_law_some_word", "_law_many"]) fun _ _ _ _ _ _ us hl => len3 (C := fun us => bindArgs _ ⟨us, []⟩ = pure (List.zip [("_law_way" : Str), ("_law_some_word" : Str), ("_law_many" : Str)] us)) (fun _ _ _ => rfl) us hl
  have F_Fld := fun_mk (st := sFld) l_Fld c_Fld k_Fld
  have b_Fld := F_Fld.binds (ps := ["_law_e", "_law_called"]) fun _ _ _ _ _ _ us hl => len2 (C := fun us => bindArgs _ ⟨us, []⟩ = pure (List.zip [("_law_e" : Str), ("_law_called" : Str)] us)) (fun _ _ => rfl) us hl
  have F_Cls := fun_mk (st := sCls) l_Cls c_Cls k_Cls
  have b_Cls := F_Cls.binds (ps := ["_law_e"]) fun _ _ _ _ _ _ us hl => len1 (C := fun us => bindArgs _ ⟨us, []⟩ = pure (List.zip [("_law_e" : Str)] us)) (fun _ => rfl) us hl
  have F_Rgt := fun_mk (st := sRgt) l_Rgt c_Rgt k_Rgt
  have b_Rgt := F_Rgt.binds (ps := ["_law_source_here"]) fun _ _ _ _ _ _ us hl => len1 (C := fun us => bindArgs _ ⟨us, []⟩ = pure (List.zip [("_law_source_here" : Str)] us)) (fun _ => rfl) us hl
  have F_Law := fun_mk (st := sLaw) l_Law c_Law k_Law
  have M := fun {n : Str} {v : Value} (q : PySem.W.nsIn K mainGlobals n = some (some v)) => PySem.W.mg_of X G q
  have M0 := fun {n : Str} (q : PySem.W.nsIn K mainGlobals n = some none) => PySem.W.mg_none_of X G q
  let a : Ad := ⟨cN, (Kd.pick cvl clg cbt ctn cpt cpl cob cft cct cnn cfl cbk ctx), (Kd.pick f_Ivl f_Ilg f_Ibt f_Itn f_Ipt f_Ipl f_Iob f_Ift f_Ict f_Inn f_Ifl cN f_Itx), (Kd.pick f_Tvl f_Tlg f_Tbt f_Ttn f_Tpt f_Tpl f_Tob f_Tft f_Tct f_Tnn f_Tfl f_Tbk f_Ttx)⟩
  let ld : Ld := ⟨f_Src, f_Drw, f_Pik, f_Pla, f_Nam, f_Fld, f_Cls, f_Rgt⟩
  have o_vl : OexC K cvl := ⟨⟨nm_vl, qn_vl, N_vl, bs_vl, bm_vl, sn_vl, sub_vl, ab_vl, col_vl, dd_vl, m0_vl, m1_vl, m2_vl, m3_vl, m5_vl, xL_vl, xv_vl⟩, sa_vl, eC_vl, tC_vl, kC_vl⟩
  have o_lg : OexC K clg := ⟨⟨nm_lg, qn_lg, N_lg, bs_lg, bm_lg, sn_lg, sub_lg, ab_lg, col_lg, dd_lg, m0_lg, m1_lg, m2_lg, m3_lg, m5_lg, xL_lg, xv_lg⟩, sa_lg, eC_lg, tC_lg, kC_lg⟩
  have o_bt : OexC K cbt := ⟨⟨nm_bt, qn_bt, N_bt, bs_bt, bm_bt, sn_bt, sub_bt, ab_bt, col_bt, dd_bt, m0_bt, m1_bt, m2_bt, m3_bt, m5_bt, xL_bt, xv_bt⟩, sa_bt, eC_bt, tC_bt, kC_bt⟩
  have o_tn : OexC K ctn := ⟨⟨nm_tn, qn_tn, N_tn, bs_tn, bm_tn, sn_tn, sub_tn, ab_tn, col_tn, dd_tn, m0_tn, m1_tn, m2_tn, m3_tn, m5_tn, xL_tn, xv_tn⟩, sa_tn, eC_tn, tC_tn, kC_tn⟩
  have o_pt : OexC K cpt := ⟨⟨nm_pt, qn_pt, N_pt, bs_pt, bm_pt, sn_pt, sub_pt, ab_pt, col_pt, dd_pt, m0_pt, m1_pt, m2_pt, m3_pt, m5_pt, xL_pt, xv_pt⟩, sa_pt, eC_pt, tC_pt, kC_pt⟩
  have o_pl : OexC K cpl := ⟨⟨nm_pl, qn_pl, N_pl, bs_pl, bm_pl, sn_pl, sub_pl, ab_pl, col_pl, dd_pl, m0_pl, m1_pl, m2_pl, m3_pl, m5_pl, xL_pl, xv_pl⟩, sa_pl, eC_pl, tC_pl, kC_pl⟩
  have o_ob : OexC K cob := ⟨⟨nm_ob, qn_ob, N_ob, bs_ob, bm_ob, sn_ob, sub_ob, ab_ob, col_ob, dd_ob, m0_ob, m1_ob, m2_ob, m3_ob, m5_ob, xL_ob, xv_ob⟩, sa_ob, eC_ob, tC_ob, kC_ob⟩
  have o_ft : OexC K cft := ⟨⟨nm_ft, qn_ft, N_ft, bs_ft, bm_ft, sn_ft, sub_ft, ab_ft, col_ft, dd_ft, m0_ft, m1_ft, m2_ft, m3_ft, m5_ft, xL_ft, xv_ft⟩, sa_ft, eC_ft, tC_ft, kC_ft⟩
  have o_ct : OexC K cct := ⟨⟨nm_ct, qn_ct, N_ct, bs_ct, bm_ct, sn_ct, sub_ct, ab_ct, col_ct, dd_ct, m0_ct, m1_ct, m2_ct, m3_ct, m5_ct, xL_ct, xv_ct⟩, sa_ct, eC_ct, tC_ct, kC_ct⟩
  have o_nn : OexC K cnn := ⟨⟨nm_nn, qn_nn, N_nn, bs_nn, bm_nn, sn_nn, sub_nn, ab_nn, col_nn, dd_nn, m0_nn, m1_nn, m2_nn, m3_nn, m5_nn, xL_nn, xv_nn⟩, sa_nn, eC_nn, tC_nn, kC_nn⟩
  have o_fl : OexC K cfl := ⟨⟨nm_fl, qn_fl, N_fl, bs_fl, bm_fl, sn_fl, sub_fl, ab_fl, col_fl, dd_fl, m0_fl, m1_fl, m2_fl, m3_fl, m5_fl, xL_fl, xv_fl⟩, sa_fl, eC_fl, tC_fl, kC_fl⟩
  have o_bk : OexC K cbk := ⟨⟨nm_bk, qn_bk, N_bk, bs_bk, bm_bk, sn_bk, sub_bk, ab_bk, col_bk, dd_bk, m0_bk, m1_bk, m2_bk, m3_bk, m5_bk, xL_bk, xv_bk⟩, sa_bk, eC_bk, tC_bk, kC_bk⟩
  have o_tx : OexC K ctx := ⟨⟨nm_tx, qn_tx, N_tx, bs_tx, bm_tx, sn_tx, sub_tx, ab_tx, col_tx, dd_tx, m0_tx, m1_tx, m2_tx, m3_tx, m5_tx, xL_tx, xv_tx⟩, sa_tx, eC_tx, tC_tx, kC_tx⟩
  have T : Txt K mg a := by
    refine ⟨M aN, (Kd.all' (M aC_vl) (M aC_lg) (M aC_bt) (M aC_tn) (M aC_pt) (M aC_pl) (M aC_ob) (M aC_ft) (M aC_ct) (M aC_nn) (M aC_fl) (M aC_bk) (M aC_tx)), (Kd.all' o_vl o_lg o_bt o_tn o_pt o_pl o_ob o_ft o_ct o_nn o_fl o_bk o_tx), (Kd.all' ⟨ga_vl, gg_vl, eC_vl, hd_vl⟩ ⟨ga_lg, gg_lg, eC_lg, hd_lg⟩ ⟨ga_bt, gg_bt, eC_bt, hd_bt⟩ ⟨ga_tn, gg_tn, eC_tn, hd_tn⟩ ⟨ga_pt, gg_pt, eC_pt, hd_pt⟩ ⟨ga_pl, gg_pl, eC_pl, hd_pl⟩ ⟨ga_ob, gg_ob, eC_ob, hd_ob⟩ ⟨ga_ft, gg_ft, eC_ft, hd_ft⟩ ⟨ga_ct, gg_ct, eC_ct, hd_ct⟩ ⟨ga_nn, gg_nn, eC_nn, hd_nn⟩ ⟨ga_fl, gg_fl, eC_fl, hd_fl⟩ ⟨ga_bk, gg_bk, eC_bk, hd_bk⟩ ⟨ga_tx, gg_tx, eC_tx, hd_tx⟩), (Kd.all' ⟨ga_vl, gg_vl, eC_vl, hd_vl, cl_vl, sp1, tk1, ob_vl⟩ ⟨ga_lg, gg_lg, eC_lg, hd_lg, cl_lg, sp1, tk1, ob_lg⟩ ⟨ga_bt, gg_bt, eC_bt, hd_bt, cl_bt, sp1, tk1, ob_bt⟩ ⟨ga_tn, gg_tn, eC_tn, hd_tn, cl_tn, sp1, tk1, ob_tn⟩ ⟨ga_pt, gg_pt, eC_pt, hd_pt, cl_pt, sp1, tk1, ob_pt⟩ ⟨ga_pl, gg_pl, eC_pl, hd_pl, cl_pl, sp1, tk1, ob_pl⟩ ⟨ga_ob, gg_ob, eC_ob, hd_ob, cl_ob, sp1, tk1, ob_ob⟩ ⟨ga_ft, gg_ft, eC_ft, hd_ft, cl_ft, sp1, tk1, ob_ft⟩ ⟨ga_ct, gg_ct, eC_ct, hd_ct, cl_ct, sp1, tk1, ob_ct⟩ ⟨ga_nn, gg_nn, eC_nn, hd_nn, cl_nn, sp1, tk1, ob_nn⟩ ⟨ga_fl, gg_fl, eC_fl, hd_fl, cl_fl, sp1, tk1, ob_fl⟩ ⟨ga_bk, gg_bk, eC_bk, hd_bk, cl_bk, sp1, tk1, ob_bk⟩ ⟨ga_tx, gg_tx, eC_tx, hd_tx, cl_tx, sp1, tk1, ob_tx⟩), (Kd.all' (fun _ => a_Ivl) (fun _ => a_Ilg) (fun _ => a_Ibt) (fun _ => a_Itn) (fun _ => a_Ipt) (fun _ => a_Ipl) (fun _ => a_Iob) (fun _ => a_Ift) (fun _ => a_Ict) (fun _ => a_Inn) (fun _ => a_Ifl) (fun z => absurd rfl z) (fun _ => a_Itx)), (Kd.all' (fun _ => t_Ivl) (fun _ => t_Ilg) (fun _ => t_Ibt) (fun _ => t_Itn) (fun _ => t_Ipt) (fun _ => t_Ipl) (fun _ => t_Iob) (fun _ => t_Ift) (fun _ => t_Ict) (fun _ => t_Inn) (fun _ => t_Ifl) (fun z => absurd rfl z) (fun _ => t_Itx)), ?no, (Kd.all' a_Tvl a_Tlg a_Tbt a_Ttn a_Tpt a_Tpl a_Tob a_Tft a_Tct a_Tnn a_Tfl a_Tbk a_Ttx), (Kd.all' i_Tvl i_Tlg i_Tbt i_Ttn i_Tpt i_Tpl i_Tob i_Tft i_Tct i_Tnn i_Tfl i_Tbk i_Ttx), (Kd.all' (Kd.all' kit_refl q_vl_lg q_vl_bt q_vl_tn q_vl_pt q_vl_pl q_vl_ob q_vl_ft q_vl_ct q_vl_nn q_vl_fl q_vl_bk q_vl_tx) (Kd.all' q_lg_vl kit_refl q_lg_bt q_lg_tn q_lg_pt q_lg_pl q_lg_ob q_lg_ft q_lg_ct q_lg_nn q_lg_fl q_lg_bk q_lg_tx) (Kd.all' q_bt_vl q_bt_lg kit_refl q_bt_tn q_bt_pt q_bt_pl q_bt_ob q_bt_ft q_bt_ct q_bt_nn q_bt_fl q_bt_bk q_bt_tx) (Kd.all' q_tn_vl q_tn_lg q_tn_bt kit_refl q_tn_pt q_tn_pl q_tn_ob q_tn_ft q_tn_ct q_tn_nn q_tn_fl q_tn_bk q_tn_tx) (Kd.all' q_pt_vl q_pt_lg q_pt_bt q_pt_tn kit_refl q_pt_pl q_pt_ob q_pt_ft q_pt_ct q_pt_nn q_pt_fl q_pt_bk q_pt_tx) (Kd.all' q_pl_vl q_pl_lg q_pl_bt q_pl_tn q_pl_pt kit_refl q_pl_ob q_pl_ft q_pl_ct q_pl_nn q_pl_fl q_pl_bk q_pl_tx) (Kd.all' q_ob_vl q_ob_lg q_ob_bt q_ob_tn q_ob_pt q_ob_pl kit_refl q_ob_ft q_ob_ct q_ob_nn q_ob_fl q_ob_bk q_ob_tx) (Kd.all' q_ft_vl q_ft_lg q_ft_bt q_ft_tn q_ft_pt q_ft_pl q_ft_ob kit_refl q_ft_ct q_ft_nn q_ft_fl q_ft_bk q_ft_tx) (Kd.all' q_ct_vl q_ct_lg q_ct_bt q_ct_tn q_ct_pt q_ct_pl q_ct_ob q_ct_ft kit_refl q_ct_nn q_ct_fl q_ct_bk q_ct_tx) (Kd.all' q_nn_vl q_nn_lg q_nn_bt q_nn_tn q_nn_pt q_nn_pl q_nn_ob q_nn_ft q_nn_ct kit_refl q_nn_fl q_nn_bk q_nn_tx) (Kd.all' q_fl_vl q_fl_lg q_fl_bt q_fl_tn q_fl_pt q_fl_pl q_fl_ob q_fl_ft q_fl_ct q_fl_nn kit_refl q_fl_bk q_fl_tx) (Kd.all' q_bk_vl q_bk_lg q_bk_bt q_bk_tn q_bk_pt q_bk_pl q_bk_ob q_bk_ft q_bk_ct q_bk_nn q_bk_fl kit_refl q_bk_tx) (Kd.all' q_tx_vl q_tx_lg q_tx_bt q_tx_tn q_tx_pt q_tx_pl q_tx_ob q_tx_ft q_tx_ct q_tx_nn q_tx_fl q_tx_bk kit_refl)), (Kd.all' qN_vl qN_lg qN_bt qN_tn qN_pt qN_pl qN_ob qN_ft qN_ct qN_nn qN_fl qN_bk qN_tx), (Kd.all' qV_vl qV_lg qV_bt qV_tn qV_pt qV_pl qV_ob qV_ft qV_ct qV_nn qV_fl qV_bk qV_tx), qE, ex0, M0 z_isinstance, M0 z_tuple, M0 z_list, M0 z_len, M0 z_abs, M0 z_int, M0 z_repr, M0 z_zip, M0 z_ValueError⟩
    case no =>
      intro k f hf
      cases k
      case vl =>
        simp only [Kd.fs, List.mem_cons, List.not_mem_nil, or_false] at hf
        subst hf
        exact no_vl_path
      case lg =>
        simp only [Kd.fs, List.mem_cons, List.not_mem_nil, or_false] at hf
        subst hf
        exact no_lg_what
      case bt =>
        simp only [Kd.fs, List.mem_cons, List.not_mem_nil, or_false] at hf
        subst hf
        exact no_bt_place
      case tn =>
        simp only [Kd.fs, List.mem_cons, List.not_mem_nil, or_false] at hf
        rcases hf with rfl | rfl
        · exact no_tn_word
        · exact no_tn_place
      case pt =>
        simp only [Kd.fs, List.mem_cons, List.not_mem_nil, or_false] at hf
        subst hf
        exact no_pt_length
      case pl =>
        simp only [Kd.fs, List.mem_cons, List.not_mem_nil, or_false] at hf
        subst hf
        exact no_pl_place
      case ob =>
        simp only [Kd.fs, List.mem_cons, List.not_mem_nil, or_false] at hf
        subst hf
        exact no_ob_number
      case ft =>
        simp only [Kd.fs, List.mem_cons, List.not_mem_nil, or_false] at hf
        subst hf
        exact no_ft_length
      case ct =>
        simp only [Kd.fs, List.mem_cons, List.not_mem_nil, or_false] at hf
        rcases hf with rfl | rfl
        · exact no_ct_what
        · exact no_ct_count
      case nn =>
        simp only [Kd.fs, List.mem_cons, List.not_mem_nil, or_false] at hf
        subst hf
        exact no_nn_name
      case fl =>
        simp only [Kd.fs, List.mem_cons, List.not_mem_nil, or_false] at hf
        subst hf
        exact no_fl_name
      case bk =>
        cases hf
      case tx =>
        simp only [Kd.fs, List.mem_cons, List.not_mem_nil, or_false] at hf
        subst hf
        exact no_tx_place
  have L : LTx mg ld := ⟨M a_Src, M a_Drw, M a_Pik, M a_Pla, M a_Nam, M a_Fld, M a_Cls, M a_Rgt⟩
  have LD : LDf K ld := ⟨_, _, _, _, _, _, _, _, F_Src, b_Src, F_Drw, b_Drw, F_Pik, b_Pik, F_Pla, b_Pla, F_Nam, b_Nam, F_Fld, b_Fld, F_Cls, b_Cls, F_Rgt, b_Rgt⟩
  have kb_vl := kbn_of (ps := ["self", "path"]) (ks := []) (n := 2) F_Ivl (fun {_} us _ => us) (fun r _ => r) (fun _ _ _ _ _ _ us ws h1 h2 => len2 (C := fun us => bindArgs (PySem.W.fnOf "__init__" "NoValue.__init__" (defArgs sIvl) (defBody sIvl) (defScope sIvl) .none _ _ _ _ _ _) ⟨us, []⟩ = pure (List.zip [("self" : Str), ("path" : Str)] us)) (fun _ _ => rfl) us h1)
  have kk_vl := kbn_of (ps := ["self", "path"]) (ks := ["path"]) (n := 1) F_Ivl (fun {_} us ws => us ++ ws) (fun r t => r.append t) (fun _ _ _ _ _ _ us ws h1 h2 => len1 (C := fun us => bindArgs (PySem.W.fnOf "__init__" "NoValue.__init__" (defArgs sIvl) (defBody sIvl) (defScope sIvl) .none _ _ _ _ _ _) ⟨us, List.zip [("path" : Str)] ws⟩ = pure (List.zip [("self" : Str), ("path" : Str)] (us ++ ws))) (fun a => len1 (C := fun ws => bindArgs (PySem.W.fnOf "__init__" "NoValue.__init__" (defArgs sIvl) (defBody sIvl) (defScope sIvl) .none _ _ _ _ _ _) ⟨[a], List.zip [("path" : Str)] ws⟩ = pure (List.zip [("self" : Str), ("path" : Str)] ([a] ++ ws))) (fun _ => rfl) ws h2) us h1)
  have kb_lg := kbn_of (ps := ["self", "what"]) (ks := []) (n := 2) F_Ilg (fun {_} us _ => us) (fun r _ => r) (fun _ _ _ _ _ _ us ws h1 h2 => len2 (C := fun us => bindArgs (PySem.W.fnOf "__init__" "Large.__init__" (defArgs sIlg) (defBody sIlg) (defScope sIlg) .none _ _ _ _ _ _) ⟨us, []⟩ = pure (List.zip [("self" : Str), ("what" : Str)] us)) (fun _ _ => rfl) us h1)
  have kk_lg := kbn_of (ps := ["self", "what"]) (ks := ["what"]) (n := 1) F_Ilg (fun {_} us ws => us ++ ws) (fun r t => r.append t) (fun _ _ _ _ _ _ us ws h1 h2 => len1 (C := fun us => bindArgs (PySem.W.fnOf "__init__" "Large.__init__" (defArgs sIlg) (defBody sIlg) (defScope sIlg) .none _ _ _ _ _ _) ⟨us, List.zip [("what" : Str)] ws⟩ = pure (List.zip [("self" : Str), ("what" : Str)] (us ++ ws))) (fun a => len1 (C := fun ws => bindArgs (PySem.W.fnOf "__init__" "Large.__init__" (defArgs sIlg) (defBody sIlg) (defScope sIlg) .none _ _ _ _ _ _) ⟨[a], List.zip [("what" : Str)] ws⟩ = pure (List.zip [("self" : Str), ("what" : Str)] ([a] ++ ws))) (fun _ => rfl) ws h2) us h1)
  have kb_bt := kbn_of (ps := ["self", "place"]) (ks := []) (n := 2) F_Ibt (fun {_} us _ => us) (fun r _ => r) (fun _ _ _ _ _ _ us ws h1 h2 => len2 (C := fun us => bindArgs (PySem.W.fnOf "__init__" "NoBytes.__init__" (defArgs sIbt) (defBody sIbt) (defScope sIbt) .none _ _ _ _ _ _) ⟨us, []⟩ = pure (List.zip [("self" : Str), ("place" : Str)] us)) (fun _ _ => rfl) us h1)
  have kk_bt := kbn_of (ps := ["self", "place"]) (ks := ["place"]) (n := 1) F_Ibt (fun {_} us ws => us ++ ws) (fun r t => r.append t) (fun _ _ _ _ _ _ us ws h1 h2 => len1 (C := fun us => bindArgs (PySem.W.fnOf "__init__" "NoBytes.__init__" (defArgs sIbt) (defBody sIbt) (defScope sIbt) .none _ _ _ _ _ _) ⟨us, List.zip [("place" : Str)] ws⟩ = pure (List.zip [("self" : Str), ("place" : Str)] (us ++ ws))) (fun a => len1 (C := fun ws => bindArgs (PySem.W.fnOf "__init__" "NoBytes.__init__" (defArgs sIbt) (defBody sIbt) (defScope sIbt) .none _ _ _ _ _ _) ⟨[a], List.zip [("place" : Str)] ws⟩ = pure (List.zip [("self" : Str), ("place" : Str)] ([a] ++ ws))) (fun _ => rfl) ws h2) us h1)
  have kb_tn := kbn_of (ps := ["self", "word", "place"]) (ks := []) (n := 3) F_Itn (fun {_} us _ => us) (fun r _ => r) (fun _ _ _ _ _ _ us ws h1 h2 => len3 (C := fun us => bindArgs (PySem.W.fnOf "__init__" "Torn.__init__" (defArgs sItn) (defBody sItn) (defScope sItn) .none _ _ _ _ _ _) ⟨us, []⟩ = pure (List.zip [("self" : Str), ("word" : Str), ("place" : Str)] us)) (fun _ _ _ => rfl) us h1)
  have kk_tn := kbn_of (ps := ["self", "word", "place"]) (ks := ["place", "word"]) (n := 1) F_Itn (fun {_} us ws => us ++ ws.reverse) (fun r t => r.append (vals_rev2 t)) (fun _ _ _ _ _ _ us ws h1 h2 => len1 (C := fun us => bindArgs (PySem.W.fnOf "__init__" "Torn.__init__" (defArgs sItn) (defBody sItn) (defScope sItn) .none _ _ _ _ _ _) ⟨us, List.zip [("place" : Str), ("word" : Str)] ws⟩ = pure (List.zip [("self" : Str), ("word" : Str), ("place" : Str)] (us ++ ws.reverse))) (fun a => len2 (C := fun ws => bindArgs (PySem.W.fnOf "__init__" "Torn.__init__" (defArgs sItn) (defBody sItn) (defScope sItn) .none _ _ _ _ _ _) ⟨[a], List.zip [("place" : Str), ("word" : Str)] ws⟩ = pure (List.zip [("self" : Str), ("word" : Str), ("place" : Str)] ([a] ++ ws.reverse))) (fun _ _ => rfl) ws h2) us h1)
  have kb_pt := kbn_of (ps := ["self", "length"]) (ks := []) (n := 2) F_Ipt (fun {_} us _ => us) (fun r _ => r) (fun _ _ _ _ _ _ us ws h1 h2 => len2 (C := fun us => bindArgs (PySem.W.fnOf "__init__" "NoPart.__init__" (defArgs sIpt) (defBody sIpt) (defScope sIpt) .none _ _ _ _ _ _) ⟨us, []⟩ = pure (List.zip [("self" : Str), ("length" : Str)] us)) (fun _ _ => rfl) us h1)
  have kk_pt := kbn_of (ps := ["self", "length"]) (ks := ["length"]) (n := 1) F_Ipt (fun {_} us ws => us ++ ws) (fun r t => r.append t) (fun _ _ _ _ _ _ us ws h1 h2 => len1 (C := fun us => bindArgs (PySem.W.fnOf "__init__" "NoPart.__init__" (defArgs sIpt) (defBody sIpt) (defScope sIpt) .none _ _ _ _ _ _) ⟨us, List.zip [("length" : Str)] ws⟩ = pure (List.zip [("self" : Str), ("length" : Str)] (us ++ ws))) (fun a => len1 (C := fun ws => bindArgs (PySem.W.fnOf "__init__" "NoPart.__init__" (defArgs sIpt) (defBody sIpt) (defScope sIpt) .none _ _ _ _ _ _) ⟨[a], List.zip [("length" : Str)] ws⟩ = pure (List.zip [("self" : Str), ("length" : Str)] ([a] ++ ws))) (fun _ => rfl) ws h2) us h1)
  have kb_pl := kbn_of (ps := ["self", "place"]) (ks := []) (n := 2) F_Ipl (fun {_} us _ => us) (fun r _ => r) (fun _ _ _ _ _ _ us ws h1 h2 => len2 (C := fun us => bindArgs (PySem.W.fnOf "__init__" "NoPlace.__init__" (defArgs sIpl) (defBody sIpl) (defScope sIpl) .none _ _ _ _ _ _) ⟨us, []⟩ = pure (List.zip [("self" : Str), ("place" : Str)] us)) (fun _ _ => rfl) us h1)
  have kk_pl := kbn_of (ps := ["self", "place"]) (ks := ["place"]) (n := 1) F_Ipl (fun {_} us ws => us ++ ws) (fun r t => r.append t) (fun _ _ _ _ _ _ us ws h1 h2 => len1 (C := fun us => bindArgs (PySem.W.fnOf "__init__" "NoPlace.__init__" (defArgs sIpl) (defBody sIpl) (defScope sIpl) .none _ _ _ _ _ _) ⟨us, List.zip [("place" : Str)] ws⟩ = pure (List.zip [("self" : Str), ("place" : Str)] (us ++ ws))) (fun a => len1 (C := fun ws => bindArgs (PySem.W.fnOf "__init__" "NoPlace.__init__" (defArgs sIpl) (defBody sIpl) (defScope sIpl) .none _ _ _ _ _ _) ⟨[a], List.zip [("place" : Str)] ws⟩ = pure (List.zip [("self" : Str), ("place" : Str)] ([a] ++ ws))) (fun _ => rfl) ws h2) us h1)
  have kb_ob := kbn_of (ps := ["self", "number"]) (ks := []) (n := 2) F_Iob (fun {_} us _ => us) (fun r _ => r) (fun _ _ _ _ _ _ us ws h1 h2 => len2 (C := fun us => bindArgs (PySem.W.fnOf "__init__" "NoObject.__init__" (defArgs sIob) (defBody sIob) (defScope sIob) .none _ _ _ _ _ _) ⟨us, []⟩ = pure (List.zip [("self" : Str), ("number" : Str)] us)) (fun _ _ => rfl) us h1)
  have kk_ob := kbn_of (ps := ["self", "number"]) (ks := ["number"]) (n := 1) F_Iob (fun {_} us ws => us ++ ws) (fun r t => r.append t) (fun _ _ _ _ _ _ us ws h1 h2 => len1 (C := fun us => bindArgs (PySem.W.fnOf "__init__" "NoObject.__init__" (defArgs sIob) (defBody sIob) (defScope sIob) .none _ _ _ _ _ _) ⟨us, List.zip [("number" : Str)] ws⟩ = pure (List.zip [("self" : Str), ("number" : Str)] (us ++ ws))) (fun a => len1 (C := fun ws => bindArgs (PySem.W.fnOf "__init__" "NoObject.__init__" (defArgs sIob) (defBody sIob) (defScope sIob) .none _ _ _ _ _ _) ⟨[a], List.zip [("number" : Str)] ws⟩ = pure (List.zip [("self" : Str), ("number" : Str)] ([a] ++ ws))) (fun _ => rfl) ws h2) us h1)
  have kb_ft := kbn_of (ps := ["self", "length"]) (ks := []) (n := 2) F_Ift (fun {_} us _ => us) (fun r _ => r) (fun _ _ _ _ _ _ us ws h1 h2 => len2 (C := fun us => bindArgs (PySem.W.fnOf "__init__" "NoFit.__init__" (defArgs sIft) (defBody sIft) (defScope sIft) .none _ _ _ _ _ _) ⟨us, []⟩ = pure (List.zip [("self" : Str), ("length" : Str)] us)) (fun _ _ => rfl) us h1)
  have kk_ft := kbn_of (ps := ["self", "length"]) (ks := ["length"]) (n := 1) F_Ift (fun {_} us ws => us ++ ws) (fun r t => r.append t) (fun _ _ _ _ _ _ us ws h1 h2 => len1 (C := fun us => bindArgs (PySem.W.fnOf "__init__" "NoFit.__init__" (defArgs sIft) (defBody sIft) (defScope sIft) .none _ _ _ _ _ _) ⟨us, List.zip [("length" : Str)] ws⟩ = pure (List.zip [("self" : Str), ("length" : Str)] (us ++ ws))) (fun a => len1 (C := fun ws => bindArgs (PySem.W.fnOf "__init__" "NoFit.__init__" (defArgs sIft) (defBody sIft) (defScope sIft) .none _ _ _ _ _ _) ⟨[a], List.zip [("length" : Str)] ws⟩ = pure (List.zip [("self" : Str), ("length" : Str)] ([a] ++ ws))) (fun _ => rfl) ws h2) us h1)
  have kb_ct := kbn_of (ps := ["self", "what", "count"]) (ks := []) (n := 3) F_Ict (fun {_} us _ => us) (fun r _ => r) (fun _ _ _ _ _ _ us ws h1 h2 => len3 (C := fun us => bindArgs (PySem.W.fnOf "__init__" "BadCount.__init__" (defArgs sIct) (defBody sIct) (defScope sIct) .none _ _ _ _ _ _) ⟨us, []⟩ = pure (List.zip [("self" : Str), ("what" : Str), ("count" : Str)] us)) (fun _ _ _ => rfl) us h1)
  have kk_ct := kbn_of (ps := ["self", "what", "count"]) (ks := ["count", "what"]) (n := 1) F_Ict (fun {_} us ws => us ++ ws.reverse) (fun r t => r.append (vals_rev2 t)) (fun _ _ _ _ _ _ us ws h1 h2 => len1 (C := fun us => bindArgs (PySem.W.fnOf "__init__" "BadCount.__init__" (defArgs sIct) (defBody sIct) (defScope sIct) .none _ _ _ _ _ _) ⟨us, List.zip [("count" : Str), ("what" : Str)] ws⟩ = pure (List.zip [("self" : Str), ("what" : Str), ("count" : Str)] (us ++ ws.reverse))) (fun a => len2 (C := fun ws => bindArgs (PySem.W.fnOf "__init__" "BadCount.__init__" (defArgs sIct) (defBody sIct) (defScope sIct) .none _ _ _ _ _ _) ⟨[a], List.zip [("count" : Str), ("what" : Str)] ws⟩ = pure (List.zip [("self" : Str), ("what" : Str), ("count" : Str)] ([a] ++ ws.reverse))) (fun _ _ => rfl) ws h2) us h1)
  have kb_nn := kbn_of (ps := ["self", "name"]) (ks := []) (n := 2) F_Inn (fun {_} us _ => us) (fun r _ => r) (fun _ _ _ _ _ _ us ws h1 h2 => len2 (C := fun us => bindArgs (PySem.W.fnOf "__init__" "NoName.__init__" (defArgs sInn) (defBody sInn) (defScope sInn) .none _ _ _ _ _ _) ⟨us, []⟩ = pure (List.zip [("self" : Str), ("name" : Str)] us)) (fun _ _ => rfl) us h1)
  have kk_nn := kbn_of (ps := ["self", "name"]) (ks := ["name"]) (n := 1) F_Inn (fun {_} us ws => us ++ ws) (fun r t => r.append t) (fun _ _ _ _ _ _ us ws h1 h2 => len1 (C := fun us => bindArgs (PySem.W.fnOf "__init__" "NoName.__init__" (defArgs sInn) (defBody sInn) (defScope sInn) .none _ _ _ _ _ _) ⟨us, List.zip [("name" : Str)] ws⟩ = pure (List.zip [("self" : Str), ("name" : Str)] (us ++ ws))) (fun a => len1 (C := fun ws => bindArgs (PySem.W.fnOf "__init__" "NoName.__init__" (defArgs sInn) (defBody sInn) (defScope sInn) .none _ _ _ _ _ _) ⟨[a], List.zip [("name" : Str)] ws⟩ = pure (List.zip [("self" : Str), ("name" : Str)] ([a] ++ ws))) (fun _ => rfl) ws h2) us h1)
  have kb_fl := kbn_of (ps := ["self", "name"]) (ks := []) (n := 2) F_Ifl (fun {_} us _ => us) (fun r _ => r) (fun _ _ _ _ _ _ us ws h1 h2 => len2 (C := fun us => bindArgs (PySem.W.fnOf "__init__" "NoFile.__init__" (defArgs sIfl) (defBody sIfl) (defScope sIfl) .none _ _ _ _ _ _) ⟨us, []⟩ = pure (List.zip [("self" : Str), ("name" : Str)] us)) (fun _ _ => rfl) us h1)
  have kk_fl := kbn_of (ps := ["self", "name"]) (ks := ["name"]) (n := 1) F_Ifl (fun {_} us ws => us ++ ws) (fun r t => r.append t) (fun _ _ _ _ _ _ us ws h1 h2 => len1 (C := fun us => bindArgs (PySem.W.fnOf "__init__" "NoFile.__init__" (defArgs sIfl) (defBody sIfl) (defScope sIfl) .none _ _ _ _ _ _) ⟨us, List.zip [("name" : Str)] ws⟩ = pure (List.zip [("self" : Str), ("name" : Str)] (us ++ ws))) (fun a => len1 (C := fun ws => bindArgs (PySem.W.fnOf "__init__" "NoFile.__init__" (defArgs sIfl) (defBody sIfl) (defScope sIfl) .none _ _ _ _ _ _) ⟨[a], List.zip [("name" : Str)] ws⟩ = pure (List.zip [("self" : Str), ("name" : Str)] ([a] ++ ws))) (fun _ => rfl) ws h2) us h1)
  have kb_tx := kbn_of (ps := ["self", "place"]) (ks := []) (n := 2) F_Itx (fun {_} us _ => us) (fun r _ => r) (fun _ _ _ _ _ _ us ws h1 h2 => len2 (C := fun us => bindArgs (PySem.W.fnOf "__init__" "BadText.__init__" (defArgs sItx) (defBody sItx) (defScope sItx) .none _ _ _ _ _ _) ⟨us, []⟩ = pure (List.zip [("self" : Str), ("place" : Str)] us)) (fun _ _ => rfl) us h1)
  have kk_tx := kbn_of (ps := ["self", "place"]) (ks := ["place"]) (n := 1) F_Itx (fun {_} us ws => us ++ ws) (fun r t => r.append t) (fun _ _ _ _ _ _ us ws h1 h2 => len1 (C := fun us => bindArgs (PySem.W.fnOf "__init__" "BadText.__init__" (defArgs sItx) (defBody sItx) (defScope sItx) .none _ _ _ _ _ _) ⟨us, List.zip [("place" : Str)] ws⟩ = pure (List.zip [("self" : Str), ("place" : Str)] (us ++ ws))) (fun a => len1 (C := fun ws => bindArgs (PySem.W.fnOf "__init__" "BadText.__init__" (defArgs sItx) (defBody sItx) (defScope sItx) .none _ _ _ _ _ _) ⟨[a], List.zip [("place" : Str)] ws⟩ = pure (List.zip [("self" : Str), ("place" : Str)] ([a] ++ ws))) (fun _ => rfl) ws h2) us h1)
  have D : Df K a := ⟨(Kd.pick (PySem.W.fnOf "__init__" "NoValue.__init__" (defArgs sIvl) (defBody sIvl) (defScope sIvl) .none kV_Ivl dc_Ivl pm_Ivl an_Ivl cd_Ivl ct_Ivl) (PySem.W.fnOf "__init__" "Large.__init__" (defArgs sIlg) (defBody sIlg) (defScope sIlg) .none kV_Ilg dc_Ilg pm_Ilg an_Ilg cd_Ilg ct_Ilg) (PySem.W.fnOf "__init__" "NoBytes.__init__" (defArgs sIbt) (defBody sIbt) (defScope sIbt) .none kV_Ibt dc_Ibt pm_Ibt an_Ibt cd_Ibt ct_Ibt) (PySem.W.fnOf "__init__" "Torn.__init__" (defArgs sItn) (defBody sItn) (defScope sItn) .none kV_Itn dc_Itn pm_Itn an_Itn cd_Itn ct_Itn) (PySem.W.fnOf "__init__" "NoPart.__init__" (defArgs sIpt) (defBody sIpt) (defScope sIpt) .none kV_Ipt dc_Ipt pm_Ipt an_Ipt cd_Ipt ct_Ipt) (PySem.W.fnOf "__init__" "NoPlace.__init__" (defArgs sIpl) (defBody sIpl) (defScope sIpl) .none kV_Ipl dc_Ipl pm_Ipl an_Ipl cd_Ipl ct_Ipl) (PySem.W.fnOf "__init__" "NoObject.__init__" (defArgs sIob) (defBody sIob) (defScope sIob) .none kV_Iob dc_Iob pm_Iob an_Iob cd_Iob ct_Iob) (PySem.W.fnOf "__init__" "NoFit.__init__" (defArgs sIft) (defBody sIft) (defScope sIft) .none kV_Ift dc_Ift pm_Ift an_Ift cd_Ift ct_Ift) (PySem.W.fnOf "__init__" "BadCount.__init__" (defArgs sIct) (defBody sIct) (defScope sIct) .none kV_Ict dc_Ict pm_Ict an_Ict cd_Ict ct_Ict) (PySem.W.fnOf "__init__" "NoName.__init__" (defArgs sInn) (defBody sInn) (defScope sInn) .none kV_Inn dc_Inn pm_Inn an_Inn cd_Inn ct_Inn) (PySem.W.fnOf "__init__" "NoFile.__init__" (defArgs sIfl) (defBody sIfl) (defScope sIfl) .none kV_Ifl dc_Ifl pm_Ifl an_Ifl cd_Ifl ct_Ifl) (PySem.W.fnOf "told" "NoBack.told" (defArgs sTbk) (defBody sTbk) (defScope sTbk) .none kV_Tbk dc_Tbk pm_Tbk an_Tbk cd_Tbk ct_Tbk) (PySem.W.fnOf "__init__" "BadText.__init__" (defArgs sItx) (defBody sItx) (defScope sItx) .none kV_Itx dc_Itx pm_Itx an_Itx cd_Itx ct_Itx)),
    (Kd.pick (PySem.W.fnOf "told" "NoValue.told" (defArgs sTvl) (defBody sTvl) (defScope sTvl) .none kV_Tvl dc_Tvl pm_Tvl an_Tvl cd_Tvl ct_Tvl) (PySem.W.fnOf "told" "Large.told" (defArgs sTlg) (defBody sTlg) (defScope sTlg) .none kV_Tlg dc_Tlg pm_Tlg an_Tlg cd_Tlg ct_Tlg) (PySem.W.fnOf "told" "NoBytes.told" (defArgs sTbt) (defBody sTbt) (defScope sTbt) .none kV_Tbt dc_Tbt pm_Tbt an_Tbt cd_Tbt ct_Tbt) (PySem.W.fnOf "told" "Torn.told" (defArgs sTtn) (defBody sTtn) (defScope sTtn) .none kV_Ttn dc_Ttn pm_Ttn an_Ttn cd_Ttn ct_Ttn) (PySem.W.fnOf "told" "NoPart.told" (defArgs sTpt) (defBody sTpt) (defScope sTpt) .none kV_Tpt dc_Tpt pm_Tpt an_Tpt cd_Tpt ct_Tpt) (PySem.W.fnOf "told" "NoPlace.told" (defArgs sTpl) (defBody sTpl) (defScope sTpl) .none kV_Tpl dc_Tpl pm_Tpl an_Tpl cd_Tpl ct_Tpl) (PySem.W.fnOf "told" "NoObject.told" (defArgs sTob) (defBody sTob) (defScope sTob) .none kV_Tob dc_Tob pm_Tob an_Tob cd_Tob ct_Tob) (PySem.W.fnOf "told" "NoFit.told" (defArgs sTft) (defBody sTft) (defScope sTft) .none kV_Tft dc_Tft pm_Tft an_Tft cd_Tft ct_Tft) (PySem.W.fnOf "told" "BadCount.told" (defArgs sTct) (defBody sTct) (defScope sTct) .none kV_Tct dc_Tct pm_Tct an_Tct cd_Tct ct_Tct) (PySem.W.fnOf "told" "NoName.told" (defArgs sTnn) (defBody sTnn) (defScope sTnn) .none kV_Tnn dc_Tnn pm_Tnn an_Tnn cd_Tnn ct_Tnn) (PySem.W.fnOf "told" "NoFile.told" (defArgs sTfl) (defBody sTfl) (defScope sTfl) .none kV_Tfl dc_Tfl pm_Tfl an_Tfl cd_Tfl ct_Tfl) (PySem.W.fnOf "told" "NoBack.told" (defArgs sTbk) (defBody sTbk) (defScope sTbk) .none kV_Tbk dc_Tbk pm_Tbk an_Tbk cd_Tbk ct_Tbk) (PySem.W.fnOf "told" "BadText.told" (defArgs sTtx) (defBody sTtx) (defScope sTtx) .none kV_Ttx dc_Ttx pm_Ttx an_Ttx cd_Ttx ct_Ttx)),
    F_Ivl, F_Tvl, F_Ilg, F_Tlg, F_Ibt, F_Tbt, F_Itn, F_Ttn, F_Ipt, F_Tpt, F_Ipl, F_Tpl, F_Iob, F_Tob, F_Ift, F_Tft, F_Ict, F_Tct, F_Inn, F_Tnn, F_Ifl, F_Tfl, F_Tbk, F_Itx, F_Ttx, kb_vl, kk_vl, kb_lg, kk_lg, kb_bt, kk_bt, kb_tn, kk_tn, kb_pt, kk_pt, kb_pl, kk_pl, kb_ob, kk_ob, kb_ft, kk_ft, kb_ct, kk_ct, kb_nn, kk_nn, kb_fl, kk_fl, kb_tx, kk_tx, (Kd.all' b_Tvl b_Tlg b_Tbt b_Ttn b_Tpt b_Tpl b_Tob b_Tft b_Tct b_Tnn b_Tfl b_Tbk b_Ttx)⟩
  refine ⟨PySem.W.fnOf "law" "law" (defArgs sLaw) (defBody sLaw) (defScope sLaw) .none kV_Law dc_Law pm_Law an_Law cd_Law ct_Law, spLaw K, fun s v => .of_eq rfl, fun H p ns hl hS => ⟨p, ns, rfl, hS, hl, fun _ => rfl⟩, fun base _ _ => ?_⟩
  exact ok_Law (a := a) (l := ld) F_Law T D L LD
end G58

set_option Elab.async false
set_option linter.all false
set_option maxRecDepth 100000
set_option maxHeartbeats 8000000
open PySem PySem.W PyProof.Rows
set_option maxRecDepth 100000 in
set_option maxHeartbeats 0 in
theorem PySem.Challenge.cw_nestfile_k05_errors_holds : PySem.Challenge.rw_nestfile_k05_errors.Holds := by
  w_on; o_law; k_head; (case hw => w_witness2)
  k_fill
  first
    | refine G58.walk_G (l := PySem.Challenge.rw_nestfile_k05_errors) (n := 63) (k := 5) (x := "_law_script") rfl (by decide) rfl ⟨rfl, by decide, by decide⟩ (fun w h Y => PySem.W.kIn_of Y) ?F
    | refine G58.walk_G (l := PySem.Challenge.rw_nestfile_k05_errors) (n := 63) (k := 5) (x := "_law_script") rfl (by decide) rfl ⟨rfl, by decide, by decide⟩ (fun w h Y => PySem.W.km_in_of Y) ?F
  case F =>
    intro w mg fa h Y KX G hmg
    refine' G58.all_mk KX G hmg ?aN ?aC_vl ?xL_vl ?xv_vl ?sa_vl ?ga_vl ?gg_vl ?cl_vl ?no_vl_path ?hd_vl ?kC_vl ?eC_vl ?tC_vl ?ob_vl ?a_Ivl ?t_Ivl ?l_Ivl ?c_Ivl ?k_Ivl ?a_Tvl ?i_Tvl ?l_Tvl ?c_Tvl ?k_Tvl ?aC_lg ?xL_lg ?xv_lg ?sa_lg ?ga_lg ?gg_lg ?cl_lg ?no_lg_what ?hd_lg ?kC_lg ?eC_lg ?tC_lg ?ob_lg ?a_Ilg ?t_Ilg ?l_Ilg ?c_Ilg ?k_Ilg ?a_Tlg ?i_Tlg ?l_Tlg ?c_Tlg ?k_Tlg ?aC_bt ?xL_bt ?xv_bt ?sa_bt ?ga_bt ?gg_bt ?cl_bt ?no_bt_place ?hd_bt ?kC_bt ?eC_bt ?tC_bt ?ob_bt ?a_Ibt ?t_Ibt ?l_Ibt ?c_Ibt ?k_Ibt ?a_Tbt ?i_Tbt ?l_Tbt ?c_Tbt ?k_Tbt ?aC_tn ?xL_tn ?xv_tn ?sa_tn ?ga_tn ?gg_tn ?cl_tn ?no_tn_word ?no_tn_place ?hd_tn ?kC_tn ?eC_tn ?tC_tn ?ob_tn ?a_Itn ?t_Itn ?l_Itn ?c_Itn ?k_Itn ?a_Ttn ?i_Ttn ?l_Ttn ?c_Ttn ?k_Ttn ?aC_pt ?xL_pt ?xv_pt ?sa_pt ?ga_pt ?gg_pt ?cl_pt ?no_pt_length ?hd_pt ?kC_pt ?eC_pt ?tC_pt ?ob_pt ?a_Ipt ?t_Ipt ?l_Ipt ?c_Ipt ?k_Ipt ?a_Tpt ?i_Tpt ?l_Tpt ?c_Tpt ?k_Tpt ?aC_pl ?xL_pl ?xv_pl ?sa_pl ?ga_pl ?gg_pl ?cl_pl ?no_pl_place ?hd_pl ?kC_pl ?eC_pl ?tC_pl ?ob_pl ?a_Ipl ?t_Ipl ?l_Ipl ?c_Ipl ?k_Ipl ?a_Tpl ?i_Tpl ?l_Tpl ?c_Tpl ?k_Tpl ?aC_ob ?xL_ob ?xv_ob ?sa_ob ?ga_ob ?gg_ob ?cl_ob ?no_ob_number ?hd_ob ?kC_ob ?eC_ob ?tC_ob ?ob_ob ?a_Iob ?t_Iob ?l_Iob ?c_Iob ?k_Iob ?a_Tob ?i_Tob ?l_Tob ?c_Tob ?k_Tob ?aC_ft ?xL_ft ?xv_ft ?sa_ft ?ga_ft ?gg_ft ?cl_ft ?no_ft_length ?hd_ft ?kC_ft ?eC_ft ?tC_ft ?ob_ft ?a_Ift ?t_Ift ?l_Ift ?c_Ift ?k_Ift ?a_Tft ?i_Tft ?l_Tft ?c_Tft ?k_Tft ?aC_ct ?xL_ct ?xv_ct ?sa_ct ?ga_ct ?gg_ct ?cl_ct ?no_ct_what ?no_ct_count ?hd_ct ?kC_ct ?eC_ct ?tC_ct ?ob_ct ?a_Ict ?t_Ict ?l_Ict ?c_Ict ?k_Ict ?a_Tct ?i_Tct ?l_Tct ?c_Tct ?k_Tct ?aC_nn ?xL_nn ?xv_nn ?sa_nn ?ga_nn ?gg_nn ?cl_nn ?no_nn_name ?hd_nn ?kC_nn ?eC_nn ?tC_nn ?ob_nn ?a_Inn ?t_Inn ?l_Inn ?c_Inn ?k_Inn ?a_Tnn ?i_Tnn ?l_Tnn ?c_Tnn ?k_Tnn ?aC_fl ?xL_fl ?xv_fl ?sa_fl ?ga_fl ?gg_fl ?cl_fl ?no_fl_name ?hd_fl ?kC_fl ?eC_fl ?tC_fl ?ob_fl ?a_Ifl ?t_Ifl ?l_Ifl ?c_Ifl ?k_Ifl ?a_Tfl ?i_Tfl ?l_Tfl ?c_Tfl ?k_Tfl ?aC_bk ?xL_bk ?xv_bk ?sa_bk ?ga_bk ?gg_bk ?cl_bk ?hd_bk ?kC_bk ?eC_bk ?tC_bk ?ob_bk ?a_Tbk ?i_Tbk ?l_Tbk ?c_Tbk ?k_Tbk ?aC_tx ?xL_tx ?xv_tx ?sa_tx ?ga_tx ?gg_tx ?cl_tx ?no_tx_place ?hd_tx ?kC_tx ?eC_tx ?tC_tx ?ob_tx ?a_Itx ?t_Itx ?l_Itx ?c_Itx ?k_Itx ?a_Ttx ?i_Ttx ?l_Ttx ?c_Ttx ?k_Ttx ?sp1 ?tk1 ?q_vl_lg ?q_vl_bt ?q_vl_tn ?q_vl_pt ?q_vl_pl ?q_vl_ob ?q_vl_ft ?q_vl_ct ?q_vl_nn ?q_vl_fl ?q_vl_bk ?q_vl_tx ?qN_vl ?qV_vl ?q_lg_vl ?q_lg_bt ?q_lg_tn ?q_lg_pt ?q_lg_pl ?q_lg_ob ?q_lg_ft ?q_lg_ct ?q_lg_nn ?q_lg_fl ?q_lg_bk ?q_lg_tx ?qN_lg ?qV_lg ?q_bt_vl ?q_bt_lg ?q_bt_tn ?q_bt_pt ?q_bt_pl ?q_bt_ob ?q_bt_ft ?q_bt_ct ?q_bt_nn ?q_bt_fl ?q_bt_bk ?q_bt_tx ?qN_bt ?qV_bt ?q_tn_vl ?q_tn_lg ?q_tn_bt ?q_tn_pt ?q_tn_pl ?q_tn_ob ?q_tn_ft ?q_tn_ct ?q_tn_nn ?q_tn_fl ?q_tn_bk ?q_tn_tx ?qN_tn ?qV_tn ?q_pt_vl ?q_pt_lg ?q_pt_bt ?q_pt_tn ?q_pt_pl ?q_pt_ob ?q_pt_ft ?q_pt_ct ?q_pt_nn ?q_pt_fl ?q_pt_bk ?q_pt_tx ?qN_pt ?qV_pt ?q_pl_vl ?q_pl_lg ?q_pl_bt ?q_pl_tn ?q_pl_pt ?q_pl_ob ?q_pl_ft ?q_pl_ct ?q_pl_nn ?q_pl_fl ?q_pl_bk ?q_pl_tx ?qN_pl ?qV_pl ?q_ob_vl ?q_ob_lg ?q_ob_bt ?q_ob_tn ?q_ob_pt ?q_ob_pl ?q_ob_ft ?q_ob_ct ?q_ob_nn ?q_ob_fl ?q_ob_bk ?q_ob_tx ?qN_ob ?qV_ob ?q_ft_vl ?q_ft_lg ?q_ft_bt ?q_ft_tn ?q_ft_pt ?q_ft_pl ?q_ft_ob ?q_ft_ct ?q_ft_nn ?q_ft_fl ?q_ft_bk ?q_ft_tx ?qN_ft ?qV_ft ?q_ct_vl ?q_ct_lg ?q_ct_bt ?q_ct_tn ?q_ct_pt ?q_ct_pl ?q_ct_ob ?q_ct_ft ?q_ct_nn ?q_ct_fl ?q_ct_bk ?q_ct_tx ?qN_ct ?qV_ct ?q_nn_vl ?q_nn_lg ?q_nn_bt ?q_nn_tn ?q_nn_pt ?q_nn_pl ?q_nn_ob ?q_nn_ft ?q_nn_ct ?q_nn_fl ?q_nn_bk ?q_nn_tx ?qN_nn ?qV_nn ?q_fl_vl ?q_fl_lg ?q_fl_bt ?q_fl_tn ?q_fl_pt ?q_fl_pl ?q_fl_ob ?q_fl_ft ?q_fl_ct ?q_fl_nn ?q_fl_bk ?q_fl_tx ?qN_fl ?qV_fl ?q_bk_vl ?q_bk_lg ?q_bk_bt ?q_bk_tn ?q_bk_pt ?q_bk_pl ?q_bk_ob ?q_bk_ft ?q_bk_ct ?q_bk_nn ?q_bk_fl ?q_bk_tx ?qN_bk ?qV_bk ?q_tx_vl ?q_tx_lg ?q_tx_bt ?q_tx_tn ?q_tx_pt ?q_tx_pl ?q_tx_ob ?q_tx_ft ?q_tx_ct ?q_tx_nn ?q_tx_fl ?q_tx_bk ?qN_tx ?qV_tx ?qE ?ex0 ?a_Src ?l_Src ?c_Src ?k_Src ?a_Drw ?l_Drw ?c_Drw ?k_Drw ?a_Pik ?l_Pik ?c_Pik ?k_Pik ?a_Pla ?l_Pla ?c_Pla ?k_Pla ?a_Nam ?l_Nam ?c_Nam ?k_Nam ?a_Fld ?l_Fld ?c_Fld ?k_Fld ?a_Cls ?l_Cls ?c_Cls ?k_Cls ?a_Rgt ?l_Rgt ?c_Rgt ?k_Rgt ?a_Law ?l_Law ?c_Law ?k_Law ?z_isinstance ?z_tuple ?z_list ?z_len ?z_abs ?z_int ?z_repr ?z_zip ?z_ValueError
    (case aN => k_is)
    (case aC_vl => k_is)
    (case xL_vl => k_is)
    (case xv_vl => decide +kernel)
    (case sa_vl => k_is)
    (case ga_vl => k_is)
    (case gg_vl => k_is)
    (case cl_vl => k_is)
    (case no_vl_path => k_is)
    (case hd_vl => k_is)
    (case kC_vl => k_is)
    (case eC_vl => k_is)
    (case tC_vl => k_is)
    (case ob_vl => k_is)
    (case a_Ivl => k_is)
    (case t_Ivl => k_is)
    (case l_Ivl => k_is)
    (case c_Ivl => k_is)
    (case k_Ivl => k_is)
    (case a_Tvl => k_is)
    (case i_Tvl => k_is)
    (case l_Tvl => k_is)
    (case c_Tvl => k_is)
    (case k_Tvl => k_is)
    (case aC_lg => k_is)
    (case xL_lg => k_is)
    (case xv_lg => decide +kernel)
    (case sa_lg => k_is)
    (case ga_lg => k_is)
    (case gg_lg => k_is)
    (case cl_lg => k_is)
    (case no_lg_what => k_is)
    (case hd_lg => k_is)
    (case kC_lg => k_is)
    (case eC_lg => k_is)
    (case tC_lg => k_is)
    (case ob_lg => k_is)
    (case a_Ilg => k_is)
    (case t_Ilg => k_is)
    (case l_Ilg => k_is)
    (case c_Ilg => k_is)
    (case k_Ilg => k_is)
    (case a_Tlg => k_is)
    (case i_Tlg => k_is)
    (case l_Tlg => k_is)
    (case c_Tlg => k_is)
    (case k_Tlg => k_is)
    (case aC_bt => k_is)
    (case xL_bt => k_is)
    (case xv_bt => decide +kernel)
    (case sa_bt => k_is)
    (case ga_bt => k_is)
    (case gg_bt => k_is)
    (case cl_bt => k_is)
    (case no_bt_place => k_is)
    (case hd_bt => k_is)
    (case kC_bt => k_is)
    (case eC_bt => k_is)
    (case tC_bt => k_is)
    (case ob_bt => k_is)
    (case a_Ibt => k_is)
    (case t_Ibt => k_is)
    (case l_Ibt => k_is)
    (case c_Ibt => k_is)
    (case k_Ibt => k_is)
    (case a_Tbt => k_is)
    (case i_Tbt => k_is)
    (case l_Tbt => k_is)
    (case c_Tbt => k_is)
    (case k_Tbt => k_is)
    (case aC_tn => k_is)
    (case xL_tn => k_is)
    (case xv_tn => decide +kernel)
    (case sa_tn => k_is)
    (case ga_tn => k_is)
    (case gg_tn => k_is)
    (case cl_tn => k_is)
    (case no_tn_word => k_is)
    (case no_tn_place => k_is)
    (case hd_tn => k_is)
    (case kC_tn => k_is)
    (case eC_tn => k_is)
    (case tC_tn => k_is)
    (case ob_tn => k_is)
    (case a_Itn => k_is)
    (case t_Itn => k_is)
    (case l_Itn => k_is)
    (case c_Itn => k_is)
    (case k_Itn => k_is)
    (case a_Ttn => k_is)
    (case i_Ttn => k_is)
    (case l_Ttn => k_is)
    (case c_Ttn => k_is)
    (case k_Ttn => k_is)
    (case aC_pt => k_is)
    (case xL_pt => k_is)
    (case xv_pt => decide +kernel)
    (case sa_pt => k_is)
    (case ga_pt => k_is)
    (case gg_pt => k_is)
    (case cl_pt => k_is)
    (case no_pt_length => k_is)
    (case hd_pt => k_is)
    (case kC_pt => k_is)
    (case eC_pt => k_is)
    (case tC_pt => k_is)
    (case ob_pt => k_is)
    (case a_Ipt => k_is)
    (case t_Ipt => k_is)
    (case l_Ipt => k_is)
    (case c_Ipt => k_is)
    (case k_Ipt => k_is)
    (case a_Tpt => k_is)
    (case i_Tpt => k_is)
    (case l_Tpt => k_is)
    (case c_Tpt => k_is)
    (case k_Tpt => k_is)
    (case aC_pl => k_is)
    (case xL_pl => k_is)
    (case xv_pl => decide +kernel)
    (case sa_pl => k_is)
    (case ga_pl => k_is)
    (case gg_pl => k_is)
    (case cl_pl => k_is)
    (case no_pl_place => k_is)
    (case hd_pl => k_is)
    (case kC_pl => k_is)
    (case eC_pl => k_is)
    (case tC_pl => k_is)
    (case ob_pl => k_is)
    (case a_Ipl => k_is)
    (case t_Ipl => k_is)
    (case l_Ipl => k_is)
    (case c_Ipl => k_is)
    (case k_Ipl => k_is)
    (case a_Tpl => k_is)
    (case i_Tpl => k_is)
    (case l_Tpl => k_is)
    (case c_Tpl => k_is)
    (case k_Tpl => k_is)
    (case aC_ob => k_is)
    (case xL_ob => k_is)
    (case xv_ob => decide +kernel)
    (case sa_ob => k_is)
    (case ga_ob => k_is)
    (case gg_ob => k_is)
    (case cl_ob => k_is)
    (case no_ob_number => k_is)
    (case hd_ob => k_is)
    (case kC_ob => k_is)
    (case eC_ob => k_is)
    (case tC_ob => k_is)
    (case ob_ob => k_is)
    (case a_Iob => k_is)
    (case t_Iob => k_is)
    (case l_Iob => k_is)
    (case c_Iob => k_is)
    (case k_Iob => k_is)
    (case a_Tob => k_is)
    (case i_Tob => k_is)
    (case l_Tob => k_is)
    (case c_Tob => k_is)
    (case k_Tob => k_is)
    (case aC_ft => k_is)
    (case xL_ft => k_is)
    (case xv_ft => decide +kernel)
    (case sa_ft => k_is)
    (case ga_ft => k_is)
    (case gg_ft => k_is)
    (case cl_ft => k_is)
    (case no_ft_length => k_is)
    (case hd_ft => k_is)
    (case kC_ft => k_is)
    (case eC_ft => k_is)
    (case tC_ft => k_is)
    (case ob_ft => k_is)
    (case a_Ift => k_is)
    (case t_Ift => k_is)
    (case l_Ift => k_is)
    (case c_Ift => k_is)
    (case k_Ift => k_is)
    (case a_Tft => k_is)
    (case i_Tft => k_is)
    (case l_Tft => k_is)
    (case c_Tft => k_is)
    (case k_Tft => k_is)
    (case aC_ct => k_is)
    (case xL_ct => k_is)
    (case xv_ct => decide +kernel)
    (case sa_ct => k_is)
    (case ga_ct => k_is)
    (case gg_ct => k_is)
    (case cl_ct => k_is)
    (case no_ct_what => k_is)
    (case no_ct_count => k_is)
    (case hd_ct => k_is)
    (case kC_ct => k_is)
    (case eC_ct => k_is)
    (case tC_ct => k_is)
    (case ob_ct => k_is)
    (case a_Ict => k_is)
    (case t_Ict => k_is)
    (case l_Ict => k_is)
    (case c_Ict => k_is)
    (case k_Ict => k_is)
    (case a_Tct => k_is)
    (case i_Tct => k_is)
    (case l_Tct => k_is)
    (case c_Tct => k_is)
    (case k_Tct => k_is)
    (case aC_nn => k_is)
    (case xL_nn => k_is)
    (case xv_nn => decide +kernel)
    (case sa_nn => k_is)
    (case ga_nn => k_is)
    (case gg_nn => k_is)
    (case cl_nn => k_is)
    (case no_nn_name => k_is)
    (case hd_nn => k_is)
    (case kC_nn => k_is)
    (case eC_nn => k_is)
    (case tC_nn => k_is)
    (case ob_nn => k_is)
    (case a_Inn => k_is)
    (case t_Inn => k_is)
    (case l_Inn => k_is)
    (case c_Inn => k_is)
    (case k_Inn => k_is)
    (case a_Tnn => k_is)
    (case i_Tnn => k_is)
    (case l_Tnn => k_is)
    (case c_Tnn => k_is)
    (case k_Tnn => k_is)
    (case aC_fl => k_is)
    (case xL_fl => k_is)
    (case xv_fl => decide +kernel)
    (case sa_fl => k_is)
    (case ga_fl => k_is)
    (case gg_fl => k_is)
    (case cl_fl => k_is)
    (case no_fl_name => k_is)
    (case hd_fl => k_is)
    (case kC_fl => k_is)
    (case eC_fl => k_is)
    (case tC_fl => k_is)
    (case ob_fl => k_is)
    (case a_Ifl => k_is)
    (case t_Ifl => k_is)
    (case l_Ifl => k_is)
    (case c_Ifl => k_is)
    (case k_Ifl => k_is)
    (case a_Tfl => k_is)
    (case i_Tfl => k_is)
    (case l_Tfl => k_is)
    (case c_Tfl => k_is)
    (case k_Tfl => k_is)
    (case aC_bk => k_is)
    (case xL_bk => k_is)
    (case xv_bk => decide +kernel)
    (case sa_bk => k_is)
    (case ga_bk => k_is)
    (case gg_bk => k_is)
    (case cl_bk => k_is)
    (case hd_bk => k_is)
    (case kC_bk => k_is)
    (case eC_bk => k_is)
    (case tC_bk => k_is)
    (case ob_bk => k_is)
    (case a_Tbk => k_is)
    (case i_Tbk => k_is)
    (case l_Tbk => k_is)
    (case c_Tbk => k_is)
    (case k_Tbk => k_is)
    (case aC_tx => k_is)
    (case xL_tx => k_is)
    (case xv_tx => decide +kernel)
    (case sa_tx => k_is)
    (case ga_tx => k_is)
    (case gg_tx => k_is)
    (case cl_tx => k_is)
    (case no_tx_place => k_is)
    (case hd_tx => k_is)
    (case kC_tx => k_is)
    (case eC_tx => k_is)
    (case tC_tx => k_is)
    (case ob_tx => k_is)
    (case a_Itx => k_is)
    (case t_Itx => k_is)
    (case l_Itx => k_is)
    (case c_Itx => k_is)
    (case k_Itx => k_is)
    (case a_Ttx => k_is)
    (case i_Ttx => k_is)
    (case l_Ttx => k_is)
    (case c_Ttx => k_is)
    (case k_Ttx => k_is)
    (case sp1 => k_is)
    (case tk1 => k_is)
    (case q_vl_lg => kit_is)
    (case q_vl_bt => kit_is)
    (case q_vl_tn => kit_is)
    (case q_vl_pt => kit_is)
    (case q_vl_pl => kit_is)
    (case q_vl_ob => kit_is)
    (case q_vl_ft => kit_is)
    (case q_vl_ct => kit_is)
    (case q_vl_nn => kit_is)
    (case q_vl_fl => kit_is)
    (case q_vl_bk => kit_is)
    (case q_vl_tx => kit_is)
    (case qN_vl => kit_is)
    (case qV_vl => kit_is)
    (case q_lg_vl => kit_is)
    (case q_lg_bt => kit_is)
    (case q_lg_tn => kit_is)
    (case q_lg_pt => kit_is)
    (case q_lg_pl => kit_is)
    (case q_lg_ob => kit_is)
    (case q_lg_ft => kit_is)
    (case q_lg_ct => kit_is)
    (case q_lg_nn => kit_is)
    (case q_lg_fl => kit_is)
    (case q_lg_bk => kit_is)
    (case q_lg_tx => kit_is)
    (case qN_lg => kit_is)
    (case qV_lg => kit_is)
    (case q_bt_vl => kit_is)
    (case q_bt_lg => kit_is)
    (case q_bt_tn => kit_is)
    (case q_bt_pt => kit_is)
    (case q_bt_pl => kit_is)
    (case q_bt_ob => kit_is)
    (case q_bt_ft => kit_is)
    (case q_bt_ct => kit_is)
    (case q_bt_nn => kit_is)
    (case q_bt_fl => kit_is)
    (case q_bt_bk => kit_is)
    (case q_bt_tx => kit_is)
    (case qN_bt => kit_is)
    (case qV_bt => kit_is)
    (case q_tn_vl => kit_is)
    (case q_tn_lg => kit_is)
    (case q_tn_bt => kit_is)
    (case q_tn_pt => kit_is)
    (case q_tn_pl => kit_is)
    (case q_tn_ob => kit_is)
    (case q_tn_ft => kit_is)
    (case q_tn_ct => kit_is)
    (case q_tn_nn => kit_is)
    (case q_tn_fl => kit_is)
    (case q_tn_bk => kit_is)
    (case q_tn_tx => kit_is)
    (case qN_tn => kit_is)
    (case qV_tn => kit_is)
    (case q_pt_vl => kit_is)
    (case q_pt_lg => kit_is)
    (case q_pt_bt => kit_is)
    (case q_pt_tn => kit_is)
    (case q_pt_pl => kit_is)
    (case q_pt_ob => kit_is)
    (case q_pt_ft => kit_is)
    (case q_pt_ct => kit_is)
    (case q_pt_nn => kit_is)
    (case q_pt_fl => kit_is)
    (case q_pt_bk => kit_is)
    (case q_pt_tx => kit_is)
    (case qN_pt => kit_is)
    (case qV_pt => kit_is)
    (case q_pl_vl => kit_is)
    (case q_pl_lg => kit_is)
    (case q_pl_bt => kit_is)
    (case q_pl_tn => kit_is)
    (case q_pl_pt => kit_is)
    (case q_pl_ob => kit_is)
    (case q_pl_ft => kit_is)
    (case q_pl_ct => kit_is)
    (case q_pl_nn => kit_is)
    (case q_pl_fl => kit_is)
    (case q_pl_bk => kit_is)
    (case q_pl_tx => kit_is)
    (case qN_pl => kit_is)
    (case qV_pl => kit_is)
    (case q_ob_vl => kit_is)
    (case q_ob_lg => kit_is)
    (case q_ob_bt => kit_is)
    (case q_ob_tn => kit_is)
    (case q_ob_pt => kit_is)
    (case q_ob_pl => kit_is)
    (case q_ob_ft => kit_is)
    (case q_ob_ct => kit_is)
    (case q_ob_nn => kit_is)
    (case q_ob_fl => kit_is)
    (case q_ob_bk => kit_is)
    (case q_ob_tx => kit_is)
    (case qN_ob => kit_is)
    (case qV_ob => kit_is)
    (case q_ft_vl => kit_is)
    (case q_ft_lg => kit_is)
    (case q_ft_bt => kit_is)
    (case q_ft_tn => kit_is)
    (case q_ft_pt => kit_is)
    (case q_ft_pl => kit_is)
    (case q_ft_ob => kit_is)
    (case q_ft_ct => kit_is)
    (case q_ft_nn => kit_is)
    (case q_ft_fl => kit_is)
    (case q_ft_bk => kit_is)
    (case q_ft_tx => kit_is)
    (case qN_ft => kit_is)
    (case qV_ft => kit_is)
    (case q_ct_vl => kit_is)
    (case q_ct_lg => kit_is)
    (case q_ct_bt => kit_is)
    (case q_ct_tn => kit_is)
    (case q_ct_pt => kit_is)
    (case q_ct_pl => kit_is)
    (case q_ct_ob => kit_is)
    (case q_ct_ft => kit_is)
    (case q_ct_nn => kit_is)
    (case q_ct_fl => kit_is)
    (case q_ct_bk => kit_is)
    (case q_ct_tx => kit_is)
    (case qN_ct => kit_is)
    (case qV_ct => kit_is)
    (case q_nn_vl => kit_is)
    (case q_nn_lg => kit_is)
    (case q_nn_bt => kit_is)
    (case q_nn_tn => kit_is)
    (case q_nn_pt => kit_is)
    (case q_nn_pl => kit_is)
    (case q_nn_ob => kit_is)
    (case q_nn_ft => kit_is)
    (case q_nn_ct => kit_is)
    (case q_nn_fl => kit_is)
    (case q_nn_bk => kit_is)
    (case q_nn_tx => kit_is)
    (case qN_nn => kit_is)
    (case qV_nn => kit_is)
    (case q_fl_vl => kit_is)
    (case q_fl_lg => kit_is)
    (case q_fl_bt => kit_is)
    (case q_fl_tn => kit_is)
    (case q_fl_pt => kit_is)
    (case q_fl_pl => kit_is)
    (case q_fl_ob => kit_is)
    (case q_fl_ft => kit_is)
    (case q_fl_ct => kit_is)
    (case q_fl_nn => kit_is)
    (case q_fl_bk => kit_is)
    (case q_fl_tx => kit_is)
    (case qN_fl => kit_is)
    (case qV_fl => kit_is)
    (case q_bk_vl => kit_is)
    (case q_bk_lg => kit_is)
    (case q_bk_bt => kit_is)
    (case q_bk_tn => kit_is)
    (case q_bk_pt => kit_is)
    (case q_bk_pl => kit_is)
    (case q_bk_ob => kit_is)
    (case q_bk_ft => kit_is)
    (case q_bk_ct => kit_is)
    (case q_bk_nn => kit_is)
    (case q_bk_fl => kit_is)
    (case q_bk_tx => kit_is)
    (case qN_bk => kit_is)
    (case qV_bk => kit_is)
    (case q_tx_vl => kit_is)
    (case q_tx_lg => kit_is)
    (case q_tx_bt => kit_is)
    (case q_tx_tn => kit_is)
    (case q_tx_pt => kit_is)
    (case q_tx_pl => kit_is)
    (case q_tx_ob => kit_is)
    (case q_tx_ft => kit_is)
    (case q_tx_ct => kit_is)
    (case q_tx_nn => kit_is)
    (case q_tx_fl => kit_is)
    (case q_tx_bk => kit_is)
    (case qN_tx => kit_is)
    (case qV_tx => kit_is)
    (case qE => kit_is)
    (case ex0 => k_exc)
    (case a_Src => k_is)
    (case l_Src => k_is)
    (case c_Src => k_is)
    (case k_Src => k_is)
    (case a_Drw => k_is)
    (case l_Drw => k_is)
    (case c_Drw => k_is)
    (case k_Drw => k_is)
    (case a_Pik => k_is)
    (case l_Pik => k_is)
    (case c_Pik => k_is)
    (case k_Pik => k_is)
    (case a_Pla => k_is)
    (case l_Pla => k_is)
    (case c_Pla => k_is)
    (case k_Pla => k_is)
    (case a_Nam => k_is)
    (case l_Nam => k_is)
    (case c_Nam => k_is)
    (case k_Nam => k_is)
    (case a_Fld => k_is)
    (case l_Fld => k_is)
    (case c_Fld => k_is)
    (case k_Fld => k_is)
    (case a_Cls => k_is)
    (case l_Cls => k_is)
    (case c_Cls => k_is)
    (case k_Cls => k_is)
    (case a_Rgt => k_is)
    (case l_Rgt => k_is)
    (case c_Rgt => k_is)
    (case k_Rgt => k_is)
    (case a_Law => k_is)
    (case l_Law => k_is)
    (case c_Law => k_is)
    (case k_Law => k_is)
    (case z_isinstance => k_is)
    (case z_tuple => k_is)
    (case z_list => k_is)
    (case z_len => k_is)
    (case z_abs => k_is)
    (case z_int => k_is)
    (case z_repr => k_is)
    (case z_zip => k_is)
    (case z_ValueError => k_is)
#print axioms PySem.Challenge.cw_nestfile_k05_errors_holds
